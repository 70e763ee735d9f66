/- Kinds, atoms for memory, and the operations that look at it. -/
import Derived.Test.YtkdakjjockfmdaaGreatDoorSl1
import Derived.Laws.AppendOwn
import Derived.Laws.MakeOwn
import Derived.Laws.OwnMore
import Derived.Laws.CopyOwn
import Derived.Deep.MidRow
namespace Go.Proofs.YtkdakjjockfmdaaGreatDoor.SL
open Go Go.RowKit
set_option linter.unusedVariables false
set_option linter.unusedSimpArgs false

/-- How values of a Go type lie in cells. -/
structure Kd (α : Type) where
  sz : Nat
  R : Hp → List Value → α → Prop
  len : ∀ {I cs x}, R I cs x → cs.length = sz
  one : ∀ {I cs x}, R I cs x → ∀ v ∈ cs, v.oneCell' = true
  mono : ∀ {I I' cs x}, Le I I' → R I cs x → R I' cs x
  byt : Bool

/-- A flat kind: the cells hang on the datum alone. -/
def Kd.fl {α : Type} (sz : Nat) (enc : α → List Value) (hl : ∀ x, (enc x).length = sz) (h1 : ∀ x, ∀ v ∈ enc x, v.oneCell' = true) : Kd α :=
  ⟨sz, fun _ cs x => cs = enc x, fun h => by rw [h]; exact hl _, fun h => by rw [h]; exact h1 _, fun _ h => h, false⟩
def Kd.int (k : IntKind) : Kd Int := { Kd.fl 1 (fun x => [.int k x]) (fun _ => rfl) (fun x v h => by simp at h; subst h; rfl) with byt := match k with | .u8 => true | _ => false }
def Kd.bool : Kd Bool := Kd.fl 1 (fun x => [.bool x]) (fun _ => rfl) (fun x v h => by simp at h; subst h; rfl)
def Kd.str : Kd ByteArray := Kd.fl 1 (fun x => [.string x]) (fun _ => rfl) (fun x v h => by simp at h; subst h; rfl)

section
variable {α : Type} (d : Kd α)
def RL (I : Hp) : List Value → List α → Prop
  | cs, [] => cs = []
  | cs, x :: xs => ∃ c1 c2, cs = c1 ++ c2 ∧ d.R I c1 x ∧ RL I c2 xs
variable {d}
theorem RL.len {I : Hp} : ∀ {xs : List α} {cs : List Value}, RL d I cs xs → cs.length = xs.length * d.sz
  | [], _, h => by simp only [RL] at h; subst h; simp
  | _ :: xs, _, ⟨c1, c2, e, h1, h2⟩ => by
    subst e
    rw [List.length_append, d.len h1, RL.len h2, List.length_cons, Nat.add_mul, Nat.one_mul, Nat.add_comm]
theorem RL.one {I : Hp} : ∀ {xs : List α} {cs : List Value}, RL d I cs xs → ∀ v ∈ cs, v.oneCell' = true
  | [], _, h, v, hv => by simp only [RL] at h; subst h; simp at hv
  | _ :: xs, _, ⟨c1, c2, e, h1, h2⟩, v, hv => by
    subst e
    rcases List.mem_append.1 hv with k | k
    · exact d.one h1 v k
    · exact RL.one h2 v k
theorem RL.mono {I I' : Hp} (hI : Le I I') : ∀ {xs : List α} {cs : List Value}, RL d I cs xs → RL d I' cs xs
  | [], _, h => h
  | _ :: xs, _, ⟨c1, c2, e, h1, h2⟩ => ⟨c1, c2, e, d.mono hI h1, RL.mono hI h2⟩
theorem RL.app {I : Hp} : ∀ {xs ys : List α} {cs es : List Value}, RL d I cs xs → RL d I es ys → RL d I (cs ++ es) (xs ++ ys)
  | [], _, _, _, h, k => by simp only [RL] at h; subst h; simpa using k
  | _ :: xs, _, _, _, ⟨c1, c2, e, h1, h2⟩, k => ⟨c1, c2 ++ _, by rw [e, List.append_assoc], h1, RL.app h2 k⟩
/-- One element's cells. -/
theorem RL.get {I : Hp} : ∀ {xs : List α} {cs : List Value} {i : Nat} {x : α}, RL d I cs xs → xs[i]? = some x → ∃ c, d.R I c x ∧ ∀ j v, c[j]? = some v → cs[i * d.sz + j]? = some v
  | [], _, i, _, _, e => by simp at e
  | y :: xs, _, 0, x, ⟨c1, c2, e, h1, h2⟩, h => by
    obtain rfl : y = x := by simpa using h
    refine ⟨c1, h1, fun j v hj => ?_⟩
    have : j < c1.length := by
      rcases Nat.lt_or_ge j c1.length with k | k
      · exact k
      · simp [List.getElem?_eq_none k] at hj
    rw [e, Nat.zero_mul, Nat.zero_add, List.getElem?_append_left this]; exact hj
  | _ :: xs, _, i + 1, x, ⟨c1, c2, e, h1, h2⟩, h => by
    obtain ⟨c, hc, hv⟩ := RL.get (i := i) h2 (by simpa using h)
    refine ⟨c, hc, fun j v hj => ?_⟩
    have := hv j v hj
    have hl := d.len h1
    rw [e, List.getElem?_append_right (by rw [hl, Nat.add_mul]; omega)]
    rw [show (i + 1) * d.sz + j - c1.length = i * d.sz + j from by rw [hl, Nat.add_mul]; omega]
    exact this
/-- A store of one element. -/
theorem RL.set {I : Hp} : ∀ {xs : List α} {cs : List Value} {i : Nat} {y : α} {c : List Value}, RL d I cs xs → i < xs.length → d.R I c y →
    RL d I (cs.take (i * d.sz) ++ c ++ cs.drop (i * d.sz + c.length)) (xs.set i y)
  | [], _, i, _, _, _, e, _ => by simp at e
  | x :: xs, _, 0, y, c, ⟨c1, c2, e, h1, h2⟩, _, hc => by
    refine ⟨c, c2, ?_, hc, h2⟩
    have : c.length = c1.length := (d.len hc).trans (d.len h1).symm
    rw [e]; simp [this]
  | x :: xs, _, i + 1, y, c, ⟨c1, c2, e, h1, h2⟩, hi, hc => by
    refine ⟨c1, _, ?_, h1, RL.set (i := i) h2 (by simpa using hi) hc⟩
    have hl := d.len h1
    rw [e, List.take_append, List.drop_append, hl]
    rw [show (i + 1) * d.sz - d.sz = i * d.sz from by rw [Nat.add_mul]; omega]
    rw [show (i + 1) * d.sz + c.length - d.sz = i * d.sz + c.length from by rw [Nat.add_mul]; omega]
    rw [List.take_of_length_le (l := c1) (by rw [hl, Nat.add_mul]; omega), List.drop_of_length_le (l := c1) (by rw [hl, Nat.add_mul]; omega)]
    simp
theorem RL.rep {I : Hp} {c : List Value} {x : α} (h : d.R I c x) : ∀ m : Nat, RL d I (List.flatten (List.replicate m c)) (List.replicate m x)
  | 0 => by simp [RL]
  | m + 1 => ⟨c, _, by simp [List.replicate_succ], h, RL.rep h m⟩
end

structure Sees (I h : Hp) (w : World) : Prop where
  imm : ∀ b o, I b = some o → w.heap[b]? = some o
  own : ∀ b o, h b = some o → w.heap[b]? = some o
theorem Fits.sees {I h : Hp} {w : World} (f : Fits I h w) : Sees I h w := ⟨f.imm, f.own⟩

/-- A block that is owned, cell by cell. -/
def Blk (b : Nat) (T : TypeId) (cs : List Value) : Asrt := ⟨fun _ h => h b = some (.cells cs.toArray T (0, 0)), fun _ h => h, false, fun h => by cases h⟩

def RoP {α : Type} (d : Kd α) (A : Option Addr) (c : Nat) (xs : List α) (I : Hp) : Prop :=
  xs.length ≤ c ∧ ∃ cs, RL d I cs xs ∧ (xs = [] ∨ ∃ b off C T fr, A = some ⟨b, off, none⟩ ∧ I b = some (.cells C T fr) ∧ ∀ j v, cs[j]? = some v → C[off + j]? = some v)
/-- A slice that nobody writes any more. -/
def Ro {α : Type} (d : Kd α) (A : Option Addr) (c : Nat) (xs : List α) : Asrt :=
  ⟨fun I _ => RoP d A c xs I, fun hI ⟨h, cs, hr, k⟩ => ⟨h, cs, hr.mono hI, k.imp id fun ⟨b, off, C, T, fr, e, hb, hv⟩ => ⟨b, off, C, T, fr, e, hI _ _ hb, hv⟩⟩, true, fun _ {_ _ _} h => h⟩

/-- What is frozen of a block lies behind its cells (or is nothing). -/
def Fz (n : Nat) (fr : Nat × Nat) : Prop := fr = (0, 0) ∨ n ≤ fr.1
theorem Fz.zero {n : Nat} : Fz n (0, 0) := .inl rfl
/-- .. and only bytes are marked so. -/
def Fzd {α : Type} (d : Kd α) (n : Nat) (fr : Nat × Nat) : Prop := Fz n fr ∧ (d.byt = false → fr = (0, 0))
theorem Fzd.zero {α : Type} {d : Kd α} {n : Nat} : Fzd d n (0, 0) := ⟨.inl rfl, fun _ => rfl⟩

def BufP {α : Type} (d : Kd α) (T : TypeId) (A : Option Addr) (c : Nat) (xs : List α) (I h : Hp) : Prop :=
  ∃ cs, RL d I cs xs ∧ ((A = A ∧ c = 0 ∧ xs = []) ∨ ∃ g cur, A = some ⟨g, 0, none⟩ ∧ (∃ fr, h g = some (.cells cur T fr) ∧ Fzd d cur.size fr) ∧ xs.length ≤ c ∧ c ≤ maxLen ∧ cur.size = c * d.sz ∧ cur.toList.take (xs.length * d.sz) = cs)
/-- A slice that is owned with all its room. -/
def Buf {α : Type} (d : Kd α) (T : TypeId) (A : Option Addr) (c : Nat) (xs : List α) : Asrt :=
  ⟨fun I h => BufP d T A c xs I h, fun hI ⟨cs, hr, k⟩ => ⟨cs, hr.mono hI, k⟩, false, fun h => by cases h⟩

/-- Elements that can be read behind a slice. -/
def Src {α : Type} (d : Kd α) (A : Option Addr) (xs : List α) (As : List Asrt) : Prop :=
  ∀ I h w, sepL As I h → Sees I h w → ∃ cs, RL d I cs xs ∧ (xs = [] ∨ ∃ b off, A = some ⟨b, off, none⟩ ∧ ∀ j v, cs[j]? = some v → w.cell? ⟨b, off + j, none⟩ = some v)

theorem cell_of {w : World} {b : Nat} {C : Array Value} {T : TypeId} {fr : Nat × Nat} (h : w.heap[b]? = some (.cells C T fr)) (j : Nat) : w.cell? ⟨b, j, none⟩ = C[j]? := by
  simp [World.cell?, h]

theorem Src.ro {α : Type} {d : Kd α} {A : Option Addr} {c : Nat} {xs : List α} {As : List Asrt} {k : Nat} (hk : As[k]? = some (Ro d A c xs)) : Src d A xs As := by
  intro I h w s f
  obtain ⟨h1, _, ⟨_, cs, hr, hx⟩, _⟩ := sepL_at hk s
  refine ⟨cs, hr, hx.imp id fun ⟨b, off, C, T, fr, e, hb, hv⟩ => ⟨b, off, e, fun j v hj => ?_⟩⟩
  rw [cell_of (f.imm b _ hb)]; exact hv j v hj

theorem Src.buf {α : Type} {d : Kd α} {T : TypeId} {A : Option Addr} {c : Nat} {xs : List α} {As : List Asrt} {k : Nat} (hk : As[k]? = some (Buf d T A c xs)) : Src d A xs As := by
  intro I h w s f
  obtain ⟨h1, l, ⟨cs, hr, hx⟩, _⟩ := sepL_at hk s
  refine ⟨cs, hr, ?_⟩
  rcases hx with ⟨_, _, e⟩ | ⟨g, cur, e, ⟨fr, hb, _⟩, _, _, hs, ht⟩
  · exact .inl e
  · refine .inr ⟨g, 0, e, fun j v hj => ?_⟩
    rw [cell_of (f.own g _ (l g _ hb))]
    have hj' : j < xs.length * d.sz := by
      rw [← hr.len]
      rcases Nat.lt_or_ge j cs.length with q | q
      · exact q
      · simp [List.getElem?_eq_none q] at hj
    rw [← ht, List.getElem?_take] at hj
    simpa [hj'] using hj

def aggD : TypeDesc → Bool
  | .struct _ | .array _ _ => true
  | _ => false
def el (A : Option Addr) (j : Nat) : Addr := (A.getD ⟨0, 0, none⟩).add j
def rd {α : Type} [Inhabited α] (xs : List α) (i : Int) : α := xs.getD i.toNat default
theorem rd_get {α : Type} [Inhabited α] {xs : List α} {i : Int} (h0 : 0 ≤ i) (h1 : i < (xs.length : Int)) : xs[i.toNat]? = some (rd xs i) := by
  have : i.toNat < xs.length := by omega
  simp [rd, List.getD, this]

theorem add_add (A : Addr) (i j : Nat) : (A.add i).add j = A.add (i + j) := by
  by_cases hi : i = 0
  · subst hi; simp [Addr.add]
  · by_cases hj : j = 0
    · subst hj; simp [Addr.add]
    · simp [Addr.add, hi, hj, Nat.add_assoc]

/-- 'o tells v in each world that bears these atoms'. -/
abbrev VR (P : Program) (As : List Asrt) (e : Env) (o : Oper) (v : Value) : Prop := ∀ I h w, sepL As I h → Sees I h w → (execOp (ev e) o).run P w = .ok (.value v) w
theorem V.r {P : Program} {e : Env} {o : Oper} {v : Value} (h : V P e o v) (As : List Asrt) : VR P As e o v := fun _ _ w _ _ => h w

section
variable {P : Program} {n : Nat} {Q : PostT} {e : Env} {ds : List Deferred} {As As' : List Asrt} {d : Option Nat} {ty T T' E : TypeId} {pos : String} {aft : Array Edge} {g : Option (Nat × Bool)} {x y : Operand} {K : Env → List Deferred → List Asrt → Prop}

theorem OA_v {o : Oper} {v : Value} (hd : okDst o.dst n = true) (hv : V P e o v) (h : K (put e o.dst v) ds As) : OA P n o K Q e ds As := OA_val v hd hv h
theorem OA_r {o : Oper} {v : Value} (hd : okDst o.dst n = true) (hv : VR P As e o v) (h : K (put e o.dst v) ds As) : OA P n o K Q e ds As :=
  OA_read v hd (fun I h w s f => hv I h w s f.sees) h

/-- An element's address. -/
theorem VR_index {α : Type} {kd : Kd α} {A : Option Addr} {c : Nat} {xs : List α} {k : IntKind} {i : Int} {sz : Nat} (hu : P.underlying T = some (.slice E)) (hz : (P.info? E).map (·.size) = some sz) (hx : ev e x = .slice A xs.length c) (hy : ev e y = .int k i)
    (hs : Src kd A xs As) (h0 : 0 ≤ i) (h1 : i < (xs.length : Int)) : VR P As e ⟨d, .indexAddr T x y, ty, pos, aft, g⟩ (.pointer (some (el A (i.toNat * sz)))) := by
  intro I h w s f
  obtain ⟨cs, hr, hc⟩ := hs I h w s f
  rcases hc with hc | ⟨b, off, hA, _⟩
  · subst hc; simp at h1; omega
  · subst hA
    cases hq : P.info? E with
    | none => simp [hq] at hz
    | some q =>
      have hz' : q.size = sz := by simpa [hq] using hz
      simp [execOp, hx, hy, Instr.indexAt, asIntOf, run_underlying hu, h0, h1, sizeOf, typeInfo, hq, hz', el]

theorem V_fieldAddrAt {fs : Array Field} {f : Field} {i m : Nat} {B : Addr} (hu : P.underlying T = some (.struct fs)) (hf : fs[i]? = some f) (hz : ((P.info? f.type).map fun i => decide (i.size = 0)) = some false) (hx : ev e x = .pointer (some (B.add m))) :
    V P e ⟨d, .fieldAddr T x i, ty, pos, aft, g⟩ (.pointer (some (B.add (m + f.offset)))) := fun w => by
  rw [V_fieldAddr hu hf hz hx w, add_add]

theorem isAgg_true {td : TypeDesc} (hu : P.underlying T = some td) (ha : aggD td = true) (w : World) : (isAgg T).run P w = .ok true w := by
  unfold isAgg
  rw [Sem.run_bind, run_underlying hu w]
  cases td <;> simp_all [aggD]

theorem isAgg_false {td : TypeDesc} (hu : P.underlying T = some td) (ha : aggD td = false) (w : World) : (isAgg T).run P w = .ok false w := by
  unfold isAgg
  rw [Sem.run_bind, run_underlying hu w]
  cases td <;> simp_all [aggD]

/-- A load of one cell of an element. -/
theorem VR_load_el {α : Type} [Inhabited α] {kd : Kd α} {enc : α → List Value} {A : Option Addr} {xs : List α} {i : Int} {j m sz : Nat} {v : Value} {td : TypeDesc} (hu : P.underlying T = some td) (ha : aggD td = false)
    (hx : ev e x = .pointer (some ((el A j).add m))) (hj : j = i.toNat * sz) (hsz : kd.sz = sz) (hs : Src kd A xs As) (h0 : 0 ≤ i) (h1 : i < (xs.length : Int)) (he : ∀ I c, kd.R I c (rd xs i) → c = enc (rd xs i)) (hv : (enc (rd xs i))[m]? = some v) :
    VR P As e ⟨d, .load T x, ty, pos, aft, g⟩ v := by
  intro I h w s f
  obtain ⟨cs, hr, hc⟩ := hs I h w s f
  rcases hc with hc | ⟨b, off, hA, hcell⟩
  · subst hc; simp at h1; omega
  · subst hA
    obtain ⟨c, hc, hg⟩ := RL.get hr (rd_get h0 h1)
    rw [he I c hc] at hg
    have hl := hcell _ _ (hg m v hv)
    subst hj; subst hsz
    have ea : (el (some ⟨b, off, none⟩) (i.toNat * kd.sz)).add m = ⟨b, off + (i.toNat * kd.sz + m), none⟩ := by
      simp only [el, Option.getD_some, add_add, Addr.add_lit, Nat.add_assoc]
    simp [execOp, hx, ea, Instr.loadAt, Instr.sureAddr, loadVar, isAgg_false hu ha, hl]

theorem load_agg {b o : Nat} {vs : List Value} {td : TypeDesc} (hu : P.underlying T = some td) (ha : aggD td = true) (hz : (P.info? T).map (·.size) = some vs.length) {w : World}
    (h : ∀ j v, vs[j]? = some v → w.cell? ⟨b, o + j, none⟩ = some v) : (Instr.loadAt T (.pointer (some ⟨b, o, none⟩))).run P w = .ok (.agg vs.toArray) w := by
  have hl : (loadCells ⟨b, o, none⟩ vs.length).run P w = .ok vs.toArray w := run_loadCells_list (P := P) w ⟨b, o, none⟩ vs (fun j v hv => by rw [Addr.add_lit]; exact h j v hv)
  cases hq : P.info? T with
  | none => simp [hq] at hz
  | some q =>
    have hz' : q.size = vs.length := by simpa [hq] using hz
    simp [Instr.loadAt, Instr.sureAddr, loadVar, isAgg_true hu ha, sizeOf, typeInfo, hq, hz', hl]

/-- A load of a struct out of an element (the whole one, or a part). -/
theorem VR_loadA_el {α : Type} [Inhabited α] {kd : Kd α} {enc : α → List Value} {A : Option Addr} {xs : List α} {i : Int} {j m sz : Nat} {vs : List Value} {td : TypeDesc} (hu : P.underlying T = some td) (ha : aggD td = true)
    (hz : (P.info? T).map (·.size) = some vs.length)
    (hx : ev e x = .pointer (some ((el A j).add m))) (hj : j = i.toNat * sz) (hsz : kd.sz = sz) (hs : Src kd A xs As) (h0 : 0 ≤ i) (h1 : i < (xs.length : Int)) (he : ∀ I c, kd.R I c (rd xs i) → c = enc (rd xs i)) (hv : ((enc (rd xs i)).drop m).take vs.length = vs) :
    VR P As e ⟨d, .load T x, ty, pos, aft, g⟩ (.agg vs.toArray) := by
  intro I h w s f
  obtain ⟨cs, hr, hc⟩ := hs I h w s f
  rcases hc with hc | ⟨b, off, hA, hcell⟩
  · subst hc; simp at h1; omega
  · subst hA
    obtain ⟨c, hc, hg⟩ := RL.get hr (rd_get h0 h1)
    rw [he I c hc] at hg
    subst hj; subst hsz
    have ea : (el (some ⟨b, off, none⟩) (i.toNat * kd.sz)).add m = ⟨b, off + (i.toNat * kd.sz + m), none⟩ := by
      simp only [el, Option.getD_some, add_add, Addr.add_lit, Nat.add_assoc]
    have hl := load_agg (P := P) (b := b) (o := off + (i.toNat * kd.sz + m)) hu ha hz (w := w) (fun q v hq => by
      rw [← hv, List.getElem?_take] at hq
      split at hq
      · rw [List.getElem?_drop] at hq
        have := hcell _ _ (hg _ v hq)
        rw [← this]; congr 2; omega
      · cases hq)
    simp only [execOp, hx, ea, Sem.run_bind, hl, Result.andThen_ok, Sem.run_pure]

/-- Loads out of an owned block. -/
theorem VR_load_blk {b m k : Nat} {cs : List Value} {v : Value} {td : TypeDesc} (hu : P.underlying T = some td) (ha : aggD td = false) (hk : As[k]? = some (Blk b T' cs))
    (hx : ev e x = .pointer (some ((⟨b, 0, none⟩ : Addr).add m))) (hv : cs[m]? = some v) : VR P As e ⟨d, .load T x, ty, pos, aft, g⟩ v := by
  intro I h w s f
  obtain ⟨h1, l, p, _⟩ := sepL_at hk s
  have hc := cell_of (f.own b _ (l b _ p)) m
  simp only [List.getElem?_toArray, hv] at hc
  rw [Addr.add_lit, Nat.zero_add] at hx
  simp [execOp, hx, Instr.loadAt, Instr.sureAddr, loadVar, isAgg_false hu ha, hc]

theorem VR_loadA_blk {b m k : Nat} {cs vs : List Value} {td : TypeDesc} (hu : P.underlying T = some td) (ha : aggD td = true) (hz : (P.info? T).map (·.size) = some vs.length) (hk : As[k]? = some (Blk b T' cs))
    (hx : ev e x = .pointer (some ((⟨b, 0, none⟩ : Addr).add m))) (hv : (cs.drop m).take vs.length = vs) : VR P As e ⟨d, .load T x, ty, pos, aft, g⟩ (.agg vs.toArray) := by
  intro I h w s f
  obtain ⟨h1, l, p, _⟩ := sepL_at hk s
  have hh := f.own b _ (l b _ p)
  rw [Addr.add_lit, Nat.zero_add] at hx
  have hl := load_agg (P := P) (b := b) (o := m) hu ha hz (w := w) (fun q v hq => by
    rw [← hv, List.getElem?_take] at hq
    split at hq
    · rw [List.getElem?_drop] at hq
      rw [cell_of hh]; simpa using hq
    · cases hq)
  simp only [execOp, hx, Sem.run_bind, hl, Result.andThen_ok, Sem.run_pure]

/-! ### new blocks -/
def single (b : Nat) (o : Obj) : Hp := fun c => if c = b then some o else none

theorem fresh_own {I h : Hp} {w : World} (f : Fits I h w) : h w.heap.size = none ∧ I w.heap.size = none := by
  constructor
  · cases q : h w.heap.size with
    | none => rfl
    | some o => have := lt_of_heap (f.own _ _ q); omega
  · cases q : I w.heap.size with
    | none => rfl
    | some o => have := lt_of_heap (f.imm _ _ q); omega

theorem heap_new (w : World) (o : Obj) : (w.alloc o).heap[w.heap.size]? = some o := by
  show (w.heap.push o)[w.heap.size]? = some o
  simp
theorem heap_old (w : World) (o : Obj) {b : Nat} (h : b < w.heap.size) : (w.alloc o).heap[b]? = w.heap[b]? := Below.heap_alloc w o b h

theorem Goes.alloc {I h : Hp} {w : World} (f : Fits I h w) (o : Obj) : Goes I h w I (join (single w.heap.size o) h) (w.alloc o) ∧ Split (join (single w.heap.size o) h) (single w.heap.size o) h := by
  obtain ⟨fh, fI⟩ := fresh_own f
  have d : ∀ b u, single w.heap.size o b = some u → h b = none := fun b u e => by
    simp only [single] at e
    split at e
    · rename_i hb; rw [hb]; exact fh
    · cases e
  refine ⟨⟨⟨fun b u e => ?_, fun b u e => ?_, fun b u e => ?_⟩, Le.refl I, rfl, rfl, rfl, by simp, fun b hb e => ⟨heap_old w o hb, ?_, rfl⟩⟩, join_l, join_r d, d⟩
  · have := lt_of_heap (f.imm b u e)
    rw [heap_old w o this]; exact f.imm b u e
  · simp only [join, single] at e
    by_cases hb : b = w.heap.size
    · subst hb; simp at e; rw [← e]; exact heap_new w o
    · simp [hb] at e
      rw [heap_old w o (lt_of_heap (f.own b u e))]; exact f.own b u e
  · simp only [join, single] at e
    by_cases hb : b = w.heap.size
    · subst hb; exact fI
    · simp [hb] at e; exact f.sep b u e
  · have : b ≠ w.heap.size := by omega
    simp [join, single, this, e]

/-- An operation that makes one block. -/
theorem OA_new {o : Oper} (hd : okDst o.dst n = true) (ob : Obj) (mk : Nat → Value) (A : Nat → Asrt) (hA : ∀ b I h, sepL As I h → (A b).P I (single b ob)) (hr : ∀ I h w, sepL As I h → Sees I h w → (execOp (ev e) o).run P w = .ok (.value (mk w.heap.size)) (w.alloc ob))
    (h : ∀ b, K (put e o.dst (mk b)) ds (As ++ [A b])) : OA P n o K Q e ds As := by
  intro I h' a w s r f
  obtain ⟨gg, sp⟩ := Goes.alloc f ob
  unfold Oper.wp
  rw [r.eval, hr I h' w s f.sees]
  refine ⟨_, ds, _, I, _, r.put hd _, sepL_append ⟨sp.2.1, sp.1, fun b u e => ?_⟩ s (show sepL [A w.heap.size] I _ from ⟨_, fun _ => none, ⟨Le.refl _, (fun _ _ e => by cases e), fun _ _ _ => rfl⟩, hA w.heap.size I h' s, trivial⟩), gg, h w.heap.size⟩
  cases q : single w.heap.size ob b with
  | none => rfl
  | some u' => have := sp.2.2 b u' q; rw [this] at e; cases e

theorem OA_alloc {z : Value} (hd : okDst d n = true) (hz : (P.info? E).bind (·.zero) = some z) (h : ∀ b, K (put e d (.pointer (some ⟨b, 0, none⟩))) ds (As ++ [Blk b E z.cells.toList])) : OA P n ⟨d, .alloc E, ty, pos, aft, g⟩ K Q e ds As := by
  refine OA_new hd (.cells z.cells E) (fun b => .pointer (some ⟨b, 0, none⟩)) (fun b => Blk b E z.cells.toList) (fun b I _ _ => by simp [Blk, single]) (fun I h' w s f => ?_) h
  cases hq : P.info? E with
  | none => simp [hq] at hz
  | some q =>
    have hz' : q.zero = some z := by simpa [hq] using hz
    simp [execOp, Instr.alloc, zeroValue, typeInfo, hq, hz', newVar, newRow]

theorem OA_box {v : Value} (hd : okDst d n = true) (hx : ev e x = v) (h : ∀ b, K (put e d (.pointer (some ⟨b, 0, none⟩))) ds (As ++ [Blk b E v.cells.toList])) : OA P n ⟨d, .box E x, ty, pos, aft, g⟩ K Q e ds As := by
  refine OA_new hd (.cells v.cells E) (fun b => .pointer (some ⟨b, 0, none⟩)) (fun b => Blk b E v.cells.toList) (fun b I _ _ => by simp [Blk, single]) (fun I h' w s f => ?_) h
  simp [execOp, hx, Instr.box, newVar, newRow]

theorem OA_buildSlice {α : Type} {kd : Kd α} {parts : Array (Nat × Operand)} {len sz : Nat} {cells : List Value} {z : Value} {xs : List α} (hd : okDst d n = true) (hu : P.underlying T = some (.slice E)) (hz : (P.info? E).bind (·.zero) = some z) (hs : (P.info? E).map (·.size) = some sz)
    (hlim : Nat.ble (len * sz) 16777216 = true) (hlen : Nat.ble len 16777216 = true)
    (hf : Instr.fill (fun i => some (i * sz, sz)) ((Array.range (len * sz)).map ((if len * sz = 0 then #[] else z.cells)[· % (if len * sz = 0 then #[] else z.cells).size]!)) ((parts.map fun (i, x) => (i, ev e x)).toList) = some cells.toArray)
    (hl : xs.length = len) (hk : kd.sz = sz) (hr : ∀ I h, sepL As I h → RL kd I cells xs)
    (h : ∀ b, K (put e d (.slice (some ⟨b, 0, none⟩) xs.length len)) ds (As ++ [Buf kd E (some ⟨b, 0, none⟩) len xs])) : OA P n ⟨d, .buildSlice T len parts, ty, pos, aft, g⟩ K Q e ds As := by
  have hlim' : ¬ 2 ^ 24 < len * sz := by have := Nat.le_of_ble_eq_true hlim; omega
  refine OA_new hd (.cells cells.toArray E) (fun b => .slice (some ⟨b, 0, none⟩) xs.length len) (fun b => Buf kd E (some ⟨b, 0, none⟩) len xs) (fun b I hh s => ?_) (fun I h' w s f => ?_) h
  · have e1 := (hr I hh s).len
    refine ⟨cells, hr I hh s, .inr ⟨b, cells.toArray, rfl, ⟨(0, 0), by simp [single], Fzd.zero⟩, by omega, ?_, by simp [e1, hl], ?_⟩⟩
    · have := Nat.le_of_ble_eq_true hlen
      unfold maxLen; omega
    · rw [← e1]; simp
  · cases hq : P.info? E with
    | none => simp [hq] at hz
    | some q =>
      have hz' : q.zero = some z := by simpa [hq] using hz
      have hs' : q.size = sz := by simpa [hq] using hs
      by_cases h0 : len * sz = 0
      · rw [if_pos h0] at hf
        simp [execOp, Instr.buildSlice, run_underlying hu, sizeOf, typeInfo, hq, hs', hlim', h0, zeroValue, hz', newRow, hl]
        simp [h0] at hf
        simp [hf]
      · rw [if_neg h0] at hf
        simp [execOp, Instr.buildSlice, run_underlying hu, sizeOf, typeInfo, hq, hs', hlim', h0, zeroValue, hz', newRow, hl]
        simp at hf
        simp [hf]
end
end Go.Proofs.YtkdakjjockfmdaaGreatDoor.SL

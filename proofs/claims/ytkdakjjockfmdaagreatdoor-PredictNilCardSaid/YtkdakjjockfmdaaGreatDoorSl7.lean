/- Kinds whose data hang on other blocks (slices in structs, slices of slices); copy; guards behind what was not run. -/
import Derived.Test.YtkdakjjockfmdaaGreatDoorSl6
namespace Go.Proofs.YtkdakjjockfmdaaGreatDoor.SL
open Go Go.RowKit
set_option linter.unusedVariables false
set_option linter.unusedSimpArgs false

theorem RoP.mono {α : Type} {d : Kd α} {A : Option Addr} {c : Nat} {xs : List α} {I I' : Hp} (hI : Le I I') (h : RoP d A c xs I) : RoP d A c xs I' :=
  (Ro d A c xs).mono (h := fun _ => none) hI h

/-- All of these hold for good. -/
def PersL (I : Hp) (Bs : List Asrt) : Prop := ∀ B ∈ Bs, B.pers = true ∧ B.P I (fun _ => none)
theorem PersL.mono {I I' : Hp} {Bs : List Asrt} (hI : Le I I') (h : PersL I Bs) : PersL I' Bs := fun B hB => ⟨(h B hB).1, B.mono hI (h B hB).2⟩
theorem PersL.nil {I : Hp} : PersL I [] := fun _ h => by cases h
theorem PersL.cons {I : Hp} {B : Asrt} {Bs : List Asrt} (hp : B.pers = true) (h : B.P I (fun _ => none)) (k : PersL I Bs) : PersL I (B :: Bs) := fun C hC => by
  rcases List.mem_cons.1 hC with e | e
  · subst e; exact ⟨hp, h⟩
  · exact k C e
theorem PersL.sep {I : Hp} : ∀ {Bs : List Asrt} {h : Hp}, PersL I Bs → sepL Bs I h
  | [], _, _ => trivial
  | B :: Bs, h, k => ⟨fun _ => none, h, Split.none_l h, (k B (by simp)).2, PersL.sep (Bs := Bs) fun C hC => k C (by simp [hC])⟩
theorem PersL.add {I h : Hp} {As Bs : List Asrt} (s : sepL As I h) (k : PersL I Bs) : sepL (As ++ Bs) I h :=
  sepL_append (ha := h) (hb := fun _ => none) ⟨Le.refl h, (fun _ _ e => by cases e), fun _ _ _ => rfl⟩ s k.sep

/-- Atoms at hand, picked by their places: what holds for good holds. -/
def Has (As Bs : List Asrt) : Prop := ∀ I h, sepL As I h → PersL I Bs
theorem Has.nil {As : List Asrt} : Has As [] := fun _ _ _ => PersL.nil
theorem Has.cons {As Bs : List Asrt} {B : Asrt} (k : Nat) (hk : As[k]? = some B) (hp : B.pers = true) (h : Has As Bs) : Has As (B :: Bs) := fun I hh s => by
  obtain ⟨h1, _, p, _⟩ := sepL_at hk s
  exact PersL.cons hp (B.free hp p) (h I hh s)

/-- A kind told by its cells and by what holds for good behind them. -/
def Kd.ofD {α : Type} (sz : Nat) (D : α → List Value → List Asrt → Prop) (hl : ∀ {x cs Bs}, D x cs Bs → cs.length = sz) (h1 : ∀ {x cs Bs}, D x cs Bs → ∀ v ∈ cs, v.oneCell' = true) : Kd α :=
  ⟨sz, fun I cs x => ∃ Bs, D x cs Bs ∧ PersL I Bs, fun ⟨_, h, _⟩ => hl h, fun ⟨_, h, _⟩ => h1 h, fun hI ⟨Bs, h, k⟩ => ⟨Bs, h, k.mono hI⟩, false⟩
/-- A slice within a datum. -/
def DSl {α : Type} (kd : Kd α) (x : List α) (cs : List Value) (Bs : List Asrt) : Prop := ∃ (A : Option Addr) (c : Nat), cs = [.slice A x.length c] ∧ Bs = [Ro kd A c x]
def Kd.sl {α : Type} (kd : Kd α) : Kd (List α) :=
  Kd.ofD 1 (DSl kd) (fun ⟨_, _, e, _⟩ => by rw [e]; rfl) (fun ⟨_, _, e, _⟩ v hv => by rw [e] at hv; simp at hv; subst hv; rfl)

section
variable {P : Program} {n : Nat} {Q : PostT} {e : Env} {ds : List Deferred} {As As' : List Asrt} {d : Option Nat} {ty T T' E tx : TypeId} {pos : String} {aft : Array Edge} {g : Option (Nat × Bool)} {x y z : Operand} {K : Env → List Deferred → List Asrt → Prop}

theorem RA_noU {ops : Array Oper} {o : Oper} {os : List Oper} {j t : Nat} {want : Bool} (hg : o.guard = some (j, want)) (hj : (ops[j]?).bind (·.dst) = some t) (hd : Nat.blt t n = true) (hv : e t = undef)
    (ho : okDst o.dst n = true) (h : RA P n ops Q os (put e o.dst undef) ds As) : RA P n ops Q (o :: os) e ds As :=
  fun I h' a w s r f => .inr ⟨by simp [Region.wanted, hg, yielded_rel r hj (by simpa using hd), hv, undef], ho, h⟩

/-- Reading an operation that also learns what holds for good. -/
theorem OA_learn {o : Oper} (F : Value → List Asrt → Prop) (hd : okDst o.dst n = true) (hv : ∀ I h w, sepL As I h → Sees I h w → ∃ v Bs, F v Bs ∧ PersL I Bs ∧ (execOp (ev e) o).run P w = .ok (.value v) w)
    (h : ∀ v Bs, F v Bs → K (put e o.dst v) ds (As ++ Bs)) : OA P n o K Q e ds As := by
  intro I h' a w s r f
  obtain ⟨v, Bs, hF, hB, hr⟩ := hv I h' w s f.sees
  unfold Oper.wp
  rw [r.eval, hr]
  exact ⟨_, ds, As ++ Bs, I, h', r.put hd v, PersL.add s hB, Goes.refl f, h v Bs hF⟩

/-- The cells of an element, wherever it lies. -/
theorem Src.elem {α : Type} [Inhabited α] {kd : Kd α} {A : Option Addr} {xs : List α} {i : Int} {j m : Nat} {I h : Hp} {w : World} (hs : Src kd A xs As) (h0 : 0 ≤ i) (h1 : i < (xs.length : Int)) (hj : j = i.toNat * kd.sz) (s : sepL As I h) (f : Sees I h w) :
    ∃ b o c, (el A j).add m = ⟨b, o + m, none⟩ ∧ kd.R I c (rd xs i) ∧ ∀ q v, c[q]? = some v → w.cell? ⟨b, o + q, none⟩ = some v := by
  obtain ⟨cs, hr, hc⟩ := hs I h w s f
  rcases hc with hc | ⟨b, off, hA, hcell⟩
  · subst hc; simp at h1; omega
  · subst hA
    obtain ⟨c, hc, hg⟩ := RL.get hr (rd_get h0 h1)
    refine ⟨b, off + i.toNat * kd.sz, c, ?_, hc, fun q v hq => ?_⟩
    · subst hj; simp only [el, Option.getD_some, add_add, Addr.add_lit, Nat.add_assoc]
    · rw [Nat.add_assoc]; exact hcell _ _ (hg q v hq)

/-- A load of one cell of an element, told by what its cells are. -/
theorem VR_load_elD {α : Type} [Inhabited α] {kd : Kd α} {A : Option Addr} {xs : List α} {i : Int} {j m sz : Nat} {v : Value} {td : TypeDesc} (hu : P.underlying T = some td) (ha : aggD td = false)
    (hx : ev e x = .pointer (some ((el A j).add m))) (hj : j = i.toNat * sz) (hsz : kd.sz = sz) (hs : Src kd A xs As) (h0 : 0 ≤ i) (h1 : i < (xs.length : Int)) (hv : ∀ I c, kd.R I c (rd xs i) → c[m]? = some v) :
    VR P As e ⟨d, .load T x, ty, pos, aft, g⟩ v := by
  intro I h w s f
  obtain ⟨b, o, c, ea, hc, hcell⟩ := hs.elem (m := m) h0 h1 (hsz ▸ hj) s f
  have hl := hcell m v (hv I c hc)
  rw [ea] at hx
  simp [execOp, hx, Instr.loadAt, Instr.sureAddr, loadVar, isAgg_false hu ha, hl]

theorem VR_loadA_elD {α : Type} [Inhabited α] {kd : Kd α} {A : Option Addr} {xs : List α} {i : Int} {j m sz : Nat} {vs : List Value} {td : TypeDesc} (hu : P.underlying T = some td) (ha : aggD td = true)
    (hz : (P.info? T).map (·.size) = some vs.length)
    (hx : ev e x = .pointer (some ((el A j).add m))) (hj : j = i.toNat * sz) (hsz : kd.sz = sz) (hs : Src kd A xs As) (h0 : 0 ≤ i) (h1 : i < (xs.length : Int)) (hv : ∀ I c, kd.R I c (rd xs i) → (c.drop m).take vs.length = vs) :
    VR P As e ⟨d, .load T x, ty, pos, aft, g⟩ (.agg vs.toArray) := by
  intro I h w s f
  obtain ⟨b, o, c, ea, hc, hcell⟩ := hs.elem (m := m) h0 h1 (hsz ▸ hj) s f
  rw [ea] at hx
  have hvv := hv I c hc
  have hl := load_agg (P := P) (b := b) (o := o + m) hu ha hz (w := w) (fun q v hq => by
    rw [← hvv, List.getElem?_take] at hq
    split at hq
    · rw [List.getElem?_drop] at hq
      rw [← hcell _ _ hq]; congr 2; omega
    · cases hq)
  simp only [execOp, hx, Sem.run_bind, hl, Result.andThen_ok, Sem.run_pure]

/-- A load of a slice out of an element. -/
theorem OA_loadSl {α : Type} [Inhabited α] {kd : Kd α} {A : Option Addr} {xs : List α} {i : Int} {j m sz : Nat} {td : TypeDesc} (F : Value → List Asrt → Prop) (hd : okDst d n = true) (hu : P.underlying T = some td) (ha : aggD td = false)
    (hx : ev e x = .pointer (some ((el A j).add m))) (hj : j = i.toNat * sz) (hsz : kd.sz = sz) (hs : Src kd A xs As) (h0 : 0 ≤ i) (h1 : i < (xs.length : Int)) (hv : ∀ I c, kd.R I c (rd xs i) → ∃ v Bs, c[m]? = some v ∧ F v Bs ∧ PersL I Bs)
    (h : ∀ v Bs, F v Bs → K (put e d v) ds (As ++ Bs)) : OA P n ⟨d, .load T x, ty, pos, aft, g⟩ K Q e ds As := by
  refine OA_learn F hd (fun I hh w s f => ?_) h
  obtain ⟨b, o, c, ea, hc, hcell⟩ := hs.elem (m := m) h0 h1 (hsz ▸ hj) s f
  obtain ⟨v, Bs, h1, h2, h3⟩ := hv I c hc
  have hl := hcell m v h1
  rw [ea] at hx
  exact ⟨v, Bs, h2, h3, by simp [execOp, hx, Instr.loadAt, Instr.sureAddr, loadVar, isAgg_false hu ha, hl]⟩

theorem OA_loadSlA {α : Type} [Inhabited α] {kd : Kd α} {A : Option Addr} {xs : List α} {i : Int} {j m sz k : Nat} {td : TypeDesc} (F : List Value → List Asrt → Prop) (hd : okDst d n = true) (hu : P.underlying T = some td) (ha : aggD td = true)
    (hz : (P.info? T).map (·.size) = some k) (hx : ev e x = .pointer (some ((el A j).add m))) (hj : j = i.toNat * sz) (hsz : kd.sz = sz) (hs : Src kd A xs As) (h0 : 0 ≤ i) (h1 : i < (xs.length : Int))
    (hv : ∀ I c, kd.R I c (rd xs i) → ∃ Bs, F ((c.drop m).take k) Bs ∧ PersL I Bs) (hF : ∀ vs Bs, F vs Bs → vs.length = k)
    (h : ∀ vs Bs, F vs Bs → K (put e d (.agg vs.toArray)) ds (As ++ Bs)) : OA P n ⟨d, .load T x, ty, pos, aft, g⟩ K Q e ds As := by
  refine OA_learn (fun v Bs => ∃ vs, v = .agg vs.toArray ∧ F vs Bs) hd (fun I hh w s f => ?_) (fun v Bs ⟨vs, e1, hf⟩ => by subst e1; exact h vs Bs hf)
  obtain ⟨b, o, c, ea, hc, hcell⟩ := hs.elem (m := m) h0 h1 (hsz ▸ hj) s f
  obtain ⟨Bs, h2, h3⟩ := hv I c hc
  rw [ea] at hx
  have hk := hF _ _ h2
  have hl := load_agg (P := P) (b := b) (o := o + m) (vs := (c.drop m).take k) hu ha (by rw [hk]; exact hz) (w := w) (fun q v hq => by
    rw [List.getElem?_take] at hq
    split at hq
    · rw [List.getElem?_drop] at hq
      rw [← hcell _ _ hq]; congr 2; omega
    · cases hq)
  exact ⟨_, Bs, ⟨_, rfl, h2⟩, h3, by simp only [execOp, hx, Sem.run_bind, hl, Result.andThen_ok, Sem.run_pure]⟩

theorem V_fieldAddrN {fs : Array Field} {f : Field} {i m o : Nat} {B : Addr} (hu : P.underlying T = some (.struct fs)) (hf : fs[i]? = some f) (hz : ((P.info? f.type).map fun i => decide (i.size = 0)) = some false) (hx : ev e x = .pointer (some (B.add m))) (ho : m + f.offset = o) :
    V P e ⟨d, .fieldAddr T x i, ty, pos, aft, g⟩ (.pointer (some (B.add o))) := by
  subst ho; exact V_fieldAddrAt hu hf hz hx

/-! ### copy -/
def over {α : Type} (xs : List α) (off : Nat) (ys : List α) : List α := xs.take off ++ ys ++ xs.drop (off + ys.length)
theorem over_len {α : Type} {xs ys : List α} {off : Nat} (h : off + ys.length ≤ xs.length) : (over xs off ys).length = xs.length := by
  unfold over
  rw [List.length_append, List.length_append, List.length_take, List.length_drop]; omega

/-- What can be copied: its first cells, as many as are asked. -/
def Cpy {α : Type} (P : Program) (kd : Kd α) (v : Value) (ys : List α) (As : List Asrt) : Prop :=
  ∀ I h w, sepL As I h → Sees I h w → (∀ w', (Builtin.lenOf v).run P w' = .ok ys.length w') ∧ ∀ k, k ≤ ys.length → ∃ cs, RL kd I cs (ys.take k) ∧ (Builtin.firstCells kd.sz k v).run P w = .ok cs.toArray w

theorem Cpy.slice {α : Type} {kd : Kd α} {A : Option Addr} {c : Nat} {ys : List α} (hs : Src kd A ys As) : Cpy P kd (.slice A ys.length c) ys As := by
  intro I h w s f
  refine ⟨fun _ => rfl, fun k hk => ?_⟩
  obtain ⟨cs, hr, hc⟩ := hs I h w s f
  have hr2 : RL kd I ((cs.drop (0 * kd.sz)).take (k * kd.sz)) ((ys.drop 0).take k) := RL.sub (kd := kd) 0 k hr
  simp only [Nat.zero_mul, List.drop_zero] at hr2
  refine ⟨_, hr2, ?_⟩
  cases A with
  | none =>
    rcases hc with rfl | ⟨b, off, e, _⟩
    · simp only [RL] at hr; subst hr
      simpa using run_firstCells_none w kd.sz k 0 c
    · cases e
  | some a =>
    refine run_firstCells_some w kd.sz k a ys.length c _ ?_ fun j u hu => ?_
    · rw [hr2.len, List.length_take, Nat.min_eq_left hk]
    · rcases hc with rfl | ⟨b, off, e, hc⟩
      · simp only [RL] at hr; subst hr; simp at hu
      · obtain rfl := Option.some.inj e
        rw [Addr.add_lit]
        rw [List.getElem?_take] at hu
        split at hu
        · exact hc j u hu
        · cases hu

theorem run_copyN {w w' : World} {q : TypeInfo} {v : Value} {yl dLen dCap : Nat} {Ad : Option Addr} {cs : List Value} (hu : P.underlying T = some (.slice E)) (hq : P.info? E = some q) (hlen : ∀ w', (Builtin.lenOf v).run P w' = .ok yl w')
    (hc : (Builtin.firstCells q.size (Nat.min yl dLen) v).run P w = .ok cs.toArray w) (hst : ∀ a, Ad = some a → (storeCells a cs).run P w = .ok () w') (hno : Ad = none → w' = w) :
    (Builtin.copy_ #[T, tx] ty #[.slice Ad dLen dCap, v]).run P w = .ok (goInt (Nat.min yl dLen)) w' := by
  cases Ad with
  | none => obtain rfl := hno rfl; simp [Builtin.copy_, run_underlying hu, hlen, sizeOf, typeInfo, hq, hc]
  | some a => simp [Builtin.copy_, run_underlying hu, hlen, sizeOf, typeInfo, hq, hc, hst a rfl]

theorem set_same {As : List Asrt} {k : Nat} {A : Asrt} (hk : As[k]? = some A) : As.set k A = As := by
  apply List.ext_getElem?
  intro j
  rw [List.getElem?_set]
  split
  · rename_i hj; subst hj
    have : k < As.length := by
      rcases Nat.lt_or_ge k As.length with z | z
      · exact z
      · simp [List.getElem?_eq_none z] at hk
    simp [this, ← hk]
  · rfl

theorem storeCells_nil (a : Addr) (w : World) : (storeCells a []).run P w = .ok () w := by
  unfold storeCells; rfl

/-- copy into an owned slice, or into a cut of one. -/
theorem OA_copy {α : Type} {kd : Kd α} {A Ad : Option Addr} {c k sz off dLen dCap : Nat} {xs ys : List α} {v : Value} (zs : List α) (hzs : zs = over xs off (ys.take (min ys.length dLen))) (hd : okDst d n = true) (hu : P.underlying T = some (.slice E)) (hz : (P.info? E).map (·.size) = some sz) (hsz : kd.sz = sz)
    (hk : As[k]? = some (Buf kd T' A c xs)) (hx : ev e x = .slice Ad dLen dCap) (hA : 0 < dLen → A ≠ none → Ad = some (el A (off * sz))) (hfit : off + dLen ≤ xs.length) (hy : ev e y = v) (hs : Cpy P kd v ys As)
    (h : K (put e d (goInt ((Nat.min ys.length dLen : Nat) : Int))) ds (As.set k (Buf kd T' A c zs))) : OA P n ⟨d, .call { callee := .builtin .copy, args := #[x, y], argTypes := #[T, tx] }, ty, pos, aft, g⟩ K Q e ds As := by
  subst hzs
  intro I h' a w s r f
  obtain ⟨hlen, hcp⟩ := hs I h' w s f.sees
  cases hq : P.info? E with
  | none => simp [hq] at hz
  | some q =>
    have hq' : q.size = sz := by simpa [hq] using hz
    have hexec : ∀ {v' : Value} {w' : World}, (Builtin.copy_ #[T, tx] ty #[.slice Ad dLen dCap, v]).run P w = .ok v' w' → (execOp (ev e) ⟨d, .call { callee := .builtin .copy, args := #[x, y], argTypes := #[T, tx] }, ty, pos, aft, g⟩).run P w = .ok (.value v') w' := fun {v' w'} hh => by
      simp [execOp, resolve, invoke, builtin, hx, hy, hh]
    obtain ⟨cs, hr, hfc⟩ := hcp (min ys.length dLen) (Nat.min_le_left _ _)
    have hcl := hr.len
    rw [List.length_take, Nat.min_eq_left (Nat.min_le_left _ _)] at hcl
    have hfc' : (Builtin.firstCells q.size (Nat.min ys.length dLen) v).run P w = .ok cs.toArray w := by rw [hq', ← hsz]; exact hfc
    by_cases h0 : min ys.length dLen = 0
    · have hrun := run_copyN (P := P) (T := T) (tx := tx) (ty := ty) (dCap := dCap) (Ad := Ad) (w' := w) hu hq hlen hfc' (fun a _ => by
        have : cs = [] := List.eq_nil_of_length_eq_zero (by rw [hcl, h0, Nat.zero_mul])
        subst this; exact storeCells_nil a w) (fun _ => rfl)
      have e1 : over xs off (ys.take (min ys.length dLen)) = xs := by rw [h0]; simp [over]
      rw [e1, set_same hk] at h
      unfold Oper.wp
      rw [r.eval, hexec hrun]
      exact ⟨_, ds, As, I, h', r.put hd _, s, Goes.refl f, h⟩
    · obtain ⟨g1, l, ⟨xc, hxr, hc⟩, ff⟩ := sepL_at hk s
      rcases hc with ⟨_, _, hc⟩ | ⟨gb, cur, hAA, ⟨fr, hg, hfz⟩, hlc, hcm, hcs, ht⟩
      · subst hc; simp at hfit; omega
      · have hAd := hA (by omega) (by rw [hAA]; simp)
        subst hAA
        have hh : h' gb = some (.cells cur T' fr) := l gb _ hg
        have ea : Ad = some ⟨gb, off * sz, none⟩ := by rw [hAd]; simp [el, Addr.add_lit]
        have hm1 : min ys.length dLen ≤ dLen := Nat.min_le_right _ _
        have hm : (off + min ys.length dLen) * sz ≤ xs.length * sz := Nat.mul_le_mul_right _ (by omega)
        have hm2 : xs.length * sz ≤ c * sz := Nat.mul_le_mul_right _ hlc
        rw [hsz] at hcl hcs ht
        rw [Nat.add_mul] at hm
        have hcurl : cur.toList.length = c * sz := (Array.length_toList (xs := cur)).trans hcs
        have hst := run_storeCells_fr (P := P) gb (off * sz) T' fr cs 0 cur w (f.own gb _ hh) hfz.1 (by rw [hcl, hcs]; simpa using Nat.le_trans hm hm2) hr.one
        simp only [Nat.add_zero] at hst
        have hrun := run_copyN (P := P) (T := T) (tx := tx) (ty := ty) (dCap := dCap) (Ad := Ad) (w' := w.setRow gb (setAt cur.toList (off * sz) cs).toArray) hu hq hlen hfc' (fun a ha => by
          rw [ea] at ha; obtain rfl := Option.some.inj ha
          exact hst) (fun ha => by rw [ea] at ha; cases ha)
        unfold Oper.wp
        rw [r.eval, hexec hrun]
        refine ⟨_, ds, _, I, _, r.put hd _, upd_block ff hg ?_, Goes.setRow f hh, h⟩
        have hyl : (ys.take (min ys.length dLen)).length = min ys.length dLen := by rw [List.length_take]; omega
        have hol : (over xs off (ys.take (min ys.length dLen))).length = xs.length := over_len (by rw [hyl]; omega)
        have hxl := hxr.len
        rw [hsz] at hxl
        -- the cells that stand then
        have r1 := RL.sub (kd := kd) 0 off hxr
        have r2 := RL.sub (kd := kd) (off + min ys.length dLen) (xs.length - (off + min ys.length dLen)) hxr
        simp only [Nat.zero_mul, List.drop_zero, hsz] at r1 r2
        have hall := (r1.app hr).app r2
        have ex : List.take (xs.length - (off + min ys.length dLen)) (xs.drop (off + min ys.length dLen)) = xs.drop (off + min ys.length dLen) := List.take_of_length_le (by rw [List.length_drop]; exact Nat.le_refl _)
        have ec : List.take ((xs.length - (off + min ys.length dLen)) * sz) (xc.drop ((off + min ys.length dLen) * sz)) = xc.drop ((off + min ys.length dLen) * sz) := List.take_of_length_le (by rw [List.length_drop, hxl, Nat.sub_mul]; exact Nat.le_refl _)
        rw [ex, ec] at hall
        have eo : over xs off (ys.take (min ys.length dLen)) = xs.take off ++ ys.take (min ys.length dLen) ++ xs.drop (off + min ys.length dLen) := by unfold over; rw [hyl]
        rw [← eo] at hall
        refine ⟨_, hall, .inr ⟨gb, _, rfl, ⟨fr, if_pos rfl, by rw [List.size_toArray, setAt_len (by rw [hcl, hcurl]; omega), Array.length_toList]; exact hfz⟩, by rw [hol]; exact hlc, hcm, ?_, ?_⟩⟩
        · rw [List.size_toArray, setAt_len (by rw [hcl, hcurl]; omega), hsz]; exact hcurl
        · rw [hol, hsz]
          show (setAt cur.toList (off * sz) cs).take (xs.length * sz) = _
          have hN : xs.length * sz ≤ cur.toList.length := by omega
          have hB : setAt cur.toList (off * sz) cs = cur.toList.take (off * sz) ++ cs ++ cur.toList.drop (off * sz + cs.length) := rfl
          rw [hB, List.take_append, List.take_of_length_le (by rw [List.length_append, List.length_take, hcl]; omega)]
          have e3 : xc.take (off * sz) = cur.toList.take (off * sz) := by
            rw [← ht, List.take_take]; congr 1; omega
          have e4 : xc.drop ((off + min ys.length dLen) * sz) = (cur.toList.drop (off * sz + cs.length)).take (xs.length * sz - (off * sz + cs.length)) := by
            rw [← ht, List.drop_take, hcl, Nat.add_mul]
          rw [e3, e4]
          congr 2
          rw [List.length_append, List.length_take, hcl]; omega
theorem copyF_take {α : Type} {ys : List α} {m : Nat} : ys.take (min ys.length m) = ys.take m := by
  rcases Nat.le_total ys.length m with h | h
  · rw [Nat.min_eq_left h, List.take_of_length_le (Nat.le_refl _), List.take_of_length_le h]
  · rw [Nat.min_eq_right h]
theorem natMinI (a b : Nat) : ((Nat.min a b : Nat) : Int) = minI (a : Int) (b : Int) := by
  unfold minI
  show ((min a b : Nat) : Int) = _
  split <;> omega

/-- copy over a whole owned slice. -/
theorem OA_copyF {α : Type} {kd : Kd α} {A : Option Addr} {c c' k sz : Nat} {xs ys : List α} {v : Value} (zs : List α) (hzs : zs = over xs 0 (ys.take xs.length)) (hd : okDst d n = true) (hu : P.underlying T = some (.slice E)) (hz : (P.info? E).map (·.size) = some sz) (hsz : kd.sz = sz)
    (hk : As[k]? = some (Buf kd T' A c xs)) (hx : ev e x = .slice A xs.length c') (hy : ev e y = v) (hs : Cpy P kd v ys As)
    (h : K (put e d (.int .i64 (minI (ys.length : Int) (xs.length : Int)))) ds (As.set k (Buf kd T' A c zs))) : OA P n ⟨d, .call { callee := .builtin .copy, args := #[x, y], argTypes := #[T, tx] }, ty, pos, aft, g⟩ K Q e ds As := by
  refine OA_copy (off := 0) zs (by rw [hzs, copyF_take]) hd hu hz hsz hk hx (fun _ hA => ?_) (by omega) hy hs (by rw [natMinI]; exact h)
  cases A with
  | none => exact absurd rfl hA
  | some a => simp [el, Addr.add_zero']

/-- A cut of an owned slice, for the moment. -/
theorem VR_win {α : Type} {kd : Kd α} {A : Option Addr} {c k sz : Nat} {xs : List α} {lo hi mx : Option Operand} {lv hv mv : Option Value} {l h m : Int} (hk : As[k]? = some (Buf kd T' A c xs)) (hu : P.underlying T = some (.slice E)) (hz : (P.info? E).map (·.size) = some sz) (hx : ev e x = .slice A xs.length c)
    (hlo : lo.map (ev e) = lv) (hhi : hi.map (ev e) = hv) (hmx : mx.map (ev e) = mv)
    (hl : lv = none ∧ l = 0 ∨ ∃ k, lv = some (.int k l)) (hh : hv = none ∧ mv = none ∧ h = (xs.length : Int) ∨ ∃ k, hv = some (.int k h)) (hm : mv = none ∧ m = (c : Int) ∨ (∃ k, mv = some (.int k m)) ∧ (∃ k, hv = some (.int k h)) ∧ h ≤ m ∧ m ≤ (xs.length : Int))
    (h0 : 0 ≤ l) (h1 : l ≤ h) (h2 : h ≤ (xs.length : Int)) : VR P As e ⟨d, .slice T x lo hi mx, ty, pos, aft, g⟩ (.slice (slA A l m sz) (h.toNat - l.toNat) (m.toNat - l.toNat)) := by
  intro I hp w s f
  obtain ⟨_, _, ⟨_, _, hc⟩, _⟩ := sepL_at hk s
  have hle : xs.length ≤ c := by
    rcases hc with ⟨_, _, e⟩ | ⟨_, _, _, _, e, _⟩
    · rw [e]; simp
    · exact e
  refine V_slice (P := P) (e := e) (d := d) (ty := ty) (pos := pos) (aft := aft) (g := g) hu hz hx hlo hhi hmx ⟨hl, hh, ?_⟩ h0 h1 ?_ ?_ w
  · rcases hm with ⟨a, b⟩ | ⟨a, b, _, _⟩
    · exact .inl ⟨a, b⟩
    · exact .inr ⟨a, b⟩
  · rcases hm with ⟨_, b⟩ | ⟨_, _, b, _⟩ <;> omega
  · rcases hm with ⟨_, b⟩ | ⟨_, _, _, b⟩ <;> omega

/-- copy into such a cut. -/
theorem OA_copyW {α : Type} {kd : Kd α} {A : Option Addr} {c c' k sz : Nat} {xs ys : List α} {v : Value} {l h m : Int} (zs : List α) (hzs : zs = over xs l.toNat (ys.take (h.toNat - l.toNat))) (hd : okDst d n = true) (hu : P.underlying T = some (.slice E)) (hz : (P.info? E).map (·.size) = some sz) (hsz : kd.sz = sz)
    (hk : As[k]? = some (Buf kd T' A c xs)) (hx : ev e x = .slice (slA A l m sz) (h.toNat - l.toNat) c') (h0 : 0 ≤ l) (h1 : l ≤ h) (h2 : h ≤ (xs.length : Int)) (hm : m = (c : Int) ∨ h ≤ m) (hy : ev e y = v) (hs : Cpy P kd v ys As)
    (hK : K (put e d (.int .i64 (minI (ys.length : Int) (h - l)))) ds (As.set k (Buf kd T' A c zs))) : OA P n ⟨d, .call { callee := .builtin .copy, args := #[x, y], argTypes := #[T, tx] }, ty, pos, aft, g⟩ K Q e ds As := by
  have hc : ∀ I hh w, sepL As I hh → Sees I hh w → xs.length ≤ c := fun I hh w s f => by
    obtain ⟨_, _, ⟨_, _, hc⟩, _⟩ := sepL_at hk s
    rcases hc with ⟨_, _, e⟩ | ⟨_, _, _, _, e, _⟩
    · rw [e]; simp
    · exact e
  intro I hh a w s r f
  have hle := hc I hh w s f.sees
  refine OA_copy (off := l.toNat) zs (by rw [hzs, copyF_take]) hd hu hz hsz hk hx (fun hp hA => ?_) (by omega) hy hs ?_ I hh a w s r f
  · cases A with
    | none => exact absurd rfl hA
    | some a =>
      have hmm : m.toNat ≠ l.toNat := by rcases hm with q | q <;> omega
      simp [slA, slA.sliced_addr, hmm, el]
  · rw [natMinI, show ((h.toNat - l.toNat : Nat) : Int) = h - l from by omega]; exact hK

/-- The first elements of an owned slice, owned with all its room. -/
theorem Gh.cutBuf {α : Type} {kd : Kd α} {A : Option Addr} {c k : Nat} {xs zs : List α} {h : Int} (hzs : zs = sub xs 0 h) (hk : As[k]? = some (Buf kd T' A c xs)) (h0 : 0 ≤ h) (h2 : h ≤ (xs.length : Int)) : Gh As (As.set k (Buf kd T' A c zs)) := by
  subst hzs
  refine fun I hh w s f => ⟨I, hh, Goes.refl f, ?_⟩
  obtain ⟨h1, l, ⟨cs, hr, hc⟩, ff⟩ := sepL_at hk s
  refine ff _ I h1 hh (Le.refl I) ?_ l (fun b o x y => ⟨x, y⟩)
  have hr2 := RL.sub (kd := kd) 0 h.toNat hr
  simp only [Nat.zero_mul, List.drop_zero] at hr2
  have es : sub xs 0 h = xs.take h.toNat := by simp [sub]
  rw [es]
  refine ⟨_, hr2, ?_⟩
  rcases hc with ⟨a1, a2, a3⟩ | ⟨gb, cur, hA, hg, hlc, hcm, hcs, ht⟩
  · exact .inl ⟨a1, a2, by rw [a3]; simp⟩
  · have hl : (xs.take h.toNat).length = h.toNat := by rw [List.length_take]; omega
    refine .inr ⟨gb, cur, hA, hg, by rw [hl]; omega, hcm, hcs, ?_⟩
    rw [hl, ← ht, List.take_take, Nat.min_eq_left (Nat.mul_le_mul_right _ (by omega))]
theorem VR_cut {α : Type} {kd : Kd α} {A : Option Addr} {c k sz : Nat} {xs zs : List α} {hi : Option Operand} {h : Int} {kk : IntKind} (hk : As[k]? = some (Buf kd T' A c zs)) (hzs : zs = sub xs 0 h) (hu : P.underlying T = some (.slice E)) (hz : (P.info? E).map (·.size) = some sz) (hx : ev e x = .slice A xs.length c)
    (hhi : hi.map (ev e) = some (.int kk h)) (h0 : 0 ≤ h) (h2 : h ≤ (xs.length : Int)) (hle : xs.length ≤ c) : VR P As e ⟨d, .slice T x none hi none, ty, pos, aft, g⟩ (.slice A zs.length c) := by
  intro I hp w s f
  have := V_slice (P := P) (e := e) (d := d) (ty := ty) (pos := pos) (aft := aft) (g := g) (lo := none) (hi := hi) (mx := none) (lv := none) (mv := none) (l := 0) (h := h) (m := c) hu hz hx rfl hhi rfl ⟨.inl ⟨rfl, rfl⟩, .inr ⟨kk, rfl⟩, .inl ⟨rfl, rfl⟩⟩ (Int.le_refl 0) h0 (by omega) (Int.le_refl _) w
  have ea : slA A 0 (c : Int) sz = A := by
    simp only [slA, slA.sliced_addr, Int.toNat_natCast, Int.toNat_zero, Nat.zero_mul]
    split
    · rfl
    · cases A <;> simp [Addr.add_zero']
  rw [ea] at this
  rw [this, hzs, sub_len (Int.le_refl 0) h0 h2]
  simp
/-! ### elements that hang on other blocks -/
theorem RL_cons {α : Type} {kd : Kd α} {I : Hp} {c cs : List Value} {a : α} {xs : List α} (h : kd.R I c a) (k : RL kd I cs xs) : RL kd I (c ++ cs) (a :: xs) := ⟨c, cs, rfl, h, k⟩
theorem setAt_all {cs vs : List Value} (h : cs.length = vs.length) : setAt cs 0 vs = vs := by
  unfold setAt
  rw [List.take_zero, Nat.zero_add, List.drop_of_length_le (by omega)]
  simp

theorem OA_bsN {α : Type} {kd : Kd α} {parts : List (Nat × Operand)} {len sz : Nat} {cells : List Value} {zv : Value} {xs : List α} (hd : okDst d n = true) (hu : P.underlying T = some (.slice E)) (hz : (P.info? E).bind (·.zero) = some zv) (hs : (P.info? E).map (·.size) = some sz)
    (hlim : Nat.ble (len * sz) 16777216 = true) (hlen : Nat.ble len 16777216 = true) (hz1 : zv.cells.size = sz)
    (hf : Instr.fill (fun i => some (i * sz, sz)) (List.flatten (List.replicate len zv.cells.toList)).toArray (parts.map fun p => (p.1, ev e p.2)) = some cells.toArray)
    (hl : xs.length = len) (hk : kd.sz = sz) (hr : ∀ I h, sepL As I h → RL kd I cells xs)
    (h : ∀ b, K (put e d (.slice (some ⟨b, 0, none⟩) xs.length len)) ds (As ++ [Buf kd E (some ⟨b, 0, none⟩) len xs])) : OA P n ⟨d, .buildSlice T len parts.toArray, ty, pos, aft, g⟩ K Q e ds As := by
  refine OA_buildSlice hd hu hz hs hlim hlen ?_ hl hk hr h
  have e1 : ((Array.range (len * sz)).map ((if len * sz = 0 then #[] else zv.cells)[· % (if len * sz = 0 then #[] else zv.cells).size]!)) = (List.flatten (List.replicate len zv.cells.toList)).toArray := by
    have hz0 := zeros_flat zv.cells len
    rw [hz1] at hz0
    apply Array.ext'
    by_cases h0 : len * sz = 0
    · have : (List.flatten (List.replicate len zv.cells.toList)).length = 0 := by
        rw [← hz0, h0]; simp
      rw [List.eq_nil_of_length_eq_zero this, h0]
      simp
    · simp only [if_neg h0]
      rw [hz1]
      exact hz0
  rw [e1]
  have e2 : (Array.map (fun (p : Nat × Operand) => (p.1, ev e p.2)) parts.toArray).toList = parts.map fun p => (p.1, ev e p.2) := by simp
  rw [← hf]
  congr 1

theorem OA_stElN {α : Type} [Inhabited α] {kd : Kd α} {A : Option Addr} {c k j m sz : Nat} {xs : List α} {i : Int} {vs : List Value} {v : Value} (y' : α) (hd : okDst d n = true) (hk : As[k]? = some (Buf kd T' A c xs)) (hx : ev e x = .pointer (some ((el A j).add m))) (hj : j = i.toNat * sz) (hsz : kd.sz = sz) (hy : ev e y = v) (hv : v.cells.toList = vs)
    (h1 : vs.all (·.oneCell') = true) (hz : (P.info? T).map (·.size) = some vs.length) (h0 : 0 ≤ i) (hi : i < (xs.length : Int)) (hm : Nat.ble (m + vs.length) sz = true)
    (he : ∀ I cs h, sepL As I h → kd.R I cs (rd xs i) → cs.length = sz → kd.R I (setAt cs m vs) y') (h : K (put e d undef) ds (As.set k (Buf kd T' A c (xs.set i.toNat y')))) : OA P n ⟨d, .store T x y, ty, pos, aft, g⟩ K Q e ds As := by
  intro I h' a w s r f
  exact OA_storeEl y' hd hk hx hj hsz hy (by rw [← hv]) (fun u hu => List.all_eq_true.1 h1 u hu) hz h0 hi (Nat.le_of_ble_eq_true hm) (fun I2 h2 cs s2 q => he I2 cs h2 s2 q (hsz ▸ kd.len q)) h I h' a w s r f

theorem OA_mk {α : Type} {kd : Kd α} {k k' : IntKind} {l : Int} {bytes sz : Nat} {zv : Value} (z0 : α) (xs : List α) (hxs : xs = List.replicate l.toNat z0) (hd : okDst d n = true) (hu : P.underlying T = some (.slice E)) (hi : (P.info? E).map (fun i => (i.zero, i.size, i.bytes)) = some (some zv, sz, bytes))
    (hx : ev e x = .int k l) (hy : ev e y = .int k' l) (h0 : 0 ≤ l) (hb : (bytes : Int) * l ≤ 281474976710656) (h63 : l ≤ 9223372036854775807) (hsz : kd.sz = sz) (hz1 : zv.cells.size = sz) (hz : ∀ I, kd.R I zv.cells.toList z0)
    (h : ∀ b, K (put e d (.slice (some ⟨b, 0, none⟩) xs.length l.toNat)) ds (As ++ [Buf kd E (some ⟨b, 0, none⟩) l.toNat xs])) : OA P n ⟨d, .makeSlice T x y, ty, pos, aft, g⟩ K Q e ds As := by
  subst hxs
  exact OA_make z0 hd hu hi hx hy h0 rfl hb h63 hsz hz1 hz h

theorem Cpy.str {s : ByteArray} : Cpy P (Kd.int .u8) (.string s) (bytesOf s) As := by
  intro I h w _ _
  have e : (bytesOf s).length = s.size := by simp only [bytesOf, List.length_map, Array.length_toList]; rfl
  refine ⟨fun _ => by rw [e]; rfl, fun k hk => ?_⟩
  have hr2 := RL.sub (kd := Kd.int .u8) 0 k (RL_bytes I s)
  simp only [Nat.zero_mul, List.drop_zero] at hr2
  have e1 : (Kd.int .u8).sz = 1 := rfl
  rw [e1, Nat.mul_one] at hr2
  refine ⟨_, hr2, ?_⟩
  rw [e1]
  simp only [Builtin.firstCells, Sem.run_pure]
  congr 1
  apply Array.ext'
  simp only [byteCells, Array.toList_map, ByteArray.data_extract, Array.toList_extract, List.extract_eq_take_drop, List.drop_zero, Nat.sub_zero, List.map_take]
/-! ### results, in slots or in memory -/
def rvOf (tmps : Array Value) : ResultVar → Sem Value
  | .tmp t => pure (tmps.getD t undef)
  | .cell a t => do loadVar t (← asAddr (tmps.getD a undef))
def RV (P : Program) (As : List Asrt) (e : Env) (r : ResultVar) (v : Value) : Prop :=
  ∀ I h w (tmps : Array Value), (∀ t, tmps.getD t undef = e t) → sepL As I h → Fits I h w → (rvOf tmps r).run P w = .ok v w
theorem RV.tmp {t : Nat} {v : Value} (h : e t = v) : RV P As e (.tmp t) v := fun I hh w tmps ht _ _ => by
  simp only [rvOf, Sem.run_pure, ht t, h]
theorem RV.cell {a b k : Nat} {cs : List Value} {td : TypeDesc} (h : e a = .pointer (some ⟨b, 0, none⟩)) (hk : As[k]? = some (Blk b T' cs)) (hu : P.underlying T = some td) (ha : aggD td = true) (hz : (P.info? T).map (·.size) = some cs.length) : RV P As e (.cell a T) (.agg cs.toArray) := fun I hh w tmps ht s f => by
  obtain ⟨h1, l, p, _⟩ := sepL_at hk s
  have hb := f.own b _ (l b _ p)
  have hl := load_agg (P := P) (b := b) (o := 0) hu ha hz (w := w) (fun q v hq => by rw [Nat.zero_add, cell_of hb]; simpa using hq)
  simp only [Instr.loadAt, Instr.sureAddr, Sem.run_bind, Sem.run_pure, Result.andThen_ok] at hl
  simp only [rvOf, Sem.run_bind, ht a, h, asAddr, Sem.run_pure, Result.andThen_ok]
  exact hl
theorem RV.cell1 {a b k : Nat} {v : Value} {td : TypeDesc} (h : e a = .pointer (some ⟨b, 0, none⟩)) (hk : As[k]? = some (Blk b T' [v])) (hu : P.underlying T = some td) (ha : aggD td = false) : RV P As e (.cell a T) v := fun I hh w tmps ht s f => by
  obtain ⟨h1, l, p, _⟩ := sepL_at hk s
  have hb := cell_of (f.own b _ (l b _ p)) 0
  simp only [rvOf, Sem.run_bind, ht a, h, asAddr, Sem.run_pure, Result.andThen_ok]
  simp [loadVar, isAgg_false hu ha, hb]
def RVs (P : Program) (As : List Asrt) (e : Env) : List ResultVar → List Value → Prop
  | [], [] => True
  | r :: rs, v :: vs => RV P As e r v ∧ RVs P As e rs vs
  | _, _ => False
theorem RVs.run {I h : Hp} {w : World} {tmps : Array Value} (ht : ∀ t, tmps.getD t undef = e t) (s : sepL As I h) (f : Fits I h w) : ∀ {rs : List ResultVar} {vs : List Value}, RVs P As e rs vs → (rs.mapM (rvOf tmps)).run P w = .ok vs w
  | [], [], _ => by simp [List.mapM_nil]
  | r :: rs, v :: vs, ⟨h1, h2⟩ => by
    rw [List.mapM_cons]
    simp only [Sem.run_bind, h1 I h w tmps ht s f, Result.andThen_ok, RVs.run ht s f h2, Sem.run_pure]
  | [], _ :: _, h => by cases h
  | _ :: _, [], h => by cases h
theorem BQ_RL {fn : Func} {R : Value → List Asrt → Prop} {rs : List ResultVar} {vs : List Value} {v : Value} (B : List Asrt) (h : fn.results = rs.toArray) (hv : RVs P As e rs vs) (he : (if h : vs.toArray.size = 1 then vs.toArray[0] else .tuple vs.toArray) = v) (hg : Gh As B) (hR : R v B) : BodyQ P fn (Ret R) .ret e [] As := by
  refine ⟨rfl, v, fun I h' w tmps ht s f => ?_, v, B, rfl, hg, hR⟩
  have hr := RVs.run ht s f hv
  have hm : (fn.results.mapM (rvOf tmps)).run P w = .ok vs.toArray w := by
    rw [h, List.mapM_toArray]
    simp [hr]
  have e1 : results fn tmps = (do let vs ← fn.results.mapM (rvOf tmps); pure (if h : vs.size = 1 then vs[0] else .tuple vs)) := by
    unfold results
    congr 2
  rw [e1]
  simp only [Sem.run_bind, hm, Result.andThen_ok, Sem.run_pure, he]
end
end Go.Proofs.YtkdakjjockfmdaaGreatDoor.SL

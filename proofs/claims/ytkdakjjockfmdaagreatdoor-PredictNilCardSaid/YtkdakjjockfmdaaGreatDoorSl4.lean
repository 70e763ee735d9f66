/- Ghost steps, calls, results, slicing, regions that draw. -/
import Derived.Test.YtkdakjjockfmdaaGreatDoorSl3
import Derived.KernelRfl
import Derived.Lib.SlBytesConst
namespace Go.Proofs.YtkdakjjockfmdaaGreatDoor.SL
open Go Go.RowKit
set_option linter.unusedVariables false
set_option linter.unusedSimpArgs false

/-- A ghost step: atoms change, the world does not. -/
def Gh (As Bs : List Asrt) : Prop := ∀ I h w, sepL As I h → Fits I h w → ∃ I' h', Goes I h w I' h' w ∧ sepL Bs I' h'
theorem Gh.of {As Bs : List Asrt} (hv : ∀ I h, sepL As I h → sepL Bs I h) : Gh As Bs := fun I h w s f => ⟨I, h, Goes.refl f, hv I h s⟩
theorem Gh.trans {As Bs Cs : List Asrt} (a : Gh As Bs) (b : Gh Bs Cs) : Gh As Cs := fun I h w s f => by
  obtain ⟨I1, h1, g1, s1⟩ := a I h w s f
  obtain ⟨I2, h2, g2, s2⟩ := b I1 h1 w s1 g1.fits
  exact ⟨I2, h2, g1.trans g2, s2⟩

section
variable {P : Program} {n : Nat} {Q : PostT} {e : Env} {ds : List Deferred} {As Bs : List Asrt} {d : Option Nat} {ty T T' E tx : TypeId} {pos : String} {aft : Array Edge} {g : Option (Nat × Bool)} {x y z : Operand} {K : Env → List Deferred → List Asrt → Prop}

theorem PostA.goes {I0 h0 I h : Hp} {w0 w : World} (gg : Goes I0 h0 w0 I h w) {ex : Exit} {a' : Act} {w' : World} (p : PostA n Q I h w ex a' w') : PostA n Q I0 h0 w0 ex a' w' := by
  obtain ⟨e', ds', As', I', h', r', s', g', q⟩ := p
  exact ⟨e', ds', As', I', h', r', s', gg.trans g', q⟩

theorem SA.ghost {c : Code} (hv : Gh As Bs) (h : SA P n c Q e ds Bs) : SA P n c Q e ds As := fun I h' a w s r f => by
  obtain ⟨I1, h1, g1, s1⟩ := hv I h' w s f
  exact wp_mono (h I1 h1 a w s1 r g1.fits) fun _ _ _ p => PostA.goes g1 p

theorem OA.ghost {o : Oper} (hv : Gh As Bs) (h : OA P n o K Q e ds Bs) : OA P n o K Q e ds As := fun I h' a w s r f => by
  obtain ⟨I1, h1, g1, s1⟩ := hv I h' w s f
  have hw := h I1 h1 a w s1 r g1.fits
  have next : ∀ a' w', (∃ e' ds' As' I' h', Rel n e' ds' a' ∧ sepL As' I' h' ∧ Goes I1 h1 w I' h' w' ∧ K e' ds' As') → (∃ e' ds' As' I'' h'', Rel n e' ds' a' ∧ sepL As' I'' h'' ∧ Goes I h' w I'' h'' w' ∧ K e' ds' As') := fun a' w' p => by
    obtain ⟨e', ds', As', I', h', r', s', g', q⟩ := p
    exact ⟨e', ds', As', I', h', r', s', g1.trans g', q⟩
  unfold Oper.wp at *
  generalize (execOp a.eval o).run P w = res at *
  cases res with
  | ok x w' =>
    cases x <;> simp only [Oper.upon] at hw ⊢ <;> first
      | exact next _ _ hw
      | exact Calls.mono hw (fun ee w'' he => by cases ee <;> first | exact next _ _ he | exact PostA.goes g1 he | (obtain ⟨a2, w2, q⟩ := he; exact ⟨a2, w2, PostA.goes g1 q⟩))
      | exact Rows.mono hw (fun _ _ he => next _ _ he)
  | halt x w' => cases x <;> simp only [Oper.upon] at hw ⊢ <;> exact PostA.goes g1 hw

/-- What is owned is made known for good. -/
theorem Gh.freeze {α : Type} {kd : Kd α} {A : Option Addr} {c k : Nat} {xs : List α} (hk : As[k]? = some (Buf kd T A c xs)) : Gh As (As.set k (Ro kd A c xs)) := by
  intro I h w s f
  obtain ⟨h1, l, ⟨cs, hr, hc⟩, ff⟩ := sepL_at hk s
  rcases hc with ⟨hA, hc, hx⟩ | ⟨gb, cur, hA, ⟨fr, hg, hfz⟩, hlc, hcm, hcs, ht⟩
  · subst hx
    exact ⟨I, h, Goes.refl f, ff _ I (fun _ => none) h (Le.refl I) ⟨Nat.zero_le _, cs, hr, .inl rfl⟩ (fun _ _ e => by cases e) (fun b o e1 _ => ⟨e1, rfl⟩)⟩
  · have hh := l gb _ hg
    have hI := f.sep gb _ hh
    let ob : Obj := .cells cur T fr
    have leI : Le I (fun b => if b = gb then some ob else I b) := fun b u e => by
      have : b ≠ gb := by rintro rfl; rw [hI] at e; cases e
      simp [this, e]
    refine ⟨fun b => if b = gb then some ob else I b, fun b => if b = gb then none else h b, ⟨⟨fun b u e => ?_, fun b u e => ?_, fun b u e => ?_⟩, leI, rfl, rfl, rfl, Nat.le_refl _, fun b hb e => ?_⟩, ?_⟩
    · by_cases hb : b = gb
      · subst hb; simp at e; rw [← e]; exact f.own b _ hh
      · simp [hb] at e; exact f.imm b u e
    · by_cases hb : b = gb
      · simp [hb] at e
      · simp [hb] at e; exact f.own b u e
    · by_cases hb : b = gb
      · simp [hb] at e
      · simp [hb] at e; simp [hb]; exact f.sep b u e
    · have : b ≠ gb := by rintro rfl; rw [hh] at e; cases e
      exact ⟨rfl, by simp [this, e], by simp [this]⟩
    · refine ff _ _ (fun _ => none) _ leI ⟨hlc, cs, hr.mono leI, .inr ⟨gb, 0, cur, T, fr, hA, by simp [ob], fun j v hj => ?_⟩⟩ (fun _ _ e => by cases e) (fun b u e1 e2 => ?_)
      · have hj' : j < xs.length * kd.sz := by
          rw [← hr.len]
          rcases Nat.lt_or_ge j cs.length with q | q
          · exact q
          · simp [List.getElem?_eq_none q] at hj
        rw [← ht, List.getElem?_take, if_pos hj'] at hj
        simpa using hj
      · have : b ≠ gb := by rintro rfl; rw [hg] at e2; cases e2
        exact ⟨by simp [this, e1], rfl⟩

/-- A nil slice owns nothing. -/
theorem Gh.nilBuf {α : Type} (kd : Kd α) (T : TypeId) : Gh As (As ++ [Buf kd T none 0 []]) := Gh.of fun I h s =>
  sepL_append ⟨Le.refl h, (fun _ _ e => by cases e), fun _ _ _ => rfl⟩ s ⟨fun _ => none, fun _ => none, ⟨fun _ _ e => (by cases e), fun _ _ e => (by cases e), fun _ _ e => (by cases e)⟩, ⟨[], rfl, .inl ⟨rfl, rfl, rfl⟩⟩, trivial⟩
theorem Gh.nilRo {α : Type} (kd : Kd α) (A : Option Addr) (c : Nat) : Gh As (As ++ [Ro kd A c []]) := Gh.of fun I h s =>
  sepL_append ⟨Le.refl h, (fun _ _ e => by cases e), fun _ _ _ => rfl⟩ s ⟨fun _ => none, fun _ => none, ⟨fun _ _ e => (by cases e), fun _ _ e => (by cases e), fun _ _ e => (by cases e)⟩, ⟨Nat.zero_le _, [], rfl, .inl rfl⟩, trivial⟩

theorem Gh.know {k : Nat} {A B : Asrt} (hk : As[k]? = some A) (hp : B.pers = true) (hv : ∀ I h, A.P I h → B.P I h) : Gh As (As ++ [B]) := Gh.of fun I h s => by
  obtain ⟨h1, _, p, _⟩ := sepL_at hk s
  exact sepL_append ⟨Le.refl h, (fun _ _ e => by cases e), fun _ _ _ => rfl⟩ s ⟨fun _ => none, fun _ => none, ⟨fun _ _ e => (by cases e), fun _ _ e => (by cases e), fun _ _ e => (by cases e)⟩, B.free hp (hv I h1 p), trivial⟩

/-- A part of a slice. -/
def sub {α : Type} (xs : List α) (l h : Int) : List α := (xs.drop l.toNat).take (h.toNat - l.toNat)
def slA (A : Option Addr) (l m : Int) (sz : Nat) : Option Addr := sliced_addr A l.toNat m.toNat sz
  where sliced_addr (A : Option Addr) (l m sz : Nat) : Option Addr := if m = l then A else A.map (·.add (l * sz))
theorem sub_len {α : Type} {xs : List α} {l h : Int} (h0 : 0 ≤ l) (h1 : l ≤ h) (h2 : h ≤ (xs.length : Int)) : (sub xs l h).length = h.toNat - l.toNat := by
  simp [sub]; omega

theorem RL.sub {α : Type} {kd : Kd α} {I : Hp} : ∀ {xs : List α} {cs : List Value} (l m : Nat), RL kd I cs xs → RL kd I ((cs.drop (l * kd.sz)).take (m * kd.sz)) ((xs.drop l).take m)
  | [], cs, l, m, h => by simp only [RL] at h; subst h; simp [RL]
  | x :: xs, _, 0, 0, _ => by simp [RL]
  | x :: xs, _, 0, m + 1, ⟨c1, c2, e, h1, h2⟩ => by
    have ih := RL.sub 0 m h2
    have hl := kd.len h1
    refine ⟨c1, _, ?_, h1, ih⟩
    subst e
    simp only [Nat.zero_mul, List.drop_zero]
    rw [List.take_append, hl, List.take_of_length_le (by rw [hl, Nat.add_mul]; omega), show (m + 1) * kd.sz - kd.sz = m * kd.sz from by rw [Nat.add_mul]; omega]
  | x :: xs, _, l + 1, m, ⟨c1, c2, e, h1, h2⟩ => by
    have ih := RL.sub l m h2
    have hl := kd.len h1
    subst e
    rw [List.drop_append, List.drop_of_length_le (by rw [hl, Nat.add_mul]; omega), hl, show (l + 1) * kd.sz - kd.sz = l * kd.sz from by rw [Nat.add_mul]; omega]
    simpa using ih

theorem Ro_sub {α : Type} {kd : Kd α} {A : Option Addr} {c sz : Nat} {xs : List α} {l h m : Int} (hsz : kd.sz = sz) (h0 : 0 ≤ l) (h1 : l ≤ h) (h2 : h ≤ (xs.length : Int)) (h3 : h ≤ m) :
    ∀ I hh, (Ro kd A c xs).P I hh → (Ro kd (slA A l m sz) (m.toNat - l.toNat) (sub xs l h)).P I hh := fun I hh ⟨hle, cs, hr, hx⟩ => by
  subst hsz
  have hlen := sub_len h0 h1 h2
  refine ⟨by rw [hlen]; omega, _, RL.sub l.toNat (h.toNat - l.toNat) hr, ?_⟩
  by_cases hm : m.toNat = l.toNat
  · left
    apply List.eq_nil_of_length_eq_zero
    show (sub xs l h).length = 0
    rw [hlen]; omega
  · rcases hx with hx | ⟨b, off, C, T, fr, hA, hb, hv⟩
    · left; subst hx; simp [sub]
    · right
      subst hA
      refine ⟨b, off + l.toNat * kd.sz, C, T, fr, by simp [slA, slA.sliced_addr, hm, Addr.add_lit], hb, fun j v hj => ?_⟩
      rw [List.getElem?_take] at hj
      split at hj
      · rw [List.getElem?_drop] at hj
        have := hv _ v hj
        rw [Nat.add_assoc]; exact this
      · cases hj

theorem Gh.subRo {α : Type} {kd : Kd α} {A : Option Addr} {c k sz : Nat} {xs : List α} {l h m : Int} (hk : As[k]? = some (Ro kd A c xs)) (hsz : kd.sz = sz) (h0 : 0 ≤ l) (h1 : l ≤ h) (h2 : h ≤ (xs.length : Int)) (h3 : h ≤ m) :
    Gh As (As ++ [Ro kd (slA A l m sz) (m.toNat - l.toNat) (sub xs l h)]) := Gh.know hk rfl (Ro_sub hsz h0 h1 h2 h3)

def optV (k : IntKind) : Option Int → Option Value
  | some i => some (.int k i)
  | none => none
/-- x[l:h:m] of a slice, whatever bounds are written. -/
theorem V_slice {A : Option Addr} {len c sz : Nat} {lo hi mx : Option Operand} {lv hv mv : Option Value} {l h m : Int} (hu : P.underlying T = some (.slice E)) (hz : (P.info? E).map (·.size) = some sz) (hx : ev e x = .slice A len c)
    (hlo : lo.map (ev e) = lv) (hhi : hi.map (ev e) = hv) (hmx : mx.map (ev e) = mv)
    (hb : (lv = none ∧ l = 0 ∨ ∃ k, lv = some (.int k l)) ∧ (hv = none ∧ mv = none ∧ h = len ∨ ∃ k, hv = some (.int k h)) ∧ (mv = none ∧ m = c ∨ (∃ k, mv = some (.int k m)) ∧ ∃ k, hv = some (.int k h)))
    (h0 : 0 ≤ l) (h1 : l ≤ h) (h2 : h ≤ m) (h3 : m ≤ (c : Int)) : V P e ⟨d, .slice T x lo hi mx, ty, pos, aft, g⟩ (.slice (slA A l m sz) (h.toNat - l.toNat) (m.toNat - l.toNat)) := fun w => by
  cases hq : P.info? E with
  | none => simp [hq] at hz
  | some q =>
    have hz' : q.size = sz := by simpa [hq] using hz
    have hs : (Instr.slice T (.slice A len c) lv hv mv).run P w = .ok (.slice (slA A l m sz) (h.toNat - l.toNat) (m.toNat - l.toNat)) w := by
      have em : (m.toNat : Int) = m := Int.toNat_of_nonneg (by omega)
      have eh : (h.toNat : Int) = h := Int.toNat_of_nonneg (by omega)
      have bm : (k : IntKind) → ∀ code, (Instr.sliceBound (.int k m) c code).run P w = .ok m.toNat w := fun k code => run_sliceBound (P := P) (w := w) k m c code (by omega) h3
      have bh : (k : IntKind) → ∀ code, (Instr.sliceBound (.int k h) m.toNat code).run P w = .ok h.toNat w := fun k code => run_sliceBound (P := P) (w := w) k h m.toNat code (by omega) (by omega)
      have bl : (k : IntKind) → ∀ code, (Instr.sliceBound (.int k l) h.toNat code).run P w = .ok l.toNat w := fun k code => run_sliceBound (P := P) (w := w) k l h.toNat code (by omega) (by omega)
      obtain ⟨hl', hh', hm'⟩ := hb
      have e0 : ∀ (q : TypeId), True := fun _ => trivial
      rcases hm' with ⟨rfl, rfl⟩ | ⟨⟨km, rfl⟩, kh, hhv⟩
      · simp only [Int.toNat_natCast] at *
        rcases hh' with ⟨rfl, _, rfl⟩ | ⟨kh, rfl⟩
        · simp only [Int.toNat_natCast] at *
          rcases hl' with ⟨rfl, rfl⟩ | ⟨kl, rfl⟩ <;> simp [Instr.slice, run_underlying hu, Instr.sliceBounds, bl, sizeOf, typeInfo, hq, hz', slA, slA.sliced_addr]
        · rcases hl' with ⟨rfl, rfl⟩ | ⟨kl, rfl⟩ <;> simp [Instr.slice, run_underlying hu, Instr.sliceBounds, bl, bh, sizeOf, typeInfo, hq, hz', slA, slA.sliced_addr]
      · subst hhv
        rcases hl' with ⟨rfl, rfl⟩ | ⟨kl, rfl⟩ <;> simp [Instr.slice, run_underlying hu, Instr.sliceBounds, bl, bh, bm, sizeOf, typeInfo, hq, hz', slA, slA.sliced_addr]
    simp only [execOp, hx, hlo, hhi, hmx, Instr.sliceAt, Sem.run_bind, run_underlying hu, Result.andThen_ok, hs, Sem.run_pure]

/-- A cut of a string. -/
theorem V_sliceStr {s : ByteArray} {lo hi : Option Operand} {lv hv : Option Value} {l h : Int} (hu : P.underlying T = some .string) (hx : ev e x = .string s) (hlo : lo.map (ev e) = lv) (hhi : hi.map (ev e) = hv)
    (hb : (lv = none ∧ l = 0 ∨ ∃ k, lv = some (.int k l)) ∧ (hv = none ∧ h = s.size ∨ ∃ k, hv = some (.int k h))) (h0 : 0 ≤ l) (h1 : l ≤ h) (h2 : h ≤ (s.size : Int)) :
    V P e ⟨d, .slice T x lo hi none, ty, pos, aft, g⟩ (.string (s.extract l.toNat h.toNat)) := fun w => by
  have eh : (h.toNat : Int) = h := Int.toNat_of_nonneg (by omega)
  have bh : (k : IntKind) → ∀ code, (Instr.sliceBound (.int k h) s.size code).run P w = .ok h.toNat w := fun k code => run_sliceBound (P := P) (w := w) k h s.size code (by omega) (by omega)
  have bl : (k : IntKind) → ∀ code, (Instr.sliceBound (.int k l) h.toNat code).run P w = .ok l.toNat w := fun k code => run_sliceBound (P := P) (w := w) k l h.toNat code (by omega) (by omega)
  have hs : (Instr.slice T (.string s) lv hv none).run P w = .ok (.string (s.extract l.toNat h.toNat)) w := by
    obtain ⟨hl', hh'⟩ := hb
    rcases hh' with ⟨rfl, rfl⟩ | ⟨kh, rfl⟩
    · simp only [Int.toNat_natCast] at *
      rcases hl' with ⟨rfl, rfl⟩ | ⟨kl, rfl⟩ <;> simp [Instr.slice, run_underlying hu, Instr.sliceBounds, bl]
    · rcases hl' with ⟨rfl, rfl⟩ | ⟨kl, rfl⟩ <;> simp [Instr.slice, run_underlying hu, Instr.sliceBounds, bl, bh]
  simp only [execOp, hx, hlo, hhi, Option.map_none, Instr.sliceAt, Sem.run_bind, run_underlying hu, Result.andThen_ok, hs, Sem.run_pure]

/-- A byte of a string. -/
theorem V_indexStr {s : ByteArray} {k : IntKind} {i : Int} (hu : P.underlying T = some .string) (hx : ev e x = .string s) (hy : ev e y = .int k i) (h0 : 0 ≤ i) (h1 : i < (s.size : Int)) :
    V P e ⟨d, .index T x y, ty, pos, aft, g⟩ (.int .u8 (rd (bytesOf s) i)) := fun w => by
  have hi : i.toNat < s.size := by omega
  have e1 : s[i.toNat]? = some (s[i.toNat]'hi) := by simp [getElem?_def, hi]
  have e2 : rd (bytesOf s) i = ((s[i.toNat]'hi).toNat : Int) := by
    unfold rd bytesOf
    have hl : i.toNat < s.data.toList.length := by rw [Array.length_toList]; exact hi
    rw [List.getD_eq_getElem?_getD, List.getElem?_map, List.getElem?_eq_getElem hl]
    simp
    rfl
  simp [execOp, Instr.index, hx, hy, asIntOf, run_underlying hu, h0, e1, e2]

/-- '[]byte("..")': the row gets a mark; it is read from here on. -/
theorem OA_bytesConst {A : Option Addr} {c k : Nat} {xs : List Int} (hd : okDst d n = true) (hu : P.underlying T = some (.slice E)) (he : P.underlying E = some (.int .u8)) (hk : As[k]? = some (Buf (Kd.int .u8) E A c xs)) (hA : c ≠ 0) (hx : ev e x = .slice A xs.length c)
    (h : K (put e d (.slice A xs.length c)) ds As) : OA P n ⟨d, .convert T T x, ty, pos, aft, g⟩ K Q e ds As := by
  intro I h0 a w s r f
  obtain ⟨h1, l, ⟨cs, hr, hc⟩, ff⟩ := sepL_at hk s
  rcases hc with ⟨_, hA0, _⟩ | ⟨gb, cur, hA1, ⟨fr, hg, hfz⟩, hlc, hcm, hcs, ht⟩
  · exact absurd hA0 hA
  · subst hA1
    have hh := l gb _ hg
    have hw := f.own gb _ hh
    have hsh : w.shape? gb = some (E, cur.size) := by simp [World.shape?, hw]
    have hrun : (convert T T (.slice (some ⟨gb, 0, none⟩) xs.length c)).run P w = .ok (.slice (some ⟨gb, 0, none⟩) xs.length c) (w.freeze ⟨gb, cur.size, none⟩ 1) := by
      simp [convert, run_underlying hu, run_underlying he, markStringish, hsh]
    obtain ⟨fr', hfz', hfr⟩ : ∃ fr', Fzd (Kd.int .u8) cur.size fr' ∧ ∀ b, (w.freeze ⟨gb, cur.size, none⟩ 1).heap[b]? = if b = gb then some (.cells cur E fr') else w.heap[b]? := by
      obtain ⟨lo, up⟩ := fr
      refine ⟨if lo == up then (cur.size, cur.size + 1) else (min lo cur.size, max up (cur.size + 1)), ?_, fun b => ?_⟩
      · refine ⟨.inr ?_, fun q => by cases q⟩
        split
        · exact Nat.le_refl _
        · rename_i hne
          rcases hfz.1 with q | q
          · obtain ⟨rfl, rfl⟩ := Prod.mk.inj q; simp at hne
          · simp only at q ⊢; omega
      · simp only [World.freeze, Nat.one_ne_zero, if_false, Array.getElem?_modify]
        by_cases hb : b = gb
        · subst hb; simp [hw]
        · simp [hb, Ne.symm hb]
    unfold Oper.wp
    rw [r.eval]
    simp only [execOp, hx, Sem.run_bind, hrun, Result.andThen_ok, Sem.run_pure]
    have hset := upd_block (ob' := .cells cur E fr') ff hg (A' := Buf (Kd.int .u8) E (some ⟨gb, 0, none⟩) c xs) ⟨cs, hr, .inr ⟨gb, cur, rfl, ⟨_, if_pos rfl, hfz'⟩, hlc, hcm, hcs, ht⟩⟩
    have hsame : As.set k (Buf (Kd.int .u8) E (some ⟨gb, 0, none⟩) c xs) = As := by
      apply List.ext_getElem?
      intro j
      rw [List.getElem?_set]
      split
      · rename_i hj; subst hj
        have : k < As.length := by
          rcases Nat.lt_or_ge k As.length with z | z
          · exact z
          · simp [List.getElem?_eq_none z] at hk
        simp [this, ← hk]
      · rfl
    rw [hsame] at hset
    refine ⟨_, ds, _, I, _, r.put hd _, hset, ⟨⟨fun b u e => ?_, fun b u e => ?_, fun b u e => ?_⟩, Le.refl I, rfl, rfl, rfl, ?_, fun b hb e => ?_⟩, h⟩
    · have : b ≠ gb := by rintro rfl; rw [f.sep b _ hh] at e; cases e
      rw [hfr, if_neg this]; exact f.imm b u e
    · rw [hfr]
      by_cases hb : b = gb
      · simp [hb] at e ⊢; exact e
      · simp [hb] at e ⊢; exact f.own b u e
    · by_cases hb : b = gb
      · subst hb; exact f.sep b _ hh
      · simp [hb] at e; exact f.sep b u e
    · simp [World.freeze]
    · have : b ≠ gb := by rintro rfl; rw [hh] at e; cases e
      exact ⟨by rw [hfr, if_neg this], by simp [this, e], rfl⟩

theorem run_enter {f : FuncId} {fn : Func} {c : Code} (hf : P.funcs[f]? = some fn) (hname : (fn.name == "runtime.NumGoroutine") = false) (hb : fn.body = some c) (args : Array Value) (w : World) :
    (callFunc f args).run P w = .ok (.enter f args) w := by
  have h1 : fn.name ≠ "runtime.NumGoroutine" := by simpa using hname
  simp [callFunc, hf, h1, hb]
theorem X_call {f : FuncId} {fn : Func} {c : Code} {args : Array Operand} {ts : Array TypeId} {vs : Array Value} (hf : P.funcs[f]? = some fn) (hn : (fn.name == "runtime.NumGoroutine") = false) (hb : fn.body = some c) (ha : args.map (ev e) = vs) (w : World) :
    (execOp (ev e) ⟨d, .call { callee := .value (.func f), args := args, argTypes := ts }, ty, pos, aft, g⟩).run P w = .ok (.enter f vs) w := by
  have := run_enter hf hn hb (vs ++ #[]) w
  simp only [Array.append_empty] at this
  simp [execOp, resolve, ev, Deferred.ofValue, invoke, ha, this]

theorem X_callV {t : Nat} {f : FuncId} {fn : Func} {c : Code} {args : Array Operand} {ts : Array TypeId} {vs cap : Array Value} (ht : e t = .func (.func f) #[] cap) (hf : P.funcs[f]? = some fn) (hn : (fn.name == "runtime.NumGoroutine") = false) (hb : fn.body = some c) (ha : args.map (ev e) = vs) (w : World) :
    (execOp (ev e) ⟨d, .call { callee := .value (.tmp t), args := args, argTypes := ts }, ty, pos, aft, g⟩).run P w = .ok (.enter f (vs ++ cap)) w := by
  have := run_enter hf hn hb (vs ++ cap) w
  simp [execOp, resolve, ev, ht, Deferred.ofValue, invoke, ha, this]

/-! ### results -/
theorem BQ_ret1 {fn : Func} {R : Ending → List Asrt → Prop} {t : Nat} {v : Value} (h : fn.results = #[.tmp t]) (hv : e t = v) (hd : ds = []) (hR : R (.returned v) As) : BodyQ P fn R .ret e ds As := by
  refine ⟨hd, v, fun I h' w tmps ht _ _ => ?_, hR⟩
  have := ht t
  simp at this
  simp [results, h, this, hv]
theorem BQ_ret2 {fn : Func} {R : Ending → List Asrt → Prop} {t1 t2 : Nat} {v1 v2 : Value} (h : fn.results = #[.tmp t1, .tmp t2]) (h1 : e t1 = v1) (h2 : e t2 = v2) (hd : ds = []) (hR : R (.returned (.tuple #[v1, v2])) As) : BodyQ P fn R .ret e ds As := by
  refine ⟨hd, _, fun I h' w tmps ht _ _ => ?_, hR⟩
  have a1 := ht t1
  have a2 := ht t2
  simp at a1 a2
  simp [results, h, a1, a2, h1, h2]
theorem BQ_ret3 {fn : Func} {R : Ending → List Asrt → Prop} {t1 t2 t3 : Nat} {v1 v2 v3 : Value} (h : fn.results = #[.tmp t1, .tmp t2, .tmp t3]) (h1 : e t1 = v1) (h2 : e t2 = v2) (h3 : e t3 = v3) (hd : ds = []) (hR : R (.returned (.tuple #[v1, v2, v3])) As) : BodyQ P fn R .ret e ds As := by
  refine ⟨hd, _, fun I h' w tmps ht _ _ => ?_, hR⟩
  have a1 := ht t1
  have a2 := ht t2
  have a3 := ht t3
  simp at a1 a2 a3
  simp [results, h, a1, a2, a3, h1, h2, h3]
theorem BQ_ret0 {fn : Func} {R : Ending → List Asrt → Prop} (h : fn.results = #[]) (hd : ds = []) (hR : R (.returned (.tuple #[])) As) : BodyQ P fn R .ret e ds As := by
  refine ⟨hd, _, fun I h' w tmps ht _ _ => ?_, hR⟩
  simp [results, h]
end

/-! ### what the shallow functions' equations give -/
theorem g_if {α : Type} {c : Prop} [Decidable c] {x y : Option α} {r : α} (h : (if c then x else y) = some r) : c ∧ x = some r ∨ ¬c ∧ y = some r := by
  by_cases hc : c
  · rw [if_pos hc] at h; exact .inl ⟨hc, h⟩
  · rw [if_neg hc] at h; exact .inr ⟨hc, h⟩
theorem g_pos {α : Type} {c : Prop} [Decidable c] {x : Option α} {r : α} (h : (if c then x else none) = some r) : c ∧ x = some r := by
  by_cases hc : c
  · rw [if_pos hc] at h; exact ⟨hc, h⟩
  · rw [if_neg hc] at h; cases h
theorem g_bind {α β : Type} {x : Option α} {f : α → Option β} {r : β} (h : x.bind f = some r) : ∃ a, x = some a ∧ f a = some r := Option.bind_eq_some_iff.1 h
/-- A value under a name. -/
def lt {α β : Type} (x : α) (f : α → β) : β := f x
theorem g_lt {α β : Type} {x : α} {f : α → Option β} {r : β} (h : lt x f = some r) : ∃ y, y = x ∧ f y = some r := ⟨x, rfl, h⟩
end Go.Proofs.YtkdakjjockfmdaaGreatDoor.SL

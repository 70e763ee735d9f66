/- A machine that reckons: operations that only look. -/
import Derived.Test.YtkdakjjockfmdaaGreatDoorXC
namespace Go.Proofs.YtkdakjjockfmdaaGreatDoor.XC
open Go Go.RowKit Go.Proofs.YtkdakjjockfmdaaGreatDoor.SL
set_option linter.unusedVariables false
set_option linter.unusedSimpArgs false
section
variable {P : Program} {ρ : Type} {σ : List Ad} {L : Tr At} {s : St} {I h : Hp} {As : List Asrt} {e : Env} {w : World} {K : SV → St → Option ρ} {r : ρ}
variable {d : Option Nat} {T T' ty : TypeId} {x y c : Operand} {pos : String} {aft : Array Edge} {g : Option (Nat × Bool)} {rds : List Nat}

theorem look_move (S : SR σ s I h As e) (hX : opX P s (.move x) K = some r) : LookOk P s ⟨d, .move x, ty, pos, aft, g⟩ K r σ I w e rds := LookOk.pure hX (sev_ok S x) (V_move rfl)
theorem look_assign (S : SR σ s I h As e) (hX : opX P s (.assign x) K = some r) : LookOk P s ⟨d, .assign x, ty, pos, aft, g⟩ K r σ I w e rds := LookOk.pure hX (sev_ok S x) (V_assign rfl)
theorem look_nilCheck (S : SR σ s I h As e) (hX : opX P s (.nilCheck x) K = some r) : LookOk P s ⟨d, .nilCheck x, ty, pos, aft, g⟩ K r σ I w e rds := by
  have hx := sev_ok S x
  simp only [opX] at hX
  cases hq : sev s x <;> rw [hq] at hX hx <;> try cases hX
  case ptr k o => obtain ⟨a, ha, hea⟩ := hx; exact LookOk.pure hX ⟨a, ha, hea⟩ (by rw [hea]; exact V_nilCheck hea)
  case el k z i o => obtain ⟨a, ha, hea⟩ := hx; exact LookOk.pure hX ⟨a, ha, hea⟩ (by rw [hea]; exact V_nilCheck hea)
  case er t xs i o => obtain ⟨A, c, hea, hr⟩ := hx; exact LookOk.pure hX ⟨A, c, hea, hr⟩ (by rw [hea]; exact V_nilCheck hea)
theorem look_pick (S : SR σ s I h As e) (hX : opX P s (.pick c x y) K = some r) : LookOk P s ⟨d, .pick c x y, ty, pos, aft, g⟩ K r σ I w e rds := by
  have hc := sev_ok S c
  simp only [opX] at hX
  cases hq : sev s c <;> rw [hq] at hX hc <;> try cases hX
  rename_i q
  have hc : ev e c = .bool q := hc
  cases q with
  | true => exact LookOk.pure hX (sev_ok S x) (V_pickT hc rfl rfl)
  | false => exact LookOk.pure hX (sev_ok S y) (V_pickF hc rfl rfl)
theorem look_un {op : UnOp} (S : SR σ s I h As e) (hX : opX P s (.unOp op T x) K = some r) : LookOk P s ⟨d, .unOp op T x, ty, pos, aft, g⟩ K r σ I w e rds := by
  have hx := sev_ok S x
  cases op <;> simp only [opX] at hX <;> try cases hX
  case not =>
    cases hq : sev s x <;> rw [hq] at hX hx <;> try cases hX
    exact LookOk.pure hX rfl (V_not hx)
  case neg =>
    cases hq : sev s x <;> rw [hq] at hX hx <;> try cases hX
    exact LookOk.pure hX rfl (V_neg hx)
  case xor =>
    cases hq : sev s x <;> rw [hq] at hX hx <;> try cases hX
    exact LookOk.pure hX rfl (V_cpl hx)

/-! ### whether data are alike -/
theorem partS_ok {T : TypeId} {cs : List SV} {off : Nat} {v : SV} {vs : Array Value} (hp : partS P T cs off = some v) (hv : VRs σ L I cs vs.toList) : ∃ u, partC P T vs off = some u ∧ VR σ L I v u := by
  unfold partS at hp
  unfold partC
  have ag : ∀ i : TypeInfo, VR σ L I (.agg ((cs.drop off).take i.size)) (.agg (vs.extract off (off + i.size))) := fun i => ⟨_, rfl, by
    have := (hv.drop off).take i.size
    rw [Array.toList_extract, List.extract_eq_take_drop]
    simpa using this⟩
  cases hu : P.underlying T with
  | none => rw [hu] at hp; cases hp
  | some td =>
    rw [hu] at hp
    have one : cs[off]? = some v → ∃ u, vs[off]? = some u ∧ VR σ L I v u := fun hp => by
      obtain ⟨u, h3, h4⟩ := hv.get hp
      exact ⟨u, by simpa using h3, h4⟩
    cases td
    case struct =>
      cases hi : P.info? T with
      | none => simp [hi] at hp
      | some i => simp only [hi, Option.map_some, Option.some.injEq] at hp; subst hp; exact ⟨_, rfl, ag i⟩
    case array =>
      cases hi : P.info? T with
      | none => simp [hi] at hp
      | some i => simp only [hi, Option.map_some, Option.some.injEq] at hp; subst hp; exact ⟨_, rfl, ag i⟩
    all_goals exact one hp
theorem andC_ok {α : Type} {f g : α → Option Bool} : ∀ {l : List α} {b : Bool}, (∀ x b, x ∈ l → f x = some b → g x = some b) → andC (l.map f) = some b → andC (l.map g) = some b
  | [], _, _, h => h
  | x :: l, b, k, h => by
    simp only [List.map_cons, andC, Option.bind_eq_some_iff, Option.map_eq_some_iff] at h ⊢
    obtain ⟨a, h1, c, h2, h3⟩ := h
    exact ⟨a, k x a (by simp) h1, c, andC_ok (fun y b hy => k y b (by simp [hy])) h2, h3⟩
theorem eqT_ok : ∀ (d : Nat) {T : TypeId} {x y : SV} {u v : Value} {b : Bool}, eqT P d T x y = some b → VR σ L I x u → VR σ L I y v → eqC P d T u v = some b
  | 0, _, _, _, _, _, _, h, _, _ => by cases h
  | d + 1, T, x, y, u, v, b, h, hx, hy => by
    unfold eqT at h
    unfold eqC
    split at h
    · rename_i hu; rw [hu]
      split at h
      · have hx := hx; have hy := hy; simp only [VR] at hx hy; subst hx hy; exact h
      · cases h
    · rename_i k hu; rw [hu]
      split at h
      · have hx := hx; have hy := hy; simp only [VR] at hx hy; subst hx hy; exact h
      · cases h
    · rename_i hu; rw [hu]
      split at h
      · have hx := hx; have hy := hy; simp only [VR] at hx hy; subst hx hy; exact h
      · cases h
    · rename_i fs hu; rw [hu]
      split at h
      · simp only [VR] at hx hy
        obtain ⟨us, rfl, hx⟩ := hx
        obtain ⟨ws, rfl, hy⟩ := hy
        simp only
        split at h
        · cases h
        · rename_i h1
          rw [if_neg h1]
          split at h
          · rename_i h2
            rw [if_pos h2]
            refine andC_ok (fun f b hf q => ?_) h
            simp only [Option.bind_eq_some_iff] at q ⊢
            obtain ⟨a1, p1, a2, p2, p3⟩ := q
            obtain ⟨u1, q1, r1⟩ := partS_ok p1 hx
            obtain ⟨u2, q2, r2⟩ := partS_ok p2 hy
            exact ⟨u1, q1, u2, q2, eqT_ok d p3 r1 r2⟩
          · cases h
      · cases h
    · rename_i n E hu; rw [hu]
      split at h
      · simp only [VR] at hx hy
        obtain ⟨us, rfl, hx⟩ := hx
        obtain ⟨ws, rfl, hy⟩ := hy
        simp only
        cases hi : P.info? E with
        | none => rw [hi] at h; cases h
        | some i =>
          rw [hi] at h
          simp only [Option.bind_some] at h ⊢
          refine andC_ok (fun f b hf q => ?_) h
          simp only [Option.bind_eq_some_iff] at q ⊢
          obtain ⟨a1, p1, a2, p2, p3⟩ := q
          obtain ⟨u1, q1, r1⟩ := partS_ok p1 hx
          obtain ⟨u2, q2, r2⟩ := partS_ok p2 hy
          exact ⟨u1, q1, u2, q2, eqT_ok d p3 r1 r2⟩
      · cases h
    · cases h

theorem eqX_ok (S : SR σ s I h As e) (F : Fits I h w) {b : Bool} (hX : eqX P s T (sev s x) (sev s y) = some b) :
    SL.V P e ⟨d, .binOp .eql T x y T', ty, pos, aft, g⟩ (.bool b) ∧ SL.V P e ⟨d, .binOp .neq T x y T', ty, pos, aft, g⟩ (.bool (!b)) := by
  have hx := sev_ok S x
  have hy := sev_ok S y
  have nb : ∀ b : Bool, Value.bool (decide ¬ (b = true)) = .bool (!b) := fun b => by cases b <;> rfl
  cases hq : sev s x <;> rw [hq] at hX hx <;> cases hp : sev s y <;> rw [hp] at hX hy <;> simp only [eqX] at hX <;> try cases hX
  case bool.bool p q =>
    split at hX
    · rename_i hu
      cases hX
      refine ⟨V_eqlB hu hx hy, ?_⟩
      have := V_neqB (d := d) (T' := T') (ty := ty) (pos := pos) (aft := aft) (g := g) hu hx hy
      simpa using this
    · cases hX
  case str.str p q =>
    refine ⟨V_eqlS hx hy, ?_⟩
    have := V_neqS (P := P) (d := d) (T := T) (T' := T') (ty := ty) (pos := pos) (aft := aft) (g := g) hx hy
    simpa using this
  case agg.agg p q =>
    cases hg : P.eqGuardType P.depth T with
    | true => rw [hg] at hX; cases hX
    | false =>
      simp only [hg, cond_false] at hX
      obtain ⟨us, hx, hx'⟩ := hx
      obtain ⟨vs, hy, hy'⟩ := hy
      have hr := eqT_ok 100 hX (show VR σ s.L I (.agg p) (.agg us) from ⟨us, rfl, hx'⟩) (show VR σ s.L I (.agg q) (.agg vs) from ⟨vs, rfl, hy'⟩)
      have e1 : us = us.toList.toArray := by simp
      have e2 : vs = vs.toList.toArray := by simp
      rw [e1, e2] at hr
      rw [e1] at hx
      rw [e2] at hy
      have a1 := V_eqlD (d := d) (T' := T') (ty := ty) (pos := pos) (aft := aft) (g := g) (p := b = true) hg hx hy hr (by cases b <;> rfl)
      have a2 := V_neqD (d := d) (T' := T') (ty := ty) (pos := pos) (aft := aft) (g := g) (p := b = true) hg hx hy hr (by cases b <;> rfl)
      refine ⟨?_, ?_⟩
      · simpa using a1
      · rw [nb] at a2; exact a2
  case nilp.nilp =>
    split at hX
    · rename_i hu; cases hX; exact ⟨V_eqlNN hu hx hy, V_neqNN hu hx hy⟩
    · cases hX
  case ptr.nilp =>
    split at hX
    · rename_i hu; cases hX
      obtain ⟨a, _, hx⟩ := hx
      exact ⟨V_eqlPN hu hx hy, V_neqPN hu hx hy⟩
    · cases hX
  case el.nilp =>
    split at hX
    · rename_i hu; cases hX
      obtain ⟨a, _, hx⟩ := hx
      exact ⟨V_eqlPN hu hx hy, V_neqPN hu hx hy⟩
    · cases hX
  case nils.nils =>
    split at hX
    · rename_i hu; cases hX; exact ⟨V_eqlNil hu hx hy, V_neqNil hu hx hy⟩
    · cases hX
  case sl.nils k =>
    obtain ⟨_, _, hx⟩ := hx
    have go : ∀ {t : Ty} {E : TypeId} {xs : List t.den}, IsSl s.L k t E xs → xs ≠ [] → ∃ A n c, ev e x = .slice (some A) n c := by
      intro t E xs hs hne
      obtain ⟨a, ha, hv⟩ := hx t E xs hs
      obtain ⟨a', ha', cs, _, _, hc⟩ := sl_cells S F hs
      rw [ha] at ha'; cases ha'
      rcases hc with hc | ⟨b, off, e1, _⟩
      · exact absurd hc hne
      · rw [e1] at hv; exact ⟨_, _, _, hv⟩
    split at hX
    · rename_i hu hk
      cases hX
      obtain ⟨A, n, c, hv⟩ := go (.inl hk) (by simp)
      exact ⟨V_eqlNil hu hv hy, V_neqNil hu hv hy⟩
    · rename_i hu hk
      cases hX
      obtain ⟨A, n, c, hv⟩ := go (.inr hk) (by simp)
      exact ⟨V_eqlNil hu hv hy, V_neqNil hu hv hy⟩
    · cases hX
  case rv.nils t xs =>
    cases xs with
    | nil => cases hX
    | cons x0 xs =>
      simp only [eqX] at hX
      split at hX
      · rename_i hu; cases hX
        obtain ⟨A, c, hv, _, cs, _, hc⟩ := hx
        rcases hc with hc | ⟨b, off, C, T0, fr, rfl, _⟩
        · cases hc
        · exact ⟨V_eqlNil hu hv hy, V_neqNil hu hv hy⟩
      · cases hX
  case e0.nils nn =>
    cases nn with
    | false => cases hX
    | true =>
      simp only [eqX] at hX
      split at hX
      · rename_i hu; cases hX
        obtain ⟨A, hv, hA⟩ := hx
        obtain ⟨B, rfl⟩ := hA rfl
        exact ⟨V_eqlNil hu hv hy, V_neqNil hu hv hy⟩
      · cases hX
  case bw.nils =>
    split at hX
    · rename_i hu; cases hX
      obtain ⟨a, A, _, hx, _⟩ := hx
      exact ⟨V_eqlNil hu hx hy, V_neqNil hu hx hy⟩
    · cases hX

theorem look_bin {op : BinOp} (S : SR σ s I h As e) (F : Fits I h w) (hX : opX P s (.binOp op T x y T') K = some r) : LookOk P s ⟨d, .binOp op T x y T', ty, pos, aft, g⟩ K r σ I w e rds := by
  have hx := sev_ok S x
  have hy := sev_ok S y
  simp only [opX] at hX
  unfold binX at hX
  split at hX
  · rename_i k a k' b hq hp
    rw [hq] at hx
    rw [hp] at hy
    have hx : ev e x = .int k a := hx
    have hy : ev e y = .int k' b := hy
    cases op <;> simp only [arith] at hX
    case shl => split at hX <;> first | cases hX | exact LookOk.pure hX rfl (V_shl hx hy ‹_›)
    case shr => split at hX <;> first | cases hX | exact LookOk.pure hX rfl (V_shr hx hy ‹_›)
    all_goals (split at hX <;> try cases hX)
    all_goals (rename_i hk; subst hk)
    case h_1.add.isTrue => exact LookOk.pure hX rfl (V_add hx hy)
    case h_1.sub.isTrue => exact LookOk.pure hX rfl (V_sub hx hy)
    case h_1.mul.isTrue => exact LookOk.pure hX rfl (V_mul hx hy)
    case h_1.quo.isTrue => split at hX <;> first | cases hX | exact LookOk.pure hX rfl (V_quo hx hy ‹_›)
    case h_1.rem.isTrue => split at hX <;> first | cases hX | exact LookOk.pure hX rfl (V_rem hx hy ‹_›)
    case h_1.and.isTrue => exact LookOk.pure hX rfl (V_and hx hy)
    case h_1.or.isTrue => exact LookOk.pure hX rfl (V_or hx hy)
    case h_1.xor.isTrue => exact LookOk.pure hX rfl (V_xor hx hy)
    case h_1.andNot.isTrue => exact LookOk.pure hX rfl (V_andNot hx hy)
    case h_1.eql.isTrue => exact LookOk.pure hX rfl (V_eql hx hy)
    case h_1.neq.isTrue => exact LookOk.pure hX rfl (V_neq hx hy)
    case h_1.lss.isTrue => exact LookOk.pure hX rfl (V_lss hx hy)
    case h_1.leq.isTrue => exact LookOk.pure hX rfl (V_leq hx hy)
    case h_1.gtr.isTrue => exact LookOk.pure hX rfl (V_gtr hx hy)
    case h_1.geq.isTrue => exact LookOk.pure hX rfl (V_geq hx hy)
  · split at hX
    · split at hX
      · rename_i b hb; exact LookOk.pure hX rfl (eqX_ok S F hb).1
      · cases hX
    · split at hX
      · rename_i b hb; exact LookOk.pure hX rfl (eqX_ok S F hb).2
      · cases hX
    · split at hX
      · rename_i a b hq hp
        rw [hq] at hx
        rw [hp] at hy
        split at hX
        · exact LookOk.pure hX rfl (V_addS hx hy (by omega))
        · cases hX
      · cases hX
    · cases hX
end
end Go.Proofs.YtkdakjjockfmdaaGreatDoor.XC

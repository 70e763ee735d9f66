/- A machine that reckons: any operation. -/
import Derived.Test.YtkdakjjockfmdaaGreatDoorXU
namespace Go.Proofs.YtkdakjjockfmdaaGreatDoor.XC
open Go Go.RowKit Go.Proofs.YtkdakjjockfmdaaGreatDoor.SL
set_option linter.unusedVariables false
set_option linter.unusedSimpArgs false
section
variable {P : Program} {n : Nat} {ρ : Type} {σ : List Ad} {L : Tr At} {s : St} {I h : Hp} {As : List Asrt} {e : Env} {w : World} {K : SV → St → Option ρ} {r : ρ}

theorem look_ok (S : SR σ s I h As e) (F : Fits I h w) {o : Oper} (hl : looks P o.op = true) (hX : opX P s o.op K = some r) : LookOk P s o K r σ I w e (rdsOf s o.op) := by
  obtain ⟨d, op, ty, pos, aft, g⟩ := o
  cases op <;> simp only [looks] at hl <;> try cases hl
  case move => exact look_move S hX
  case pick => exact look_pick S hX
  case build => exact look_build S hX
  case load => exact look_load S F hX
  case nilCheck => exact look_nilCheck S hX
  case binOp => exact look_bin S F hX
  case unOp => exact look_un S hX
  case convert =>
    refine look_conv S F ?_ hX
    simpa only [looks] using hl
  case slice => exact look_slice S F hX
  case fieldAddr => exact look_fieldAddr S hX
  case field => exact look_field S hX
  case indexAddr => exact look_indexAddr S F hX
  case index => exact look_index S hX
  case extract => exact look_extract S hX
  case call c =>
    obtain ⟨ce, as, ts⟩ := c
    cases ce <;> try cases hl
    rename_i b
    cases b <;> try cases hl
    case builtin.len.refl => exact look_len S hX
    case builtin.max.refl => exact look_max S hX
    case builtin.min.refl => exact look_min S hX

/-- What an operation does at a world. -/
def OpAt (P : Program) (n : Nat) (s : St) (o : Oper) (K : SV → St → Option ρ) (r : ρ) (σ : List Ad) (I h : Hp) (As : List Asrt) (e : Env) (w : World) : Prop :=
  ∃ v s', K v s' = some r ∧ ∀ ds a, Rel n e ds a → o.wp P a w (fun a' w' => ∃ u σ' As' I' h', Rel n (put e o.dst u) ds a' ∧ VR σ' s'.L I' v u ∧ SR σ' s' I' h' As' e ∧ Stp σ s As σ' s' As' ∧ Goes I h w I' h' w') (PostA n NoQ I h w)
theorem EffOk.at (F : Fits I h w) {o : Oper} (h0 : EffOk P n s o K r σ I h As e) : OpAt P n s o K r σ I h As e w := by
  obtain ⟨v, s', hk, hE⟩ := h0
  exact ⟨v, s', hk, fun ds a hr => hE ds a w hr F⟩
theorem LookOk.at (S : SR σ s I h As e) (F : Fits I h w) {o : Oper} {rds : List Nat} (hd : okDst o.dst n = true) (h0 : LookOk P s o K r σ I w e rds) : OpAt P n s o K r σ I h As e w := by
  obtain ⟨v, u, hk, hv, hrun⟩ := h0
  refine ⟨v, s, hk, fun ds a hr => ?_⟩
  unfold Oper.wp
  rw [hr.eval, hrun w F.imm fun k _ => Same.refl σ s.L k w]
  exact ⟨u, σ, As, I, h, hr.put hd u, hv, S, Stp.refl, Goes.refl F⟩
theorem OpAt.told (S : SR σ s I h As e) (F : Fits I h w) {o : Oper} {v : SV} {u : Value} (hd : okDst o.dst n = true) (hk : K v s = some r) (hv : VR σ s.L I v u) (hrun : (execOp (ev e) o).run P w = .ok (.value u) w) : OpAt P n s o K r σ I h As e w :=
  ⟨v, s, hk, fun ds a hr => by
    unfold Oper.wp
    rw [hr.eval, hrun]
    exact ⟨u, σ, As, I, h, hr.put hd u, hv, S, Stp.refl, Goes.refl F⟩⟩
theorem op_at (S : SR σ s I h As e) (F : Fits I h w) {o : Oper} (hd : okDst o.dst n = true) (hX : opX P s o.op K = some r) : OpAt P n s o K r σ I h As e w := by
  cases hl : looks P o.op with
  | true => exact (look_ok S F hl hX).at S F hd
  | false =>
    obtain ⟨d, op, ty, pos, aft, g⟩ := o
    cases op <;> simp only [looks] at hl <;> try cases hl
    case false.assign.intro => exact (look_assign (rds := []) S hX).at S F hd
    case false.alloc.intro => exact (eff_alloc S hd hX).at F
    case false.box.intro => exact (eff_box S hd hX).at F
    case false.buildSlice.intro => exact (eff_bs S F hd hX).at F
    case false.store.intro => exact (eff_store S F hd hX).at F
    case false.convert =>
      refine (eff_conv S F hd ?_ hX).at F
      simpa only [looks] using hl
    case false.makeSlice.intro => exact (eff_mk S hd hX).at F
    case false.makeFunc.intro fn first cap =>
      simp only [opX] at hX
      cases fn <;> simp only [opX] at hX <;> try cases hX
      rename_i f
      cases hb : first.isEmpty with
      | false => rw [hb] at hX; cases hX
      | true =>
        rw [hb] at hX
        have h1 : first = #[] := by simpa using hb
        subst h1
        refine (LookOk.pure (rds := []) (u := .func (.func f) #[] (cap.map (ev e))) hX ⟨_, rfl, ?_⟩ (V_makeFunc (by simp) rfl)).at S F hd
        rw [Array.toList_map]
        exact sev_all S _
    case false.call c =>
      obtain ⟨ce, as, ts⟩ := c
      cases ce <;> simp only [opX] at hX <;> try cases hX
      rename_i b
      cases b <;> try (simp only [builtX] at hX; cases hX; done)
      case append => exact (eff_app S hd (by simp only [opX]; exact hX)).at F
      case copy => exact (eff_copy S hd (by simp only [opX]; exact hX)).at F
      case clear => exact (eff_clear S F hd (by simp only [opX]; exact hX)).at F
      all_goals first | (simp only [looks] at hl; cases hl; done) | skip
    case false.makeMap.intro T rs =>
      cases rs with
      | none => exact (eff_mkMap S hd hX).at F
      | some q => simp only [opX] at hX; cases hX
    case false.mapUpdate.intro => exact (eff_put S hd hX).at F
    case false.lookup.intro =>
      obtain ⟨v, u, hk, hv, hrun⟩ := look_map (d := d) (ty := ty) (pos := pos) (aft := aft) (g := g) S F hX
      exact OpAt.told S F hd hk hv hrun
    case false.range.intro => exact (eff_range S hd hX).at F
    case false.next.intro x b =>
      cases b with
      | false =>
        obtain ⟨v, u, hk, hv, hrun⟩ := look_next (d := d) (ty := ty) (pos := pos) (aft := aft) (g := g) S F hX
        exact OpAt.told S F hd hk hv hrun
      | true => simp only [opX] at hX; cases hX
    all_goals (simp only [opX] at hX; cases hX; done)
end
end Go.Proofs.YtkdakjjockfmdaaGreatDoor.XC

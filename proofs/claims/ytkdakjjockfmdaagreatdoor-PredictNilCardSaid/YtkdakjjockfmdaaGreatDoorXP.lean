/- A machine that reckons: code, and that the run is right. -/
import Derived.Test.YtkdakjjockfmdaaGreatDoorXO
namespace Go.Proofs.YtkdakjjockfmdaaGreatDoor.XC
open Go Go.RowKit Go.Proofs.YtkdakjjockfmdaaGreatDoor.SL
set_option linter.unusedVariables false
set_option linter.unusedSimpArgs false
def exE : Ex → Exit | .normal => .normal | .ret => .ret | .exit id => .exit id
section
variable {P : Program} {n : Nat} {ρ : Type} {σ : List Ad} {L : Tr At} {s : St} {I h : Hp} {As : List Asrt} {e : Env} {w : World} {r : ρ}
def Fin (K : Ex → St → Option ρ) (r : ρ) (n : Nat) (ds : List Deferred) (σ : List Ad) (s : St) (As : List Asrt) (I h : Hp) (w : World) (x : Exit) (a' : Act) (w' : World) : Prop :=
  ∃ ex s' σ' As' I' h' e', exE ex = x ∧ Rel n e' ds a' ∧ SR σ' s' I' h' As' e' ∧ Stq σ s As σ' s' As' ∧ Goes I h w I' h' w' ∧ K ex s' = some r

/-! ### results -/
theorem res_ok (S : SR σ s I h As e) (F : Fits I h w) {tmps : Array Value} (ht : ∀ t, tmps.getD t undef = e t) {rv : ResultVar} {v : SV} (hr : resX P s rv = some v) : ∃ u, VR σ s.L I v u ∧ (rvOf tmps rv).run P w = .ok u w := by
  unfold resX at hr
  split at hr
  · rename_i t
    exact ⟨e t, S.env t v hr, by simp only [rvOf, Sem.run_pure, ht t]⟩
  · rename_i a T
    split at hr
    · rename_i k o hq
      have hx := S.env a _ hq
      obtain ⟨ad, ha, hea⟩ := hx
      split at hr
      · rename_i T0 cs hk
        obtain ⟨a', vs, ha', hv, _, _, hw⟩ := blk_at S F hk
        rw [ha] at ha'; cases ha'
        obtain ⟨u, hu, hrun⟩ := load_ok (b := ad.b) (o0 := 0) hr hv
        refine ⟨u, hu, ?_⟩
        have hl := hrun w fun j y hy => by rw [Nat.zero_add, cell_of hw]; simpa using hy
        rw [Nat.zero_add] at hl
        simp only [Instr.loadAt, Instr.sureAddr, Sem.run_bind, Sem.run_pure, Result.andThen_ok] at hl
        rw [Addr.add_lit, Nat.zero_add] at hea
        simp only [rvOf, Sem.run_bind, ht a, hea, asAddr, Sem.run_pure, Result.andThen_ok]
        exact hl
      · cases hr
    · cases hr
theorem ress_ok (S : SR σ s I h As e) (F : Fits I h w) {tmps : Array Value} (ht : ∀ t, tmps.getD t undef = e t) : ∀ {rs : List ResultVar} {l : List SV}, rs.mapM (resX P s) = some l → ∃ us : List Value, us.length = rs.length ∧ VRs σ s.L I l us ∧ (rs.mapM (rvOf tmps)).run P w = .ok us w
  | [], l, h => by
    simp at h; subst h
    exact ⟨[], rfl, rfl, by simp [List.mapM_nil]⟩
  | r :: rs, l, h => by
    rw [List.mapM_cons] at h
    simp only [Option.bind_eq_bind, Option.bind_eq_some_iff, Option.pure_def, Option.some.injEq] at h
    obtain ⟨v, h1, l', h2, rfl⟩ := h
    obtain ⟨u, hu, hrun⟩ := res_ok S F ht h1
    obtain ⟨us, hl, hus, hruns⟩ := ress_ok S F ht h2
    refine ⟨u :: us, by rw [List.length_cons, List.length_cons, hl], ⟨u, us, rfl, hu, hus⟩, ?_⟩
    rw [List.mapM_cons]
    simp only [Sem.run_bind, hrun, Result.andThen_ok, hruns, Sem.run_pure]
theorem results_run {fn : Func} {tmps : Array Value} {us : List Value} (hm : (fn.results.toList.mapM (rvOf tmps)).run P w = .ok us w) : (results fn tmps).run P w = .ok (if h : us.toArray.size = 1 then us.toArray[0] else .tuple us.toArray) w := by
  have hm' : (fn.results.mapM (rvOf tmps)).run P w = .ok us.toArray w := by
    have : fn.results = fn.results.toList.toArray := by simp
    rw [this, List.mapM_toArray]
    simp [hm]
  have e1 : results fn tmps = (do let vs ← fn.results.mapM (rvOf tmps); pure (if h : vs.size = 1 then vs[0] else .tuple vs)) := by
    unfold results
    congr 2
  rw [e1]
  simp only [Sem.run_bind, hm', Result.andThen_ok, Sem.run_pure]

theorem argsE_get : ∀ (l : List SV) (i : Nat) (t : Te SV) (j : Nat), (argsE i l t).get j = if i ≤ j ∧ j < i + l.length then l[j - i]? else t.get j
  | [], i, t, j => by
    have : ¬ (i ≤ j ∧ j < i + ([] : List SV).length) := by simp
    rw [if_neg this]; rfl
  | v :: l, i, t, j => by
    rw [argsE, argsE_get l (i + 1) (t.set i v) j, Te.get_set]
    by_cases h1 : i = j
    · subst h1
      rw [if_neg (by omega), if_pos rfl, if_pos (by simp)]
      simp
    · by_cases h2 : i + 1 ≤ j ∧ j < i + 1 + l.length
      · rw [if_pos h2, if_pos (by simp; omega)]
        have : j - i = (j - (i + 1)) + 1 := by omega
        rw [this, List.getElem?_cons_succ]
      · rw [if_neg h2, if_neg h1, if_neg (by simp; omega)]
theorem Stq.vr {σ' : List Ad} {s' : St} {As' : List Asrt} {I' : Hp} (S : SR σ s I h As e) (st : Stq σ s As σ' s' As') (hI : Le I I') {v : SV} {u : Value} (hv : VR σ s.L I v u) : VR σ' s'.L I' v u := by
  obtain ⟨τ, e1⟩ := st.pre
  rw [e1]; exact hv.mono hI (by rw [S.sl]; exact st.lm)

/-- A call, out of what its body does. -/
theorem call_ok {X0 : {ρ : Type} → Code → St → (Ex → St → Option ρ) → Option ρ}
    (hX0 : ∀ {ρ : Type} {c : Code} {s : St} {K : Ex → St → Option ρ} {r : ρ}, X0 c s K = some r → ∀ {σ : List Ad} {I h : Hp} {As : List Asrt} {e : Env} {a : Act} {w : World} {n : Nat} {ds : List Deferred}, SR σ s I h As e → Rel n e ds a → Fits I h w → s.m = n → c.wp P (Fin K r n ds σ s As I h w) a w) :
    CallOk (ρ := ρ) P (callX P (fun c s K => X0 c s K)) := by
  intro f args s K r hX
  unfold callX at hX
  split at hX
  · rename_i fn hf
    split at hX
    · rename_i body hb
      cases hc : Nat.ble args.length fn.ntmps && !(fn.name == "runtime.NumGoroutine") with
      | false => rw [hc] at hX; cases hX
      | true =>
        rw [hc] at hX
        simp only [cond_true] at hX
        simp only [Bool.and_eq_true, Bool.not_eq_true'] at hc
        refine ⟨⟨fn, body, hf, hb, hc.2⟩, fun {σ I h As e w vals} S F hv => ?_⟩
        have hle := Nat.le_of_ble_eq_true hc.1
        have hvl : vals.toArray.size ≤ fn.ntmps := by rw [List.size_toArray, hv.len]; exact hle
        have hrel : Rel fn.ntmps (argE vals.toArray) [] { tmps := vals.toArray ++ Array.replicate (fn.ntmps - vals.toArray.size) undef, defers := [] } := by
          refine ⟨by simp; simp at hvl; omega, fun t => ?_, rfl⟩
          simp only [argE]
          rcases Nat.lt_or_ge t vals.toArray.size with k | k
          · simp only [Array.getD_eq_getD_getElem?]
            rw [Array.getElem?_append_left k]
          · simp only [Array.getD_eq_getD_getElem?]
            rw [Array.getElem?_append_right k, Array.getElem?_eq_none k]
            simp only [Array.getElem?_replicate]
            split <;> rfl
        have S1 : SR σ { s with env := argsE 0 args .e, m := fn.ntmps } I h As (argE vals.toArray) :=
          ⟨S.sl, S.al, S.lim, S.at_, S.sep, (fun t v q => by
            have q' : (argsE 0 args .e).get t = some v := q
            rw [argsE_get] at q'
            split at q'
            · obtain ⟨u, h1, h2⟩ := hv.get q'
              have : argE vals.toArray t = u := by
                simp only [argE, Array.getD_eq_getD_getElem?, List.getElem?_toArray]
                rw [show t - 0 = t from rfl] at h1
                rw [h1]; rfl
              rw [this]; exact h2
            · rw [Te.get_e] at q'; cases q'), S.gl⟩
        have hwp := hX0 hX S1 hrel F rfl
        refine calls_of_wp hf hb (wp_mono hwp fun x a' w' hfin => ?_)
        obtain ⟨ex, s', σ', As', I', h', e', rfl, hr', S', st', g', hK⟩ := hfin
        have main : (match fn.results.toList with
            | [r] => (match resX P s' r with | some v => K v { s' with env := s.env, m := s.m } | none => none)
            | rs => (match rs.mapM (resX P s') with | some l => K (.tup l) { s' with env := s.env, m := s.m } | none => none)) = some r →
            ∃ v, (results fn a'.tmps).run P w' = .ok v w' ∧ ∃ sv s2 u σ2 As2 I2 h2, Ending.returned v = .returned u ∧ K sv s2 = some r ∧ VR σ2 s2.L I2 sv u ∧ SR σ2 s2 I2 h2 As2 e ∧ Stp σ s As σ2 s2 As2 ∧ Goes I h w I2 h2 w' := by
          intro hK
          have S2 : SR σ' { s' with env := s.env, m := s.m } I' h' As' e :=
            ⟨S'.sl, S'.al, S'.lim, S'.at_, S'.sep, fun t v q => st'.vr S1 g'.le (S.env t v q), S'.gl⟩
          have st2 : Stp σ s As σ' { s' with env := s.env, m := s.m } As' := ⟨st'.pre, st'.lm, rfl, st'.g, rfl, st'.n, st'.frm⟩
          split at hK
          · rename_i rv hrs
            split at hK
            · rename_i v hres
              obtain ⟨u, hu, hrun⟩ := res_ok (P := P) S' g'.fits (tmps := a'.tmps) hr'.get hres
              have hm : (fn.results.toList.mapM (rvOf a'.tmps)).run P w' = .ok [u] w' := by
                rw [hrs, List.mapM_cons]
                simp only [Sem.run_bind, hrun, Result.andThen_ok, List.mapM_nil, Sem.run_pure]
              have := results_run hm
              exact ⟨u, by simpa using this, v, _, u, σ', As', I', h', rfl, hK, hu, S2, st2, g'⟩
            · cases hK
          · rename_i hne
            split at hK
            · rename_i l hres
              obtain ⟨us, hl, hu, hrun⟩ := ress_ok (P := P) S' g'.fits (tmps := a'.tmps) hr'.get hres
              have := results_run hrun
              have hn1 : ¬ us.toArray.size = 1 := by
                rw [List.size_toArray, hl]
                intro q
                match hh : fn.results.toList, q with
                | [x], _ => exact hne x hh
              rw [dif_neg hn1] at this
              exact ⟨_, this, _, _, _, σ', As', I', h', rfl, hK, ⟨us.toArray, rfl, by simpa using hu⟩, S2, st2, g'⟩
            · cases hK
        cases ex with
        | normal => exact ⟨hr'.defers, main hK⟩
        | ret => exact ⟨hr'.defers, main hK⟩
        | exit id => cases hK
    · cases hX
  · cases hX
def OvOk (P : Program) (ov : Ov) : Prop :=
  ∀ (f : FuncId) (args : List SV) (s : St) (v : SV) (s' : St), ov f args s = some (v, s') → (∃ fn c, P.funcs[f]? = some fn ∧ fn.body = some c ∧ (fn.name == "runtime.NumGoroutine") = false) ∧
    ∀ {σ : List Ad} {I h : Hp} {As : List Asrt} {e : Env} {w : World} {vals : List Value}, SR σ s I h As e → Fits I h w → VRs σ s.L I args vals →
      Calls P f vals.toArray w fun x w' => ∃ u As' I' h', x = .returned u ∧ VR σ s'.L I' v u ∧ SR σ s' I' h' As' e ∧ Stp σ s As σ s' As' ∧ Goes I h w I' h' w'
theorem noV_ok : OvOk P noV := fun _ _ _ _ _ h => by cases h
theorem callV_ok {ov : Ov} {call : FuncId → List SV → St → (SV → St → Option ρ) → Option ρ} (ho : OvOk P ov) (hc : CallOk P call) : CallOk P (callV ov call) := by
  intro f args s K r hX
  unfold callV at hX
  split at hX
  · rename_i v s' hov
    obtain ⟨h1, h2⟩ := ho _ _ _ _ _ hov
    refine ⟨h1, fun {σ I h As e w vals} S F hv => (h2 S F hv).mono ?_⟩
    rintro x w' ⟨u, As', I', h', hx, hu, S', st, g⟩
    exact ⟨v, s', u, σ, As', I', h', hx, hX, hu, S', st, g⟩
  · exact hc hX
end
end Go.Proofs.YtkdakjjockfmdaaGreatDoor.XC

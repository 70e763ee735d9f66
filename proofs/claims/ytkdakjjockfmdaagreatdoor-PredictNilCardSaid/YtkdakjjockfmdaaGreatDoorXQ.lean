/- A machine that reckons: code. -/
import Derived.Test.YtkdakjjockfmdaaGreatDoorXT
import Derived.LoopN
namespace Go.Proofs.YtkdakjjockfmdaaGreatDoor.XC
open Go Go.RowKit Go.Proofs.YtkdakjjockfmdaaGreatDoor.SL
set_option linter.unusedVariables false
set_option linter.unusedSimpArgs false
section
variable {P : Program}
theorem Fin.from {ρ : Type} {K : Ex → St → Option ρ} {r : ρ} {n : Nat} {ds : List Deferred} {σ σ0 : List Ad} {s s0 : St} {As As0 : List Asrt} {I h I0 h0 : Hp} {w w0 w' : World} {x : Exit} {a' : Act}
    (st : Stq σ0 s0 As0 σ s As) (g : Goes I0 h0 w0 I h w) (q : Fin K r n ds σ s As I h w x a' w') : Fin K r n ds σ0 s0 As0 I0 h0 w0 x a' w' := by
  obtain ⟨ex, s', σ', As', I', h', e', h1, hr', S', st', g', hK⟩ := q
  exact ⟨ex, s', σ', As', I', h', e', h1, hr', S', st.trans st', g.trans g', hK⟩
def XOk (P : Program) (ov : Ov) (k : Nat) : Prop := ∀ {ρ : Type} {c : Code} {s : St} {K : Ex → St → Option ρ} {r : ρ}, X P ov k c s K = some r → ∀ {σ : List Ad} {I h : Hp} {As : List Asrt} {e : Env} {a : Act} {w : World} {n : Nat} {ds : List Deferred}, SR σ s I h As e → Rel n e ds a → Fits I h w → s.m = n → c.wp P (Fin K r n ds σ s As I h w) a w
def LOk (P : Program) (ov : Ov) (k : Nat) : Prop := ∀ {ρ : Type} {c : Code} {s : St} {K : Ex → St → Option ρ} {r : ρ}, X P ov k (.loop c) s K = some r → ∀ {σ : List Ad} {I h : Hp} {As : List Asrt} {e : Env} {a : Act} {w : World} {n : Nat} {ds : List Deferred}, SR σ s I h As e → Rel n e ds a → Fits I h w → s.m = n → ∀ {σ0 : List Ad} {s0 : St} {As0 : List Asrt} {I0 h0 : Hp} {w0 : World}, Stq σ0 s0 As0 σ s As → Goes I0 h0 w0 I h w → Code.rounds P c (Fin K r n ds σ0 s0 As0 I0 h0 w0) k a w
theorem XL_ok {ov : Ov} (hov : OvOk P ov) : ∀ k, XOk P ov k ∧ LOk P ov k
  | 0 => ⟨fun {_ c s K r} hX => (by simp only [X] at hX; cases hX), fun {_ c s K r} hX => (by simp only [X] at hX; cases hX)⟩
  | k + 1 => by
    obtain ⟨ih, il⟩ := XL_ok hov k
    have hL : LOk P ov (k + 1) := by
      intro ρ c s K r hX σ I h As e a w n ds S hr F hm σ0 s0 As0 I0 h0 w0 st g
      simp only [X] at hX
      rw [rounds_succ]
      refine Go.wp_mono (ih hX S hr F hm) fun x a' w' q => ?_
      obtain ⟨ex, s', σ', As', I', h', e', rfl, hr', S', st', g', hK⟩ := q
      cases ex with
      | normal => exact il hK S' hr' g'.fits (st'.m.trans hm) (st.trans st') (g.trans g')
      | ret => exact ⟨.ret, s', σ', As', I', h', e', rfl, hr', S', st.trans st', g.trans g', hK⟩
      | exit id => exact ⟨.exit id, s', σ', As', I', h', e', rfl, hr', S', st.trans st', g.trans g', hK⟩
    refine ⟨fun {ρ c s K r} hX {σ I h As e a w n ds} S hr F hm => ?_, hL⟩
    have hX0 := hX
    cases c with
    | skip =>
      simp only [X] at hX
      exact Go.wp_skip ⟨.normal, s, σ, As, I, h, e, rfl, hr, S, Stq.refl, Goes.refl F, hX⟩
    | ret =>
      simp only [X] at hX
      exact Go.wp_ret ⟨.ret, s, σ, As, I, h, e, rfl, hr, S, Stq.refl, Goes.refl F, hX⟩
    | exit id =>
      simp only [X] at hX
      exact Go.wp_exit ⟨.exit id, s, σ, As, I, h, e, rfl, hr, S, Stq.refl, Goes.refl F, hX⟩
    | seq x y =>
      simp only [X] at hX
      refine Go.wp_seq (Go.wp_mono (ih hX S hr F hm) fun x a' w' q => ?_)
      obtain ⟨ex, s', σ', As', I', h', e', rfl, hr', S', st', g', hK⟩ := q
      cases ex with
      | normal => exact Go.wp_mono (ih hK S' hr' g'.fits (st'.m.trans hm)) fun x a w q => q.from st' g'
      | ret => exact ⟨.ret, s', σ', As', I', h', e', rfl, hr', S', st', g', hK⟩
      | exit id => exact ⟨.exit id, s', σ', As', I', h', e', rfl, hr', S', st', g', hK⟩
    | cond c x y =>
      simp only [X] at hX
      split at hX
      · rename_i q hq
        have hv := sev_ok S c
        rw [hq] at hv
        have hv' : a.eval c = .bool q := by rw [hr.eval]; exact hv
        cases q with
        | false => exact Go.wp_cond_false hv' (ih hX S hr F hm)
        | true => exact Go.wp_cond_true hv' (ih hX S hr F hm)
      · cases hX
    | block id b =>
      simp only [X] at hX
      refine Go.wp_block (Go.wp_mono (ih hX S hr F hm) fun x a' w' q => ?_)
      obtain ⟨ex, s', σ', As', I', h', e', rfl, hr', S', st', g', hK⟩ := q
      cases ex with
      | normal => exact ⟨.normal, s', σ', As', I', h', e', rfl, hr', S', st', g', hK⟩
      | ret => exact ⟨.ret, s', σ', As', I', h', e', rfl, hr', S', st', g', hK⟩
      | exit i =>
        simp only at hK
        show if i = id then _ else _
        cases hq : Nat.beq i id with
        | true =>
          rw [hq] at hK
          rw [if_pos (Nat.eq_of_beq_eq_true hq)]
          exact ⟨.normal, s', σ', As', I', h', e', rfl, hr', S', st', g', hK⟩
        | false =>
          rw [hq] at hK
          rw [if_neg (Nat.ne_of_beq_eq_false hq)]
          exact ⟨.exit i, s', σ', As', I', h', e', rfl, hr', S', st', g', hK⟩
    | loop b => exact wp_loop_rounds (k + 1) (hL hX0 S hr F hm Stq.refl (Goes.refl F))
    | region id ops dr =>
      simp only [X] at hX
      cases dr with
      | true =>
        simp only [cond_true] at hX
        cases hmo : P.follows .mixedOrders with
        | false => rw [hmo] at hX; cases hX
        | true =>
        rw [hmo] at hX
        simp only [cond_true] at hX
        split at hX
        · rename_i p hp
          obtain ⟨h1, h2⟩ := planD_ok hp
          have F2 := (Goes.drew F).fits
          refine Go.wp_mono (Go.wp_region_any hmo (wpAny_of_U _ _ _ _ (draw_ok (w0 := w) (callV_ok hov (call_ok (fun {ρ c s K r} hh {σ I h As e a w n ds} S hr F hm => ih hh S hr F hm))) p ops.size _ [] [] true (fun _ => True) s σ I h As e a _ h1 h2 hX S hr F2 hm Stq.refl (Goes.drew F) ⟨trivial, fun _ k hk => (by cases hk), fun _ _ _ => trivial⟩))) (fun x a' w' q => ?_)
          obtain ⟨rfl, s', σ', As', I', h', e', hr', S', st', g', hK⟩ := q
          exact ⟨.normal, s', σ', As', I', h', e', rfl, hr', S', st', g', hK⟩
        · split at hX
          · rename_i D p hp
            obtain ⟨h4, h5⟩ := planX_ok hp
            have F2 := (Goes.drew F).fits
            obtain ⟨S2, hst, hm2, _⟩ := unD_ok (all := ops) D S
            refine Go.wp_mono (Go.wp_region_any hmo (wpAny_of_U _ _ _ _ (drawG_ok (w0 := w) (callV_ok hov (call_ok (fun {ρ c s K r} hh {σ I h As e a w n ds} S hr F hm => ih hh S hr F hm))) _ ops.size [] p _ [] [] true (fun _ => True) (unD ops D s) σ I h h (fun _ => none) As e a _ h4 trivial (Nat.zero_le _) (by simpa using h5) hX S2 ⟨Le.refl h, (fun _ _ q => by cases q), fun _ _ _ => rfl⟩ hr F2 (hm2.trans hm) (hst Stq.refl) (Goes.drew F) ⟨trivial, fun _ k hk => (by cases hk), fun _ _ _ => trivial⟩))) (fun x a' w' q => ?_)
            obtain ⟨rfl, s', σ', As', I', h', e', hr', S', st', g', hK⟩ := q
            exact ⟨.normal, s', σ', As', I', h', e', rfl, hr', S', st', g', hK⟩
          · cases hX
      | false =>
        simp only [cond_false] at hX
        refine Go.wp_mono (Go.wp_region (reg_ok (callV_ok hov (call_ok (fun {ρ c s K r} hh {σ I h As e a w n ds} S hr F hm => ih hh S hr F hm))) ops.toList (List.range ops.size) s σ I h As e a w ?_ hX S hr F hm Stq.refl (Goes.refl F))) (fun x a' w' q => ?_)
        · apply List.ext_getElem
          · simp
          · intro i h1 h2; simp at h1 h2 ⊢
        · obtain ⟨rfl, s', σ', As', I', h', e', hr', S', st', g', hK⟩ := q
          exact ⟨.normal, s', σ', As', I', h', e', rfl, hr', S', st', g', hK⟩
    | _ => simp only [X] at hX; cases hX
theorem X_ok {ov : Ov} (hov : OvOk P ov) {k : Nat} : XOk P ov k := (XL_ok hov k).1
end
end Go.Proofs.YtkdakjjockfmdaaGreatDoor.XC

/- A machine that reckons: calls whose arguments and results are plain values, run once for all. -/
import Derived.Test.YtkdakjjockfmdaaGreatDoorXV
namespace Go.Proofs.YtkdakjjockfmdaaGreatDoor.XC
open Go Go.RowKit Go.Proofs.YtkdakjjockfmdaaGreatDoor.SL
set_option linter.unusedVariables false
set_option linter.unusedSimpArgs false
/-- Plain values, and structs of such. -/
def sameA : List SV → List SV → Bool
  | [], [] => true | x :: l, y :: m => sameK x y && sameA l m | _, _ => false
def hfA : SV → Bool | .agg l => l.all hf | v => hf v
def memo : List (Nat × List SV × SV) → Ov
  | [], _, _, _ => none
  | (f', a, v) :: m, f, args, s => bif Nat.beq f' f && sameA a args then some (v, s) else memo m f args s
section
variable {P : Program}
theorem sameD_eq {x y : SV} (h : sameD x y = true) : x = y := by
  cases x <;> cases y <;> first | cases h | skip
  · simp only [sameD, Bool.and_eq_true, decide_eq_true_eq] at h
    rw [h.1, h.2]
  · simp only [sameD, beq_iff_eq] at h
    rw [h]
  · simp only [sameD, decide_eq_true_eq] at h
    rw [h]
theorem sameDs_eq : ∀ {l m : List SV}, sameDs l m = true → l = m
  | [], [], _ => rfl
  | x :: l, y :: m, h => by
    simp only [sameDs, Bool.and_eq_true] at h
    rw [sameD_eq h.1, sameDs_eq h.2]
  | [], _ :: _, h => by cases h
  | _ :: _, [], h => by cases h
theorem sameK_eq {x y : SV} (h : sameK x y = true) : x = y := by
  unfold sameK at h
  split at h
  · rw [sameDs_eq h]
  · exact sameD_eq h
theorem sameA_eq : ∀ {l m : List SV}, sameA l m = true → l = m
  | [], [], _ => rfl
  | x :: l, y :: m, h => by
    simp only [sameA, Bool.and_eq_true] at h
    rw [sameK_eq h.1, sameA_eq h.2]
  | [], _ :: _, h => by cases h
  | _ :: _, [], h => by cases h
theorem hfA_free {σ σ' : List Ad} {L L' : Tr At} {I I' : Hp} {v : SV} {u : Value} (h : hfA v = true) (hv : VR σ L I v u) : VR σ' L' I' v u := by
  cases v with
  | agg l =>
    obtain ⟨vs, hu, hvs⟩ := hv
    exact ⟨vs, hu, hfs_free h hvs⟩
  | _ => exact hf_free h hv
theorem hfAs_free {σ σ' : List Ad} {L L' : Tr At} {I I' : Hp} : ∀ {l : List SV} {us : List Value}, l.all hfA = true → VRs σ L I l us → VRs σ' L' I' l us
  | [], _, _, h => h
  | v :: l, _, hh, ⟨u, us, e, h1, h2⟩ => by
    rw [List.all_cons, Bool.and_eq_true] at hh
    exact ⟨u, us, e, hfA_free hh.1 h1, hfAs_free hh.2 h2⟩
def MemoAt (P : Program) (f : Nat) (a : List SV) (v : SV) : Prop := ∃ ov k g c, OvOk P ov ∧ runF P ov k f a .e g g c = some v ∧ hf v = true ∧ a.all hfA = true
theorem memo_ok : ∀ {m : List (Nat × List SV × SV)}, (∀ x ∈ m, MemoAt P x.1 x.2.1 x.2.2) → OvOk P (memo m)
  | [], _ => fun _ _ _ _ _ h => by cases h
  | (f', a, v0) :: m, hm => fun f args s v s' h => by
    unfold memo at h
    cases hc : Nat.beq f' f && sameA a args with
    | false =>
      rw [hc] at h
      exact memo_ok (fun x hx => hm x (List.mem_cons_of_mem _ hx)) f args s v s' h
    | true =>
      rw [hc] at h
      simp only [cond_true] at h
      cases h
      simp only [Bool.and_eq_true] at hc
      have e1 := Nat.eq_of_beq_eq_true hc.1
      have e2 := sameA_eq hc.2
      subst e1 e2
      obtain ⟨ov, k, g, c, ho, hrun, hv0, ha⟩ := hm _ (List.mem_cons_self ..)
      unfold runF at hrun
      obtain ⟨h1, hcall⟩ := (call_ok (P := P) (fun {ρ c s K r} hh {σ I h As e a w n ds} S hr F hm => X_ok ho (k := k) hh S hr F hm)) hrun
      refine ⟨h1, fun {σ I h As e w vals} S F hv => ?_⟩
      have sp0 : Split h (fun _ => none) h := Split.none_l h
      refine (hcall (start_ok g c I (fun _ => none)) (F.less sp0.1) (hfAs_free ha hv)).mono fun x W' ⟨v', s2, u, σ', As', I', h', hx, hK, hv', _, _, g'⟩ => ?_
      cases hK
      obtain ⟨gg, spf⟩ := Goes.frame F sp0 g'
      exact ⟨u, As, I', _, hx, hf_free hv0 hv', (S.imm g'.le (sepL_mono g'.le S.sep)).less spf.2.1, Stp.refl, gg⟩
end
end Go.Proofs.YtkdakjjockfmdaaGreatDoor.XC

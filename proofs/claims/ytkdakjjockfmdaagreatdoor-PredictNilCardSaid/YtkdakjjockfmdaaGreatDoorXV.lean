/- A machine that reckons: a law's call, out of a run. -/
import Derived.Test.YtkdakjjockfmdaaGreatDoorXQ
import Derived.Test.YtkdakjjockfmdaaGreatDoorSlR
namespace Go.Proofs.YtkdakjjockfmdaaGreatDoor.XC
open Go Go.RowKit Go.Proofs.YtkdakjjockfmdaaGreatDoor.SL
set_option linter.unusedVariables false
set_option linter.unusedSimpArgs false
section
variable {P : Program} {W : World}
def adsOf (g : Nat) : List Ad := (List.range g).map fun k => ⟨k, none, 0⟩
theorem sep_emp : ∀ (n : Nat) (I h : Hp), sepL (List.replicate n emp) I h
  | 0, _, _ => trivial
  | n + 1, I, h => ⟨fun _ => none, h, Split.none_l h, trivial, sep_emp n I h⟩
theorem start_ok (g : Nat) (c : Bool) (I h : Hp) : SR (adsOf g) ⟨.e, .e, g, g, 0, [], c⟩ I h (List.replicate g emp) (fun _ => undef) :=
  ⟨by simp [adsOf], by simp, fun k a q => (by rw [show (⟨.e, .e, g, g, 0, [], c⟩ : St).L = .e from rfl, Tr.get_e] at q; cases q), fun k a q => (by rw [show (⟨.e, .e, g, g, 0, [], c⟩ : St).L = .e from rfl, Tr.get_e] at q; cases q), sep_emp g I h,
   fun t v q => (by rw [show (⟨.e, .e, g, g, 0, [], c⟩ : St).env = .e from rfl, Te.get_e] at q; cases q), fun k hk => ⟨⟨k, none, 0⟩, by unfold adsOf; rw [List.getElem?_map, List.getElem?_range (show k < g from hk)]; rfl, rfl⟩⟩
def isB : Option SV → Option Bool | some (.bool b) => some b | _ => none
/-- The law's function, called where all that is handed in is data. -/
theorem run_calls {ov : Ov} (hov : OvOk P ov) {k f g : Nat} {args : List SV} {b c : Bool} {vals : List Value} (h : isB (runF P ov k f args .e g g c) = some b) (hv : VRs (adsOf g) .e (IW W) args vals) :
    Calls P f vals.toArray W fun e W' => e = .returned (.bool b) ∧ Below W.heap.size W W' := by
  have h2 : runF P ov k f args .e g g c = some (.bool b) := by
    generalize runF P ov k f args .e g g c = x at h
    cases x with
    | none => cases h
    | some v => cases v <;> first | cases h | skip
                rfl
  unfold runF at h2
  obtain ⟨_, hc⟩ := (call_ok (P := P) (fun {ρ c s K r} hh {σ I h As e a w n ds} S hr F hm => X_ok hov (k := k) hh S hr F hm)) h2
  refine (hc (start_ok g c (IW W) (fun _ => none)) (IW_fits W) hv).mono fun x W' ⟨v, s', u, σ', As', I', h', hx, hK, hv', _, _, g'⟩ => ?_
  cases hK
  have hu : u = .bool b := hv'
  subst hu
  subst hx
  exact ⟨rfl, g'.os, g'.tape, g'.output, g'.size, fun k hk => (g'.kept k hk rfl).1⟩
end
end Go.Proofs.YtkdakjjockfmdaaGreatDoor.XC

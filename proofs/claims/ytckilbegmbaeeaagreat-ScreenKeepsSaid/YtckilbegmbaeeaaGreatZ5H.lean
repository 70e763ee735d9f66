import Derived.Test.YtckilbegmbaeeaaGreatZ5G
import Derived.Test.YtckilbegmbaeeaaGreatZ5U
namespace Go.Proofs.YtckilbegmbaeeaaGreat.Z5Sc
open Go Go.RowKit Go.Proofs.YtckilbegmbaeeaaGreat.SL Go.Proofs.YtckilbegmbaeeaaGreat.Z5 Go.Proofs.YtckilbegmbaeeaaGreat.Z5May Go.Proofs.YtckilbegmbaeeaaGreat.Z5Ls Go.Proofs.YtckilbegmbaeeaaGreat.Z5Op Go.Proofs.YtckilbegmbaeeaaGreat.Z5Sp
set_option linter.unusedVariables false
set_option linter.unusedSimpArgs false
theorem wide8 {l : List S55} (h : ∀ y_ ∈ l, wf55 y_) : ∀ x ∈ l, byte x := fun x hx => by
 have h2 := (h x hx).2.2.1
 simp only [Lit.wf, IntKind.min, IntKind.max, Bool.and_eq_true, decide_eq_true_eq] at h2
 have := h2.1; have := h2.2
 constructor <;> (simp [IntKind.signed, IntKind.bits] at *; omega)
theorem gr {g : S26} (h : wf26 g) : Gr g ∧ g.f2.length ≤ 2932031007402 := by
 have h1 := h.2.2.1
 exact ⟨⟨by omega, wide8 h.2.2.2⟩, by omega⟩
theorem sg_of {s : S34} (w : wf34 s) : Sg s ∧ Big s := by
 obtain ⟨w0, _, _, _, _, _, _, w7, _, _, _, _, _, _, _, _, w16, w17⟩ := w
 have h7 := w7.1
 have h17 := w17.1
 exact ⟨⟨(gr w0).1, (gr w16).1, by omega, by omega⟩, ⟨(gr w0).2, (gr w16).2, by omega, by omega⟩⟩
theorem u8_of {a : Int} (h : (Lit.int .u8 a).wf = true) : 0 ≤ a ∧ a < 256 := by
 simp only [Lit.wf, IntKind.min, IntKind.max, Bool.and_eq_true, decide_eq_true_eq] at h
 have := h.1; have := h.2
 constructor <;> (simp [IntKind.signed, IntKind.bits] at *; omega)
theorem put_kept (s : S34) (c w : Int) : (dPut s c w).f14 = s.f14 := by
 unfold dPut
 simp only
 have h : (if s.f10 = true then onR s (fSh s w) else s).f14 = s.f14 := by split <;> rfl
 generalize (if s.f10 = true then onR s (fSh s w) else s) = t at h
 have h2 : (onR t (fPut t c w)).f14 = s.f14 := h
 split <;> exact h2
theorem feed_kept (s : S34) : (dFeed s).f14 = s.f14 := by
 unfold dFeed; split
 ·rfl
 ·split <;> rfl
theorem back_kept (s : S34) : (dBack s).f14 = s.f14 := by
 unfold dBack; split
 ·rfl
 ·split <;> rfl
theorem wrap_kept (s : S34) : (wrapS s).f14 = s.f14 := by
 unfold wrapS; split
 ·rw [feed_kept]
 ·rfl
theorem print_kept (s : S34) (c : Int) : (dPrint s c).f14 = s.f14 := by
 unfold dPrint; split
 ·split
  ·unfold dMark
   by_cases ht : (if s.f3 = true then s.f2 else s.f2 - 1) < 0
   ·rw [if_pos ht]
   ·rw [if_neg ht]
  ·rfl
 ·have h : ({ wrapS s with f3 := false } : S34).f14 = s.f14 := wrap_kept s
  generalize ({ wrapS s with f3 := false } : S34) = u at h ⊢
  unfold dPr2
  split
  ·split
   ·exact h
   ·rw [put_kept, feed_kept]; exact h
  ·rw [put_kept]; exact h
theorem control_kept (s : S34) (c : Int) : (dControl s c).f14 = s.f14 := by
 unfold dControl
 split
 ·rfl
 ·split
  ·rfl
  ·split
   ·exact feed_kept s
   ·split
    ·rfl
    ·split
     ·exact back_kept s
     ·rfl
theorem dD_kept {s : S34} (h : Ok s) {d : S44} (h0 : 0 ≤ d.f0) (h1 : d.f0 < 13) (h9 : d.f0 ≠ 9) (h10 : d.f0 ≠ 10) : (dD s d).1.f14 = s.f14 ∧ (dD s d).2 = 0 ∧ Ok (dD s d).1 := by
 have ha := dD_ok h d
 refine ⟨?_, ?_, ?_⟩
 ·have hr : ∀ t, (res s t).1.f14 = t.f14 := fun t => by unfold res; rw [if_pos h.may]
  unfold dD
  by_cases c0 : d.f0 = 0
  ·rw [if_pos c0, hr]; exact print_kept s _
  rw [if_neg c0]
  by_cases c1 : d.f0 = 1
  ·rw [if_pos c1, hr]; exact control_kept s _
  rw [if_neg c1]
  by_cases c2 : d.f0 = 2
  ·rw [if_pos c2, hr]; rfl
  rw [if_neg c2]
  by_cases c3 : d.f0 = 3
  ·rw [if_pos c3, hr]; rfl
  rw [if_neg c3]
  by_cases c4 : d.f0 = 4
  ·rw [if_pos c4, hr]; rfl
  rw [if_neg c4]
  by_cases c5 : d.f0 = 5
  ·rw [if_pos c5, hr]; unfold dLines; split <;> rfl
  rw [if_neg c5]
  by_cases c6 : d.f0 = 6
  ·rw [if_pos c6, hr]; rfl
  rw [if_neg c6]
  by_cases c7 : d.f0 = 7
  ·rw [if_pos c7, hr]; rfl
  rw [if_neg c7]
  by_cases c8 : d.f0 = 8
  ·rw [if_pos c8, hr]; unfold dRegion; split <;> rfl
  rw [if_neg c8, if_neg h9, if_neg h10]
  by_cases c11 : d.f0 = 11
  ·rw [if_pos c11, hr]; rfl
  rw [if_neg c11]
  by_cases c12 : d.f0 = 12
  ·rw [if_pos c12, hr]; rfl
  omega
 ·rcases ha with a | a
  ·exact a.1
  ·omega
 ·rcases ha with a | a
  ·exact a.2
  ·omega
end Go.Proofs.YtckilbegmbaeeaaGreat.Z5Sc

import Derived.Test.YtckilbegmbaeeaaGreatZ4G
import Derived.Test.YtckilbegmbaeeaaGreatZ4U
namespace Go.Proofs.YtckilbegmbaeeaaGreat.Z4Sc
open Go Go.RowKit Go.Proofs.YtckilbegmbaeeaaGreat.SL Go.Proofs.YtckilbegmbaeeaaGreat.Z4 Go.Proofs.YtckilbegmbaeeaaGreat.Z4May Go.Proofs.YtckilbegmbaeeaaGreat.Z4Ls Go.Proofs.YtckilbegmbaeeaaGreat.Z4Op Go.Proofs.YtckilbegmbaeeaaGreat.Z4Sp
set_option linter.unusedVariables false
set_option linter.unusedSimpArgs false
theorem wide8 {l : List S55} (h : ∀ y_ ∈ l, wf55 y_) : ∀ x ∈ l, byte x := fun x hx => by
 have h2 := (h x hx).2.2.1
 simp only [Lit.wf, IntKind.min, IntKind.max, Bool.and_eq_true, decide_eq_true_eq] at h2
 have := h2.1; have := h2.2
 constructor <;> (simp [IntKind.signed, IntKind.bits] at *; omega)
theorem gr {g : S26} (h : wf26 g) : Gr g ∧ g.f2.length ≤ 2932031007402 := by
 have h1 := h.2.2.1
 exact ⟨⟨by omega, wide8 h.2.2.2⟩, by omega⟩
theorem sg_of {s : S34} (w : wf34 s) : Sg s ∧ Big s := by
 obtain ⟨w0, _, _, _, _, _, _, w7, _, _, _, _, _, _, _, _, w16, w17⟩ := w
 have h7 := w7.1
 have h17 := w17.1
 exact ⟨⟨(gr w0).1, (gr w16).1, by omega, by omega⟩, ⟨(gr w0).2, (gr w16).2, by omega, by omega⟩⟩
theorem u8_of {a : Int} (h : (Lit.int .u8 a).wf = true) : 0 ≤ a ∧ a < 256 := by
 simp only [Lit.wf, IntKind.min, IntKind.max, Bool.and_eq_true, decide_eq_true_eq] at h
 have := h.1; have := h.2
 constructor <;> (simp [IntKind.signed, IntKind.bits] at *; omega)
end Go.Proofs.YtckilbegmbaeeaaGreat.Z4Sc

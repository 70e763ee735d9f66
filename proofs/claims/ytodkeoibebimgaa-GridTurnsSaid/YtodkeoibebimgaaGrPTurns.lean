/- GridTurns: whatever a grid is asked comes to what the document says. -/
import Derived.Test.YtodkeoibebimgaaGrDt
import Derived.Test.YtodkeoibebimgaaGrT10
namespace Go.Proofs.Ytodkeoibebimgaa.GrPure
open Go Go.RowKit Go.Proofs.Ytodkeoibebimgaa.SL Go.Proofs.Ytodkeoibebimgaa.Gr Go.Proofs.Ytodkeoibebimgaa.GrMay Go.Proofs.Ytodkeoibebimgaa.GrLs Go.Proofs.Ytodkeoibebimgaa.GrOp Go.Proofs.Ytodkeoibebimgaa.GrSp
set_option linter.unusedVariables false
set_option linter.unusedSimpArgs false

theorem row (g : S67) (a : S90) (o : S67) (w0 : wf67 g) (w1 : wf90 a) (w2 : wf67 o) : ∃ k, F10.f k g a o = some true := by
  obtain ⟨hg, hl⟩ := gr w0
  have w5 := w1.2.2.2.2.2
  refine ⟨10000000000000, ?_⟩
  generalize hk : (10000000000000 : Nat) = k
  unfold F10.f
  rw [f44 _ _ _ k (by omega), f45 _ _ _ k (by omega), f42 g hg _ _ _ _ (wide8 w5.2) (by omega) k (by omega), f46 g hg _ _ _ _ (wide8 w5.2) (by omega) k (by omega), f37 g hg _ _ _ _ k (by omega), f47 g hg _ _ _ _ k (by omega), f43 g hg _ _ _ _ k (by omega), f48 g hg _ _ _ _ k (by omega), f33 g hg _ _ _ _ k (by omega), f39 g hg _ _ _ _ k (by omega), f38 g hg _ _ _ k (by omega), f49 g hg _ _ _ k (by omega), f41w g hg k (by omega), f30w g hg k (by omega), f50 g o (by omega) k (by omega), f40 g o (by omega) k (by omega), anchored k (by omega)]
  simp only [Option.bind_some, lt, eqs (new_len _ _ _) k (by omega), eqs (write_len _ _ _ _ _) k (by omega), eqs (erase_len _ _ _ _ _) k (by omega), eqs (shift_len2 _ _ _ _ _) k (by omega), eqs (scroll_len _ _ _ _ _) k (by omega), eqs (resize_len _ _ _ _) k (by omega)]
  simp
end Go.Proofs.Ytodkeoibebimgaa.GrPure

/- SspNil: what is not there. -/
import Derived.Test.YtodkeoibebimgaaSq
import Derived.Test.YtodkeoibebimgaaSqT13
import Derived.Test.YtodkeoibebimgaaSlP
namespace Go.Proofs.Ytodkeoibebimgaa.SqPure
open Go Go.RowKit Go.Proofs.Ytodkeoibebimgaa.SL Go.Proofs.Ytodkeoibebimgaa.Sq
set_option linter.unusedVariables false
set_option linter.unusedSimpArgs false
theorem anchored (k : Nat) (hk : 1000 ≤ k) : F29.f k = some true := by
  obtain ⟨j, rfl⟩ : ∃ j, k = j + 600 := ⟨k - 600, by omega⟩
  kernel_rfl
theorem row (n : Int) (w0 : (Lit.int .u64 n).wf = true) : ∃ k, F13.f k n = some true := by
  refine ⟨1000, ?_⟩
  generalize hk : (1000 : Nat) = k
  have h0 : IntKind.u64.wrap 0 = 0 := by rw [wu64]; rfl
  have h1 : ByteArray.empty = (⟨#[]⟩ : ByteArray) := rfl
  unfold F13.f
  simp [F25n0.f, F28n0.f, F52n0.f, F53n0.f, F22n0.f, F23n0.f, F56n0.f, F60n0.f, F92n0.f, lt, h0, h1, anchored k (by omega)]
end Go.Proofs.Ytodkeoibebimgaa.SqPure

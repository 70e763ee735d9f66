/- What data that come in are: their bounds, what they weigh, how they lie. -/
import Derived.Test.YtodkeoibebimgaaSq
import Derived.Test.YtodkeoibebimgaaSlU
namespace Go.Proofs.Ytodkeoibebimgaa.Sq
open Go Go.RowKit Go.Proofs.Ytodkeoibebimgaa.SL
set_option linter.unusedVariables false
set_option linter.unusedSimpArgs false

end Go.Proofs.Ytodkeoibebimgaa.Sq

/- All functions. -/
import Derived.Test.YtodkeoibebimgaaKb1
import Derived.Test.YtodkeoibebimgaaKb2
import Derived.Test.YtodkeoibebimgaaKb3
import Derived.Test.YtodkeoibebimgaaKb4
import Derived.Test.YtodkeoibebimgaaKb5
namespace Go.Proofs.Ytodkeoibebimgaa.Kb
open Go Go.RowKit Go.Proofs.Ytodkeoibebimgaa.SL
set_option linter.unusedVariables false
set_option linter.unusedSimpArgs false
attribute [local irreducible] IntKind.wrap minI maxI shrI shlI andI orI xorI andNotI cplI rd sub bytesOf strOf slA
end Go.Proofs.Ytodkeoibebimgaa.Kb

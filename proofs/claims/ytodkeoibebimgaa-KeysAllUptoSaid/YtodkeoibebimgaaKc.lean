/- All functions. -/
import Derived.Test.YtodkeoibebimgaaKc1
import Derived.Test.YtodkeoibebimgaaKc2
import Derived.Test.YtodkeoibebimgaaKc3
import Derived.Test.YtodkeoibebimgaaKc4
import Derived.Test.YtodkeoibebimgaaKc5
import Derived.Test.YtodkeoibebimgaaKc6
import Derived.Test.YtodkeoibebimgaaKc7
import Derived.Test.YtodkeoibebimgaaKc8
import Derived.Test.YtodkeoibebimgaaKc9
namespace Go.Proofs.Ytodkeoibebimgaa.Kc
open Go Go.RowKit Go.Proofs.Ytodkeoibebimgaa.SL
set_option linter.unusedVariables false
set_option linter.unusedSimpArgs false
attribute [local irreducible] IntKind.wrap minI maxI shrI shlI andI orI xorI andNotI cplI rd sub bytesOf strOf slA
end Go.Proofs.Ytodkeoibebimgaa.Kc

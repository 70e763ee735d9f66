/- All functions. -/
import Derived.Test.YtodkeoibebimgaaSq1
import Derived.Test.YtodkeoibebimgaaSq2
import Derived.Test.YtodkeoibebimgaaSq3
import Derived.Test.YtodkeoibebimgaaSq4
import Derived.Test.YtodkeoibebimgaaSq5
import Derived.Test.YtodkeoibebimgaaSq6
import Derived.Test.YtodkeoibebimgaaSq7
namespace Go.Proofs.Ytodkeoibebimgaa.Sq
open Go Go.RowKit Go.Proofs.Ytodkeoibebimgaa.SL
set_option linter.unusedVariables false
set_option linter.unusedSimpArgs false
attribute [local irreducible] IntKind.wrap minI maxI shrI shlI andI orI xorI andNotI cplI rd sub bytesOf strOf slA
end Go.Proofs.Ytodkeoibebimgaa.Sq

/- All functions. -/
import Derived.Test.YtodkeoibebimgaaGr1
import Derived.Test.YtodkeoibebimgaaGr2
import Derived.Test.YtodkeoibebimgaaGr3
import Derived.Test.YtodkeoibebimgaaGr4
import Derived.Test.YtodkeoibebimgaaGr5
import Derived.Test.YtodkeoibebimgaaGr6
import Derived.Test.YtodkeoibebimgaaGr7
import Derived.Test.YtodkeoibebimgaaGr8
import Derived.Test.YtodkeoibebimgaaGr9
import Derived.Test.YtodkeoibebimgaaGr10
namespace Go.Proofs.Ytodkeoibebimgaa.Gr
open Go Go.RowKit Go.Proofs.Ytodkeoibebimgaa.SL
set_option linter.unusedVariables false
set_option linter.unusedSimpArgs false
attribute [local irreducible] IntKind.wrap minI maxI shrI shlI andI orI xorI andNotI cplI rd sub bytesOf strOf slA
end Go.Proofs.Ytodkeoibebimgaa.Gr

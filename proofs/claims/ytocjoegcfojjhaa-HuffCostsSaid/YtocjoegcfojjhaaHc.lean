/- All functions. -/
import Derived.Test.YtocjoegcfojjhaaHc1
import Derived.Test.YtocjoegcfojjhaaHc2
import Derived.Test.YtocjoegcfojjhaaHc3
namespace Go.Proofs.Ytocjoegcfojjhaa.Hc
open Go Go.RowKit Go.Proofs.Ytocjoegcfojjhaa.SL
set_option linter.unusedVariables false
set_option linter.unusedSimpArgs false
attribute [local irreducible] IntKind.wrap minI maxI shrI shlI andI orI xorI andNotI cplI rd sub bytesOf strOf slA
end Go.Proofs.Ytocjoegcfojjhaa.Hc

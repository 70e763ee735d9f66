/- All functions. -/
import Derived.Test.YtocjoegcfojjhaaHe1
import Derived.Test.YtocjoegcfojjhaaHe2
import Derived.Test.YtocjoegcfojjhaaHe3
namespace Go.Proofs.Ytocjoegcfojjhaa.He
open Go Go.RowKit Go.Proofs.Ytocjoegcfojjhaa.SL
set_option linter.unusedVariables false
set_option linter.unusedSimpArgs false
attribute [local irreducible] IntKind.wrap minI maxI shrI shlI andI orI xorI andNotI cplI rd sub bytesOf strOf slA
end Go.Proofs.Ytocjoegcfojjhaa.He

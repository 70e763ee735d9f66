/- All functions. -/
import Derived.Test.YtocjoegcfojjhaaHd1
import Derived.Test.YtocjoegcfojjhaaHd2
import Derived.Test.YtocjoegcfojjhaaHd3
import Derived.Test.YtocjoegcfojjhaaHd4
namespace Go.Proofs.Ytocjoegcfojjhaa.Hd
open Go Go.RowKit Go.Proofs.Ytocjoegcfojjhaa.SL
set_option linter.unusedVariables false
set_option linter.unusedSimpArgs false
attribute [local irreducible] IntKind.wrap minI maxI shrI shlI andI orI xorI andNotI cplI rd sub bytesOf strOf slA
end Go.Proofs.Ytocjoegcfojjhaa.Hd

/- All functions. -/
import Derived.Test.YtckilbegmbaeeaaGreatZ32
import Derived.Test.YtckilbegmbaeeaaGreatZ316
import Derived.Test.YtckilbegmbaeeaaGreatZ330
import Derived.Test.YtckilbegmbaeeaaGreatZ331
namespace Go.Proofs.YtckilbegmbaeeaaGreat.Z3
open Go Go.RowKit Go.Proofs.YtckilbegmbaeeaaGreat.SL
set_option linter.unusedVariables false
set_option maxHeartbeats 20000000
set_option maxRecDepth 100000
set_option linter.unusedSimpArgs false
attribute [local irreducible] IntKind.wrap cC dO eX gp gl lH fU cN gm rd sub bytesOf eG cL
end Go.Proofs.YtckilbegmbaeeaaGreat.Z3

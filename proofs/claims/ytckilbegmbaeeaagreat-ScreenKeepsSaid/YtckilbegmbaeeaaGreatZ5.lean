/- All functions. -/
import Derived.Test.YtckilbegmbaeeaaGreatZ51
import Derived.Test.YtckilbegmbaeeaaGreatZ52
import Derived.Test.YtckilbegmbaeeaaGreatZ53
import Derived.Test.YtckilbegmbaeeaaGreatZ54
import Derived.Test.YtckilbegmbaeeaaGreatZ55
import Derived.Test.YtckilbegmbaeeaaGreatZ56
import Derived.Test.YtckilbegmbaeeaaGreatZ57
import Derived.Test.YtckilbegmbaeeaaGreatZ58
import Derived.Test.YtckilbegmbaeeaaGreatZ59
import Derived.Test.YtckilbegmbaeeaaGreatZ510
import Derived.Test.YtckilbegmbaeeaaGreatZ511
import Derived.Test.YtckilbegmbaeeaaGreatZ512
import Derived.Test.YtckilbegmbaeeaaGreatZ513
import Derived.Test.YtckilbegmbaeeaaGreatZ514
import Derived.Test.YtckilbegmbaeeaaGreatZ515
import Derived.Test.YtckilbegmbaeeaaGreatZ516
import Derived.Test.YtckilbegmbaeeaaGreatZ517
namespace Go.Proofs.YtckilbegmbaeeaaGreat.Z5
open Go Go.RowKit Go.Proofs.YtckilbegmbaeeaaGreat.SL
set_option linter.unusedVariables false
set_option maxHeartbeats 20000000
set_option maxRecDepth 100000
set_option linter.unusedSimpArgs false
attribute [local irreducible] IntKind.wrap minI maxI shrI shlI andI orI xorI andNotI cplI rd sub bytesOf strOf slA
end Go.Proofs.YtckilbegmbaeeaaGreat.Z5

/- All functions. -/
import Derived.Test.YtckilbegmbaeeaaGreatZ41
import Derived.Test.YtckilbegmbaeeaaGreatZ42
import Derived.Test.YtckilbegmbaeeaaGreatZ43
import Derived.Test.YtckilbegmbaeeaaGreatZ44
import Derived.Test.YtckilbegmbaeeaaGreatZ45
import Derived.Test.YtckilbegmbaeeaaGreatZ46
import Derived.Test.YtckilbegmbaeeaaGreatZ47
import Derived.Test.YtckilbegmbaeeaaGreatZ48
import Derived.Test.YtckilbegmbaeeaaGreatZ49
import Derived.Test.YtckilbegmbaeeaaGreatZ410
import Derived.Test.YtckilbegmbaeeaaGreatZ411
import Derived.Test.YtckilbegmbaeeaaGreatZ412
import Derived.Test.YtckilbegmbaeeaaGreatZ413
import Derived.Test.YtckilbegmbaeeaaGreatZ414
import Derived.Test.YtckilbegmbaeeaaGreatZ415
import Derived.Test.YtckilbegmbaeeaaGreatZ416
import Derived.Test.YtckilbegmbaeeaaGreatZ417
import Derived.Test.YtckilbegmbaeeaaGreatZ418
import Derived.Test.YtckilbegmbaeeaaGreatZ419
import Derived.Test.YtckilbegmbaeeaaGreatZ420
import Derived.Test.YtckilbegmbaeeaaGreatZ421
import Derived.Test.YtckilbegmbaeeaaGreatZ422
import Derived.Test.YtckilbegmbaeeaaGreatZ423
import Derived.Test.YtckilbegmbaeeaaGreatZ424
import Derived.Test.YtckilbegmbaeeaaGreatZ425
import Derived.Test.YtckilbegmbaeeaaGreatZ426
import Derived.Test.YtckilbegmbaeeaaGreatZ427
import Derived.Test.YtckilbegmbaeeaaGreatZ428
import Derived.Test.YtckilbegmbaeeaaGreatZ429
import Derived.Test.YtckilbegmbaeeaaGreatZ430
namespace Go.Proofs.YtckilbegmbaeeaaGreat.Z4
open Go Go.RowKit Go.Proofs.YtckilbegmbaeeaaGreat.SL
set_option linter.unusedVariables false
set_option maxHeartbeats 20000000
set_option maxRecDepth 100000
set_option linter.unusedSimpArgs false
attribute [local irreducible] IntKind.wrap minI maxI shrI shlI andI orI xorI andNotI cplI rd sub bytesOf strOf slA
end Go.Proofs.YtckilbegmbaeeaaGreat.Z4

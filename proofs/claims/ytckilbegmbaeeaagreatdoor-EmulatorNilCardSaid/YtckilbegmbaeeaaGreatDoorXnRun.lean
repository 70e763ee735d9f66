/- That the machine runs the law of a terminal that is not there to true, whatever the bytes. -/
import Derived.Test.YtckilbegmbaeeaaGreatDoorXV
import Derived.Test.YtckilbegmbaeeaaGreatDoorProg
import Derived.KernelRfl
namespace Go.Proofs.YtckilbegmbaeeaaGreatDoor.XC
open Go Go.Proofs.YtckilbegmbaeeaaGreatDoor.SL
set_option maxRecDepth 100000
theorem emulatorNil_run (b : List Int) : isB (runF Tryz.prog 4000 7 [.rv (.int .u8) b] .e 3 3) = some true := by kernel_rfl
end Go.Proofs.YtckilbegmbaeeaaGreatDoor.XC

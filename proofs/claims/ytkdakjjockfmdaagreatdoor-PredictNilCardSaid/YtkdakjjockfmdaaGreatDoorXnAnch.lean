/- That the machine runs the anchored tries of a predictor to true. -/
import Derived.Test.YtkdakjjockfmdaaGreatDoorXnMemo
namespace Go.Proofs.YtkdakjjockfmdaaGreatDoor.XC
open Go Go.Proofs.YtkdakjjockfmdaaGreatDoor.SL
set_option maxRecDepth 100000
theorem anchored_run : runF Tryz.prog (memo m2) 4000 9 [] .e 3 3 true = some (.bool true) := by kernel_rfl
end Go.Proofs.YtkdakjjockfmdaaGreatDoor.XC

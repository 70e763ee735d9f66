/- That the machine runs the law of a predictor that is not there to true, whatever is handed in. -/
import Derived.Test.YtkdakjjockfmdaaGreatDoorXnAnch
namespace Go.Proofs.YtkdakjjockfmdaaGreatDoor.XC
open Go Go.Proofs.YtkdakjjockfmdaaGreatDoor.SL
set_option maxRecDepth 100000
def m3 : List (Nat × List SV × SV) := [(9, [], .bool true)]
theorem m3_ok : OvOk Tryz.prog (memo m3) := memo_ok fun x hx => by
  simp only [m3, List.mem_cons, List.not_mem_nil, or_false] at hx
  subst hx
  exact ⟨memo m2, 4000, 3, true, m2_ok, anchored_run, rfl, rfl⟩
theorem predictNil_run (h : tyA.den) (e : tyB.den) : isB (runF Tryz.prog (memo m3) 4000 4 [.agg (tyA.rf h), .agg (tyB.rf e)] .e 3 3 true) = some true := by kernel_rfl
end Go.Proofs.YtkdakjjockfmdaaGreatDoor.XC

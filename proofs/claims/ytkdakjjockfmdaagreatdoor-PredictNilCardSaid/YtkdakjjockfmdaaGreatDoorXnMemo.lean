/- That the machine runs the law of a predictor that is not there to true, whatever is handed in. -/
import Derived.Test.YtkdakjjockfmdaaGreatDoorXY
import Derived.Test.YtkdakjjockfmdaaGreatDoorProg
import Derived.KernelRfl
namespace Go.Proofs.YtkdakjjockfmdaaGreatDoor.XC
open Go Go.Proofs.YtkdakjjockfmdaaGreatDoor.SL
set_option maxRecDepth 100000
def tyA : Ty := .p (.p (.p (.int .i64) (.p (.int .i64) (.p (.sl (.p (.int .i32) (.p (.p (.int .i32) (.p (.int .i32) (.p (.int .i32) (.u)))) (.p (.int .u8) (.p (.p (.int .i64) (.p (.int .i64) (.p (.bool) (.p (.bool) (.p (.bool) (.p (.bool) (.p (.bool) (.p (.bool) (.p (.bool) (.p (.bool) (.u))))))))))) (.u)))))) (.u)))) (.p (.int .i64) (.p (.int .i64) (.p (.bool) (.p (.p (.int .i64) (.p (.int .i64) (.p (.bool) (.p (.bool) (.p (.bool) (.p (.bool) (.p (.bool) (.p (.bool) (.p (.bool) (.p (.bool) (.u))))))))))) (.p (.int .i64) (.p (.int .i64) (.p (.sl (.int .i64)) (.p (.bool) (.p (.bool) (.p (.bool) (.p (.bool) (.p (.bool) (.p (.bool) (.p (.p (.int .i64) (.p (.int .i64) (.p (.bool) (.p (.bool) (.p (.p (.int .i64) (.p (.int .i64) (.p (.bool) (.p (.bool) (.p (.bool) (.p (.bool) (.p (.bool) (.p (.bool) (.p (.bool) (.p (.bool) (.u))))))))))) (.u)))))) (.p (.bool) (.p (.p (.int .i64) (.p (.int .i64) (.p (.sl (.p (.int .i32) (.p (.p (.int .i32) (.p (.int .i32) (.p (.int .i32) (.u)))) (.p (.int .u8) (.p (.p (.int .i64) (.p (.int .i64) (.p (.bool) (.p (.bool) (.p (.bool) (.p (.bool) (.p (.bool) (.p (.bool) (.p (.bool) (.p (.bool) (.u))))))))))) (.u)))))) (.u)))) (.p (.sl (.int .i32)) (.u))))))))))))))))))) (.p (.int .u64) (.u))
def tyB : Ty := .p (.int .u8) (.p (.sl (.int .u8)) (.p (.int .i64) (.p (.int .i64) (.p (.int .u8) (.u)))))
def cel (r : Int) : SV := .agg [.int .i32 r, .int .i32 0, .int .i32 0, .int .i32 0, .int .u8 1, .int .i64 (-1), .int .i64 (-1), .bool false, .bool false, .bool false, .bool false, .bool false, .bool false, .bool false, .bool false]
def m1 : List (Nat × List SV × SV) := [(96, [.int .i32 32], .int .i64 1), (96, [.int .i32 97], .int .i64 1), (96, [.int .i32 98], .int .i64 1), (123, [.int .i32 32], .int .i64 1), (123, [.int .i32 97], .int .i64 1), (123, [.int .i32 98], .int .i64 1)]
def sty : SV := .agg [.int .i64 (-1), .int .i64 (-1), .bool false, .bool false, .bool false, .bool false, .bool false, .bool false, .bool false, .bool false]
def m2 : List (Nat × List SV × SV) := (46, [sty], .bool true) :: (62, [sty], .bool true) :: (73, [cel 32], .bool true) :: (89, [cel 32], .bool true) :: (73, [cel 97], .bool true) :: (73, [cel 98], .bool true) :: (89, [cel 97], .bool true) :: (89, [cel 98], .bool true) :: m1
theorem a96_32 : runF Tryz.prog noV 4000 96 [.int .i32 32] .e 3 3 true = some (.int .i64 1) := by kernel_rfl
theorem a96_97 : runF Tryz.prog noV 4000 96 [.int .i32 97] .e 3 3 true = some (.int .i64 1) := by kernel_rfl
theorem a96_98 : runF Tryz.prog noV 4000 96 [.int .i32 98] .e 3 3 true = some (.int .i64 1) := by kernel_rfl
theorem a123_32 : runF Tryz.prog noV 4000 123 [.int .i32 32] .e 3 3 true = some (.int .i64 1) := by kernel_rfl
theorem a123_97 : runF Tryz.prog noV 4000 123 [.int .i32 97] .e 3 3 true = some (.int .i64 1) := by kernel_rfl
theorem a123_98 : runF Tryz.prog noV 4000 123 [.int .i32 98] .e 3 3 true = some (.int .i64 1) := by kernel_rfl
theorem m1_ok : OvOk Tryz.prog (memo m1) := memo_ok fun x hx => by
  simp only [m1, List.mem_cons, List.not_mem_nil, or_false] at hx
  rcases hx with rfl | rfl | rfl | rfl | rfl | rfl
  · exact ⟨noV, 4000, 3, true, noV_ok, a96_32, rfl, rfl⟩
  · exact ⟨noV, 4000, 3, true, noV_ok, a96_97, rfl, rfl⟩
  · exact ⟨noV, 4000, 3, true, noV_ok, a96_98, rfl, rfl⟩
  · exact ⟨noV, 4000, 3, true, noV_ok, a123_32, rfl, rfl⟩
  · exact ⟨noV, 4000, 3, true, noV_ok, a123_97, rfl, rfl⟩
  · exact ⟨noV, 4000, 3, true, noV_ok, a123_98, rfl, rfl⟩
theorem b73_32 : runF Tryz.prog (memo m1) 4000 73 [cel 32] .e 3 3 true = some (.bool true) := by kernel_rfl
theorem b73_97 : runF Tryz.prog (memo m1) 4000 73 [cel 97] .e 3 3 true = some (.bool true) := by kernel_rfl
theorem b73_98 : runF Tryz.prog (memo m1) 4000 73 [cel 98] .e 3 3 true = some (.bool true) := by kernel_rfl
theorem b89_32 : runF Tryz.prog (memo m1) 4000 89 [cel 32] .e 3 3 true = some (.bool true) := by kernel_rfl
theorem b89_97 : runF Tryz.prog (memo m1) 4000 89 [cel 97] .e 3 3 true = some (.bool true) := by kernel_rfl
theorem b89_98 : runF Tryz.prog (memo m1) 4000 89 [cel 98] .e 3 3 true = some (.bool true) := by kernel_rfl
theorem b46 : runF Tryz.prog (memo m1) 4000 46 [sty] .e 3 3 true = some (.bool true) := by kernel_rfl
theorem b62 : runF Tryz.prog (memo m1) 4000 62 [sty] .e 3 3 true = some (.bool true) := by kernel_rfl
theorem m2_ok : OvOk Tryz.prog (memo m2) := memo_ok fun x hx => by
  simp only [m2, m1, List.mem_cons, List.not_mem_nil, or_false] at hx
  rcases hx with rfl | rfl | rfl | rfl | rfl | rfl | rfl | rfl | rfl | rfl | rfl | rfl | rfl | rfl
  · exact ⟨memo m1, 4000, 3, true, m1_ok, b46, rfl, rfl⟩
  · exact ⟨memo m1, 4000, 3, true, m1_ok, b62, rfl, rfl⟩
  · exact ⟨memo m1, 4000, 3, true, m1_ok, b73_32, rfl, rfl⟩
  · exact ⟨memo m1, 4000, 3, true, m1_ok, b89_32, rfl, rfl⟩
  · exact ⟨memo m1, 4000, 3, true, m1_ok, b73_97, rfl, rfl⟩
  · exact ⟨memo m1, 4000, 3, true, m1_ok, b73_98, rfl, rfl⟩
  · exact ⟨memo m1, 4000, 3, true, m1_ok, b89_97, rfl, rfl⟩
  · exact ⟨memo m1, 4000, 3, true, m1_ok, b89_98, rfl, rfl⟩
  · exact ⟨noV, 4000, 3, true, noV_ok, a96_32, rfl, rfl⟩
  · exact ⟨noV, 4000, 3, true, noV_ok, a96_97, rfl, rfl⟩
  · exact ⟨noV, 4000, 3, true, noV_ok, a96_98, rfl, rfl⟩
  · exact ⟨noV, 4000, 3, true, noV_ok, a123_32, rfl, rfl⟩
  · exact ⟨noV, 4000, 3, true, noV_ok, a123_97, rfl, rfl⟩
  · exact ⟨noV, 4000, 3, true, noV_ok, a123_98, rfl, rfl⟩
end Go.Proofs.YtkdakjjockfmdaaGreatDoor.XC

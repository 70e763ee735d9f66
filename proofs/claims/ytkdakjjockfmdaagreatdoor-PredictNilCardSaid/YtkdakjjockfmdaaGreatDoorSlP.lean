/- Numbers: what the pure proofs use. -/
import Derived.Test.YtkdakjjockfmdaaGreatDoorSl6
import Derived.Laws.BitsLemmas
namespace Go.Proofs.YtkdakjjockfmdaaGreatDoor.SL
open Go Go.RowKit
set_option linter.unusedVariables false
set_option linter.unusedSimpArgs false

theorem w64 {x : Int} (h0 : -9223372036854775808 ≤ x) (h1 : x < 9223372036854775808) : IntKind.i64.wrap x = x := by
  rw [IntKind.wrap_i64]; omega
theorem wu8 (x : Int) : IntKind.u8.wrap x = x % 256 := by
  simp [IntKind.wrap, IntKind.bits, IntKind.signed]
theorem wu16 (x : Int) : IntKind.u16.wrap x = x % 65536 := by
  simp [IntKind.wrap, IntKind.bits, IntKind.signed]
theorem wu32 (x : Int) : IntKind.u32.wrap x = x % 4294967296 := by
  simp [IntKind.wrap, IntKind.bits, IntKind.signed]
theorem wu64 (x : Int) : IntKind.u64.wrap x = x % 18446744073709551616 := by
  simp [IntKind.wrap, IntKind.bits, IntKind.signed]
theorem minI_eq (x y : Int) : minI x y = min x y := by unfold minI; omega
theorem maxI_eq (x y : Int) : maxI x y = max x y := by unfold maxI; omega
theorem shrI_eq (k : IntKind) (x : Int) (n : Nat) (h : n ≤ k.bits) : shrI k x n = x / (2 ^ n : Int) := by
  unfold shrI
  have : min (Int.toNat (n : Int)) k.bits = n := by rw [Int.toNat_natCast]; omega
  rw [this]
  exact Int.fdiv_eq_ediv_of_nonneg _ (by exact Int.le_of_lt (Int.pow_pos (by decide)))
theorem cpl64 {x : Int} (h0 : -9223372036854775808 ≤ x) (h1 : x < 9223372036854775808) : cplI .i64 x = -1 - x := by
  show IntKind.i64.wrap ((BitVec.ofInt 64 (-1) ^^^ BitVec.ofInt 64 x : BitVec 64).toNat : Int) = _
  have e : BitVec.ofInt 64 (-1) = BitVec.allOnes 64 := by decide
  rw [e, BitVec.allOnes_xor, BitVec.toNat_not, BitVec.toNat_ofInt, IntKind.wrap_i64]
  omega
theorem cpl8 {x : Int} (h0 : 0 ≤ x) (h1 : x < 256) : cplI .u8 x = 255 - x := by
  show IntKind.u8.wrap ((BitVec.ofInt 8 255 ^^^ BitVec.ofInt 8 x : BitVec 8).toNat : Int) = _
  have e : BitVec.ofInt 8 255 = BitVec.allOnes 8 := by decide
  rw [e, BitVec.allOnes_xor, BitVec.toNat_not, BitVec.toNat_ofInt, wu8]
  omega
theorem rd_lt {α : Type} [Inhabited α] {xs : List α} {i : Nat} (h : i < xs.length) : rd xs (i : Int) = xs[i] := by
  simp [rd, List.getD, h]
theorem sub_take {α : Type} (xs : List α) (n : Nat) : sub xs 0 (n : Int) = xs.take n := by simp [sub]
theorem sub_drop {α : Type} (xs : List α) (n : Nat) : sub xs (n : Int) (xs.length : Int) = xs.drop n := by
  simp [sub, List.take_of_length_le]
end Go.Proofs.YtkdakjjockfmdaaGreatDoor.SL

/- What the texts of the functions use: types, kinds, facts of the program. -/
import Derived.Test.YtodkeoibebimgaaProg
import Derived.Test.YtodkeoibebimgaaSlB
namespace Go.Proofs.Ytodkeoibebimgaa.Kc
open Go Go.RowKit Go.Proofs.Ytodkeoibebimgaa.SL
set_option linter.unusedVariables false
set_option linter.unusedSimpArgs false
attribute [local irreducible] IntKind.wrap minI maxI shrI shlI andI orI xorI andNotI cplI rd sub bytesOf strOf slA
structure S25 where
  f0 : Int
  f1 : (List Int)
  f2 : Int
  f3 : Int
  f4 : Int
  deriving Inhabited, DecidableEq
structure S74 where
  f0 : Int
  f1 : Int
  f2 : Int
  deriving Inhabited, DecidableEq
structure S70 where
  f0 : Int
  f1 : Int
  f2 : Bool
  f3 : Bool
  f4 : Bool
  f5 : Bool
  f6 : Bool
  f7 : Bool
  f8 : Bool
  f9 : Bool
  deriving Inhabited, DecidableEq
structure S76 where
  f0 : Int
  f1 : S74
  f2 : Int
  f3 : S70
  deriving Inhabited, DecidableEq
structure S67 where
  f0 : Int
  f1 : Int
  f2 : (List S76)
  deriving Inhabited, DecidableEq
structure S80 where
  f0 : Int
  f1 : Int
  f2 : Bool
  f3 : Bool
  f4 : S70
  deriving Inhabited, DecidableEq
structure S83 where
  f0 : S67
  f1 : Int
  f2 : Int
  f3 : Bool
  f4 : S70
  f5 : Int
  f6 : Int
  f7 : (List Int)
  f8 : Bool
  f9 : Bool
  f10 : Bool
  f11 : Bool
  f12 : Bool
  f13 : Bool
  f14 : S80
  f15 : Bool
  f16 : S67
  f17 : (List Int)
  deriving Inhabited, DecidableEq
structure S190 where
  f0 : Int
  f1 : Int
  deriving Inhabited, DecidableEq
structure S198 where
  f0 : Int
  f1 : Int
  deriving Inhabited, DecidableEq
def D25 (x : S25) (cs_ : List Value) (Bs_ : List Asrt) : Prop := ∃ (A1 : Option Addr) (c2 : Nat), cs_ = [.int .u8 x.f0, .slice A1 x.f1.length c2, .int .i64 x.f2, .int .i64 x.f3, .int .u8 x.f4] ∧ Bs_ = [Ro (Kd.int .u8) A1 c2 x.f1]
def k25 : Kd S25 := Kd.ofD 5 D25 (fun ⟨_, _, e, _⟩ => by rw [e]; rfl) (fun ⟨_, _, e, _⟩ v h => by rw [e] at h; simp only [List.mem_cons, List.not_mem_nil, or_false] at h; rcases h with rfl | rfl | rfl | rfl | rfl <;> rfl)
def enc74 (x : S74) : List Value := [.int .i32 x.f0, .int .i32 x.f1, .int .i32 x.f2]
def k74 : Kd S74 := Kd.fl 3 enc74 (fun _ => rfl) (fun x v h => by simp only [enc74, List.mem_cons, List.not_mem_nil, or_false] at h; rcases h with rfl | rfl | rfl <;> rfl)
def enc70 (x : S70) : List Value := [.int .i64 x.f0, .int .i64 x.f1, .bool x.f2, .bool x.f3, .bool x.f4, .bool x.f5, .bool x.f6, .bool x.f7, .bool x.f8, .bool x.f9]
def k70 : Kd S70 := Kd.fl 10 enc70 (fun _ => rfl) (fun x v h => by simp only [enc70, List.mem_cons, List.not_mem_nil, or_false] at h; rcases h with rfl | rfl | rfl | rfl | rfl | rfl | rfl | rfl | rfl | rfl <;> rfl)
def enc76 (x : S76) : List Value := (.int .i32 x.f0 :: .int .i32 x.f1.f0 :: .int .i32 x.f1.f1 :: .int .i32 x.f1.f2 :: .int .u8 x.f2 :: .int .i64 x.f3.f0 :: .int .i64 x.f3.f1 :: .bool x.f3.f2 :: .bool x.f3.f3 :: .bool x.f3.f4 :: .bool x.f3.f5 :: .bool x.f3.f6 :: .bool x.f3.f7 :: .bool x.f3.f8 :: .bool x.f3.f9 :: [])
def k76 : Kd S76 := Kd.fl 15 enc76 (fun _ => rfl) (fun x v h => by simp only [enc76, List.mem_cons, List.not_mem_nil, or_false] at h; rcases h with rfl | rfl | rfl | rfl | rfl | rfl | rfl | rfl | rfl | rfl | rfl | rfl | rfl | rfl | rfl <;> rfl)
def D67 (x : S67) (cs_ : List Value) (Bs_ : List Asrt) : Prop := ∃ (A1 : Option Addr) (c2 : Nat), cs_ = [.int .i64 x.f0, .int .i64 x.f1, .slice A1 x.f2.length c2] ∧ Bs_ = [Ro k76 A1 c2 x.f2]
def k67 : Kd S67 := Kd.ofD 3 D67 (fun ⟨_, _, e, _⟩ => by rw [e]; rfl) (fun ⟨_, _, e, _⟩ v h => by rw [e] at h; simp only [List.mem_cons, List.not_mem_nil, or_false] at h; rcases h with rfl | rfl | rfl <;> rfl)
def enc80 (x : S80) : List Value := (.int .i64 x.f0 :: .int .i64 x.f1 :: .bool x.f2 :: .bool x.f3 :: .int .i64 x.f4.f0 :: .int .i64 x.f4.f1 :: .bool x.f4.f2 :: .bool x.f4.f3 :: .bool x.f4.f4 :: .bool x.f4.f5 :: .bool x.f4.f6 :: .bool x.f4.f7 :: .bool x.f4.f8 :: .bool x.f4.f9 :: [])
def k80 : Kd S80 := Kd.fl 14 enc80 (fun _ => rfl) (fun x v h => by simp only [enc80, List.mem_cons, List.not_mem_nil, or_false] at h; rcases h with rfl | rfl | rfl | rfl | rfl | rfl | rfl | rfl | rfl | rfl | rfl | rfl | rfl | rfl <;> rfl)
def D83 (x : S83) (cs_ : List Value) (Bs_ : List Asrt) : Prop := ∃ (A1 : Option Addr) (c2 : Nat), ∃ (A4 : Option Addr) (c5 : Nat), ∃ (A7 : Option Addr) (c8 : Nat), ∃ (A10 : Option Addr) (c11 : Nat), cs_ = (.int .i64 x.f0.f0 :: .int .i64 x.f0.f1 :: .slice A1 x.f0.f2.length c2 :: .int .i64 x.f1 :: .int .i64 x.f2 :: .bool x.f3 :: .int .i64 x.f4.f0 :: .int .i64 x.f4.f1 :: .bool x.f4.f2 :: .bool x.f4.f3 :: .bool x.f4.f4 :: .bool x.f4.f5 :: .bool x.f4.f6 :: .bool x.f4.f7 :: .bool x.f4.f8 :: .bool x.f4.f9 :: .int .i64 x.f5 :: .int .i64 x.f6 :: .slice A4 x.f7.length c5 :: .bool x.f8 :: .bool x.f9 :: .bool x.f10 :: .bool x.f11 :: .bool x.f12 :: .bool x.f13 :: .int .i64 x.f14.f0 :: .int .i64 x.f14.f1 :: .bool x.f14.f2 :: .bool x.f14.f3 :: .int .i64 x.f14.f4.f0 :: .int .i64 x.f14.f4.f1 :: .bool x.f14.f4.f2 :: .bool x.f14.f4.f3 :: .bool x.f14.f4.f4 :: .bool x.f14.f4.f5 :: .bool x.f14.f4.f6 :: .bool x.f14.f4.f7 :: .bool x.f14.f4.f8 :: .bool x.f14.f4.f9 :: .bool x.f15 :: .int .i64 x.f16.f0 :: .int .i64 x.f16.f1 :: .slice A7 x.f16.f2.length c8 :: .slice A10 x.f17.length c11 :: []) ∧ Bs_ = [Ro k76 A1 c2 x.f0.f2, Ro (Kd.int .i64) A4 c5 x.f7, Ro k76 A7 c8 x.f16.f2, Ro (Kd.int .i32) A10 c11 x.f17]
def k83 : Kd S83 := Kd.ofD 44 D83 (fun ⟨_, _, _, _, _, _, _, _, e, _⟩ => by rw [e]; rfl) (fun ⟨_, _, _, _, _, _, _, _, e, _⟩ v h => by rw [e] at h; simp only [List.mem_cons, List.not_mem_nil, or_false] at h; rcases h with rfl | rfl | rfl | rfl | rfl | rfl | rfl | rfl | rfl | rfl | rfl | rfl | rfl | rfl | rfl | rfl | rfl | rfl | rfl | rfl | rfl | rfl | rfl | rfl | rfl | rfl | rfl | rfl | rfl | rfl | rfl | rfl | rfl | rfl | rfl | rfl | rfl | rfl | rfl | rfl | rfl | rfl | rfl | rfl <;> rfl)
def enc190 (x : S190) : List Value := [.int .i32 x.f0, .int .i32 x.f1]
def k190 : Kd S190 := Kd.fl 2 enc190 (fun _ => rfl) (fun x v h => by simp only [enc190, List.mem_cons, List.not_mem_nil, or_false] at h; rcases h with rfl | rfl <;> rfl)
def enc198 (x : S198) : List Value := [.int .i32 x.f0, .int .i32 x.f1]
def k198 : Kd S198 := Kd.fl 2 enc198 (fun _ => rfl) (fun x v h => by simp only [enc198, List.mem_cons, List.not_mem_nil, or_false] at h; rcases h with rfl | rfl <;> rfl)
theorem sz3 : (Try.prog.info? 3).map (·.size) = some 1 := by kernel_rfl
theorem nz3 : ((Try.prog.info? 3).map fun i => decide (i.size = 0)) = some false := by kernel_rfl
theorem sz4 : (Try.prog.info? 4).map (·.size) = some 1 := by kernel_rfl
theorem nz4 : ((Try.prog.info? 4).map fun i => decide (i.size = 0)) = some false := by kernel_rfl
theorem sz5 : (Try.prog.info? 5).map (·.size) = some 1 := by kernel_rfl
theorem nz5 : ((Try.prog.info? 5).map fun i => decide (i.size = 0)) = some false := by kernel_rfl
theorem sz21 : (Try.prog.info? 21).map (·.size) = some 1 := by kernel_rfl
theorem nz21 : ((Try.prog.info? 21).map fun i => decide (i.size = 0)) = some false := by kernel_rfl
theorem sz22 : (Try.prog.info? 22).map (·.size) = some 1 := by kernel_rfl
theorem nz22 : ((Try.prog.info? 22).map fun i => decide (i.size = 0)) = some false := by kernel_rfl
theorem sz23 : (Try.prog.info? 23).map (·.size) = some 1 := by kernel_rfl
theorem nz23 : ((Try.prog.info? 23).map fun i => decide (i.size = 0)) = some false := by kernel_rfl
theorem sz25 : (Try.prog.info? 25).map (·.size) = some 5 := by kernel_rfl
theorem nz25 : ((Try.prog.info? 25).map fun i => decide (i.size = 0)) = some false := by kernel_rfl
theorem sz65 : (Try.prog.info? 65).map (·.size) = some 1 := by kernel_rfl
theorem nz65 : ((Try.prog.info? 65).map fun i => decide (i.size = 0)) = some false := by kernel_rfl
theorem sz67 : (Try.prog.info? 67).map (·.size) = some 3 := by kernel_rfl
theorem nz67 : ((Try.prog.info? 67).map fun i => decide (i.size = 0)) = some false := by kernel_rfl
theorem sz70 : (Try.prog.info? 70).map (·.size) = some 10 := by kernel_rfl
theorem nz70 : ((Try.prog.info? 70).map fun i => decide (i.size = 0)) = some false := by kernel_rfl
theorem sz74 : (Try.prog.info? 74).map (·.size) = some 3 := by kernel_rfl
theorem nz74 : ((Try.prog.info? 74).map fun i => decide (i.size = 0)) = some false := by kernel_rfl
theorem sz76 : (Try.prog.info? 76).map (·.size) = some 15 := by kernel_rfl
theorem nz76 : ((Try.prog.info? 76).map fun i => decide (i.size = 0)) = some false := by kernel_rfl
theorem sz78 : (Try.prog.info? 78).map (·.size) = some 1 := by kernel_rfl
theorem nz78 : ((Try.prog.info? 78).map fun i => decide (i.size = 0)) = some false := by kernel_rfl
theorem sz80 : (Try.prog.info? 80).map (·.size) = some 14 := by kernel_rfl
theorem nz80 : ((Try.prog.info? 80).map fun i => decide (i.size = 0)) = some false := by kernel_rfl
theorem sz81 : (Try.prog.info? 81).map (·.size) = some 1 := by kernel_rfl
theorem nz81 : ((Try.prog.info? 81).map fun i => decide (i.size = 0)) = some false := by kernel_rfl
theorem sz83 : (Try.prog.info? 83).map (·.size) = some 44 := by kernel_rfl
theorem nz83 : ((Try.prog.info? 83).map fun i => decide (i.size = 0)) = some false := by kernel_rfl
theorem sz177 : (Try.prog.info? 177).map (·.size) = some 28 := by kernel_rfl
theorem nz177 : ((Try.prog.info? 177).map fun i => decide (i.size = 0)) = some false := by kernel_rfl
theorem sz190 : (Try.prog.info? 190).map (·.size) = some 2 := by kernel_rfl
theorem nz190 : ((Try.prog.info? 190).map fun i => decide (i.size = 0)) = some false := by kernel_rfl
theorem sz191 : (Try.prog.info? 191).map (·.size) = some 74 := by kernel_rfl
theorem nz191 : ((Try.prog.info? 191).map fun i => decide (i.size = 0)) = some false := by kernel_rfl
theorem sz193 : (Try.prog.info? 193).map (·.size) = some 52 := by kernel_rfl
theorem nz193 : ((Try.prog.info? 193).map fun i => decide (i.size = 0)) = some false := by kernel_rfl
theorem sz198 : (Try.prog.info? 198).map (·.size) = some 2 := by kernel_rfl
theorem nz198 : ((Try.prog.info? 198).map fun i => decide (i.size = 0)) = some false := by kernel_rfl
theorem zero5 : (Try.prog.info? 5).bind (·.zero) = some (.int .u8 0) := by kernel_rfl
theorem inf5 : (Try.prog.info? 5).map (fun i => (i.zero, i.size, i.bytes)) = some (some (.int .u8 0), 1, 1) := by kernel_rfl
theorem zero25 : (Try.prog.info? 25).bind (·.zero) = some (.agg #[.int .u8 0, .slice none 0 0, .int .i64 0, .int .i64 0, .int .u8 0]) := by kernel_rfl
theorem inf25 : (Try.prog.info? 25).map (fun i => (i.zero, i.size, i.bytes)) = some (some (.agg #[.int .u8 0, .slice none 0 0, .int .i64 0, .int .i64 0, .int .u8 0]), 5, 56) := by kernel_rfl
theorem zero67 : (Try.prog.info? 67).bind (·.zero) = some (.agg #[.int .i64 0, .int .i64 0, .slice none 0 0]) := by kernel_rfl
theorem inf67 : (Try.prog.info? 67).map (fun i => (i.zero, i.size, i.bytes)) = some (some (.agg #[.int .i64 0, .int .i64 0, .slice none 0 0]), 3, 40) := by kernel_rfl
theorem zero74 : (Try.prog.info? 74).bind (·.zero) = some (.agg #[.int .i32 0, .int .i32 0, .int .i32 0]) := by kernel_rfl
theorem inf74 : (Try.prog.info? 74).map (fun i => (i.zero, i.size, i.bytes)) = some (some (.agg #[.int .i32 0, .int .i32 0, .int .i32 0]), 3, 12) := by kernel_rfl
theorem zero76 : (Try.prog.info? 76).bind (·.zero) = some (.agg (List.toArray (.int .i32 0 :: .int .i32 0 :: .int .i32 0 :: .int .i32 0 :: .int .u8 0 :: .int .i64 0 :: .int .i64 0 :: .bool false :: .bool false :: .bool false :: .bool false :: .bool false :: .bool false :: .bool false :: .bool false :: []))) := by kernel_rfl
theorem inf76 : (Try.prog.info? 76).map (fun i => (i.zero, i.size, i.bytes)) = some (some (.agg (List.toArray (.int .i32 0 :: .int .i32 0 :: .int .i32 0 :: .int .i32 0 :: .int .u8 0 :: .int .i64 0 :: .int .i64 0 :: .bool false :: .bool false :: .bool false :: .bool false :: .bool false :: .bool false :: .bool false :: .bool false :: []))), 15, 48) := by kernel_rfl
theorem zero80 : (Try.prog.info? 80).bind (·.zero) = some (.agg (List.toArray (.int .i64 0 :: .int .i64 0 :: .bool false :: .bool false :: .int .i64 0 :: .int .i64 0 :: .bool false :: .bool false :: .bool false :: .bool false :: .bool false :: .bool false :: .bool false :: .bool false :: []))) := by kernel_rfl
theorem inf80 : (Try.prog.info? 80).map (fun i => (i.zero, i.size, i.bytes)) = some (some (.agg (List.toArray (.int .i64 0 :: .int .i64 0 :: .bool false :: .bool false :: .int .i64 0 :: .int .i64 0 :: .bool false :: .bool false :: .bool false :: .bool false :: .bool false :: .bool false :: .bool false :: .bool false :: []))), 14, 48) := by kernel_rfl
theorem zero177 : (Try.prog.info? 177).bind (·.zero) = some (.agg (List.toArray (.int .i64 0 :: .int .i64 0 :: .bool false :: .bool false :: .int .i64 0 :: .int .i64 0 :: .bool false :: .bool false :: .bool false :: .bool false :: .bool false :: .bool false :: .bool false :: .bool false :: .int .i64 0 :: .int .i64 0 :: .bool false :: .bool false :: .int .i64 0 :: .int .i64 0 :: .bool false :: .bool false :: .bool false :: .bool false :: .bool false :: .bool false :: .bool false :: .bool false :: []))) := by kernel_rfl
theorem inf177 : (Try.prog.info? 177).map (fun i => (i.zero, i.size, i.bytes)) = some (some (.agg (List.toArray (.int .i64 0 :: .int .i64 0 :: .bool false :: .bool false :: .int .i64 0 :: .int .i64 0 :: .bool false :: .bool false :: .bool false :: .bool false :: .bool false :: .bool false :: .bool false :: .bool false :: .int .i64 0 :: .int .i64 0 :: .bool false :: .bool false :: .int .i64 0 :: .int .i64 0 :: .bool false :: .bool false :: .bool false :: .bool false :: .bool false :: .bool false :: .bool false :: .bool false :: []))), 28, 96) := by kernel_rfl
theorem zero190 : (Try.prog.info? 190).bind (·.zero) = some (.agg #[.int .i32 0, .int .i32 0]) := by kernel_rfl
theorem inf190 : (Try.prog.info? 190).map (fun i => (i.zero, i.size, i.bytes)) = some (some (.agg #[.int .i32 0, .int .i32 0]), 2, 8) := by kernel_rfl
theorem zero191 : (Try.prog.info? 191).bind (·.zero) = some (.agg (List.flatMap enc190 ((S190.mk 0 0) :: (S190.mk 0 0) :: (S190.mk 0 0) :: (S190.mk 0 0) :: (S190.mk 0 0) :: (S190.mk 0 0) :: (S190.mk 0 0) :: (S190.mk 0 0) :: (S190.mk 0 0) :: (S190.mk 0 0) :: (S190.mk 0 0) :: (S190.mk 0 0) :: (S190.mk 0 0) :: (S190.mk 0 0) :: (S190.mk 0 0) :: (S190.mk 0 0) :: (S190.mk 0 0) :: (S190.mk 0 0) :: (S190.mk 0 0) :: (S190.mk 0 0) :: (S190.mk 0 0) :: (S190.mk 0 0) :: (S190.mk 0 0) :: (S190.mk 0 0) :: (S190.mk 0 0) :: (S190.mk 0 0) :: (S190.mk 0 0) :: (S190.mk 0 0) :: (S190.mk 0 0) :: (S190.mk 0 0) :: (S190.mk 0 0) :: (S190.mk 0 0) :: (S190.mk 0 0) :: (S190.mk 0 0) :: (S190.mk 0 0) :: (S190.mk 0 0) :: (S190.mk 0 0) :: [])).toArray) := by kernel_rfl
theorem inf191 : (Try.prog.info? 191).map (fun i => (i.zero, i.size, i.bytes)) = some (some (.agg (List.flatMap enc190 ((S190.mk 0 0) :: (S190.mk 0 0) :: (S190.mk 0 0) :: (S190.mk 0 0) :: (S190.mk 0 0) :: (S190.mk 0 0) :: (S190.mk 0 0) :: (S190.mk 0 0) :: (S190.mk 0 0) :: (S190.mk 0 0) :: (S190.mk 0 0) :: (S190.mk 0 0) :: (S190.mk 0 0) :: (S190.mk 0 0) :: (S190.mk 0 0) :: (S190.mk 0 0) :: (S190.mk 0 0) :: (S190.mk 0 0) :: (S190.mk 0 0) :: (S190.mk 0 0) :: (S190.mk 0 0) :: (S190.mk 0 0) :: (S190.mk 0 0) :: (S190.mk 0 0) :: (S190.mk 0 0) :: (S190.mk 0 0) :: (S190.mk 0 0) :: (S190.mk 0 0) :: (S190.mk 0 0) :: (S190.mk 0 0) :: (S190.mk 0 0) :: (S190.mk 0 0) :: (S190.mk 0 0) :: (S190.mk 0 0) :: (S190.mk 0 0) :: (S190.mk 0 0) :: (S190.mk 0 0) :: [])).toArray), 74, 296) := by kernel_rfl
theorem zero193 : (Try.prog.info? 193).bind (·.zero) = some (.agg (List.flatMap enc190 ((S190.mk 0 0) :: (S190.mk 0 0) :: (S190.mk 0 0) :: (S190.mk 0 0) :: (S190.mk 0 0) :: (S190.mk 0 0) :: (S190.mk 0 0) :: (S190.mk 0 0) :: (S190.mk 0 0) :: (S190.mk 0 0) :: (S190.mk 0 0) :: (S190.mk 0 0) :: (S190.mk 0 0) :: (S190.mk 0 0) :: (S190.mk 0 0) :: (S190.mk 0 0) :: (S190.mk 0 0) :: (S190.mk 0 0) :: (S190.mk 0 0) :: (S190.mk 0 0) :: (S190.mk 0 0) :: (S190.mk 0 0) :: (S190.mk 0 0) :: (S190.mk 0 0) :: (S190.mk 0 0) :: (S190.mk 0 0) :: [])).toArray) := by kernel_rfl
theorem inf193 : (Try.prog.info? 193).map (fun i => (i.zero, i.size, i.bytes)) = some (some (.agg (List.flatMap enc190 ((S190.mk 0 0) :: (S190.mk 0 0) :: (S190.mk 0 0) :: (S190.mk 0 0) :: (S190.mk 0 0) :: (S190.mk 0 0) :: (S190.mk 0 0) :: (S190.mk 0 0) :: (S190.mk 0 0) :: (S190.mk 0 0) :: (S190.mk 0 0) :: (S190.mk 0 0) :: (S190.mk 0 0) :: (S190.mk 0 0) :: (S190.mk 0 0) :: (S190.mk 0 0) :: (S190.mk 0 0) :: (S190.mk 0 0) :: (S190.mk 0 0) :: (S190.mk 0 0) :: (S190.mk 0 0) :: (S190.mk 0 0) :: (S190.mk 0 0) :: (S190.mk 0 0) :: (S190.mk 0 0) :: (S190.mk 0 0) :: [])).toArray), 52, 208) := by kernel_rfl
theorem zero198 : (Try.prog.info? 198).bind (·.zero) = some (.agg #[.int .i32 0, .int .i32 0]) := by kernel_rfl
theorem inf198 : (Try.prog.info? 198).map (fun i => (i.zero, i.size, i.bytes)) = some (some (.agg #[.int .i32 0, .int .i32 0]), 2, 8) := by kernel_rfl
theorem plc25 : ∀ fs, Try.prog.underlying 25 = some (.struct fs) → ∀ w, (fs.mapM (fun f => do pure (f.offset, ← sizeOf f.type) : Field → Sem (Nat × Nat))).run Try.prog w = .ok ([(0, 1), (1, 1), (2, 1), (3, 1), (4, 1)] : List (Nat × Nat)).toArray w := fun fs h w => by rw [Try.underlying25] at h; cases h; kernel_rfl
theorem plc67 : ∀ fs, Try.prog.underlying 67 = some (.struct fs) → ∀ w, (fs.mapM (fun f => do pure (f.offset, ← sizeOf f.type) : Field → Sem (Nat × Nat))).run Try.prog w = .ok ([(0, 1), (1, 1), (2, 1)] : List (Nat × Nat)).toArray w := fun fs h w => by rw [Try.underlying67] at h; cases h; kernel_rfl
theorem plc76 : ∀ fs, Try.prog.underlying 76 = some (.struct fs) → ∀ w, (fs.mapM (fun f => do pure (f.offset, ← sizeOf f.type) : Field → Sem (Nat × Nat))).run Try.prog w = .ok ([(0, 1), (1, 3), (4, 1), (5, 10)] : List (Nat × Nat)).toArray w := fun fs h w => by rw [Try.underlying76] at h; cases h; kernel_rfl
theorem plc80 : ∀ fs, Try.prog.underlying 80 = some (.struct fs) → ∀ w, (fs.mapM (fun f => do pure (f.offset, ← sizeOf f.type) : Field → Sem (Nat × Nat))).run Try.prog w = .ok ([(0, 1), (1, 1), (2, 1), (3, 1), (4, 10)] : List (Nat × Nat)).toArray w := fun fs h w => by rw [Try.underlying80] at h; cases h; kernel_rfl
theorem plc198 : ∀ fs, Try.prog.underlying 198 = some (.struct fs) → ∀ w, (fs.mapM (fun f => do pure (f.offset, ← sizeOf f.type) : Field → Sem (Nat × Nat))).run Try.prog w = .ok ([(0, 1), (1, 1)] : List (Nat × Nat)).toArray w := fun fs h w => by rw [Try.underlying198] at h; cases h; kernel_rfl
theorem eqg70 : Try.prog.eqGuardType Try.prog.depth 70 = false := by kernel_rfl
theorem eqv70 {x y : S70} : (((x.f0 == y.f0) && ((x.f1 == y.f1) && ((x.f2 == y.f2) && ((x.f3 == y.f3) && ((x.f4 == y.f4) && ((x.f5 == y.f5) && ((x.f6 == y.f6) && ((x.f7 == y.f7) && ((x.f8 == y.f8) && ((x.f9 == y.f9) && true)))))))))) : Bool) = decide (x = y) := by
  obtain ⟨_, _, _, _, _, _, _, _, _, _⟩ := x; obtain ⟨_, _, _, _, _, _, _, _, _, _⟩ := y; rw [Bool.eq_iff_iff]; simp [and_assoc]
theorem eqg74 : Try.prog.eqGuardType Try.prog.depth 74 = false := by kernel_rfl
theorem eqv74 {x y : S74} : (((x.f0 == y.f0) && ((x.f1 == y.f1) && ((x.f2 == y.f2) && true))) : Bool) = decide (x = y) := by
  obtain ⟨_, _, _⟩ := x; obtain ⟨_, _, _⟩ := y; rw [Bool.eq_iff_iff]; simp [and_assoc]
theorem eqg76 : Try.prog.eqGuardType Try.prog.depth 76 = false := by kernel_rfl
theorem eqv76 {x y : S76} : (((x.f0 == y.f0) && (((x.f1.f0 == y.f1.f0) && ((x.f1.f1 == y.f1.f1) && ((x.f1.f2 == y.f1.f2) && true))) && ((x.f2 == y.f2) && (((x.f3.f0 == y.f3.f0) && ((x.f3.f1 == y.f3.f1) && ((x.f3.f2 == y.f3.f2) && ((x.f3.f3 == y.f3.f3) && ((x.f3.f4 == y.f3.f4) && ((x.f3.f5 == y.f3.f5) && ((x.f3.f6 == y.f3.f6) && ((x.f3.f7 == y.f3.f7) && ((x.f3.f8 == y.f3.f8) && ((x.f3.f9 == y.f3.f9) && true)))))))))) && true)))) : Bool) = decide (x = y) := by
  obtain ⟨_, ⟨_, _, _⟩, _, ⟨_, _, _, _, _, _, _, _, _, _⟩⟩ := x; obtain ⟨_, ⟨_, _, _⟩, _, ⟨_, _, _, _, _, _, _, _, _, _⟩⟩ := y; rw [Bool.eq_iff_iff]; simp [and_assoc]
theorem mixed : Try.prog.follows .mixedOrders = true := by kernel_rfl
theorem nm14 : (Try.f14.name == "runtime.NumGoroutine") = false := by kernel_rfl
theorem nm15 : (Try.f15.name == "runtime.NumGoroutine") = false := by kernel_rfl
theorem nm16 : (Try.f16.name == "runtime.NumGoroutine") = false := by kernel_rfl
theorem nm17 : (Try.f17.name == "runtime.NumGoroutine") = false := by kernel_rfl
theorem nm18 : (Try.f18.name == "runtime.NumGoroutine") = false := by kernel_rfl
theorem nm19 : (Try.f19.name == "runtime.NumGoroutine") = false := by kernel_rfl
theorem nm30 : (Try.f30.name == "runtime.NumGoroutine") = false := by kernel_rfl
theorem nm34 : (Try.f34.name == "runtime.NumGoroutine") = false := by kernel_rfl
theorem nm35 : (Try.f35.name == "runtime.NumGoroutine") = false := by kernel_rfl
theorem nm41 : (Try.f41.name == "runtime.NumGoroutine") = false := by kernel_rfl
theorem nm50 : (Try.f50.name == "runtime.NumGoroutine") = false := by kernel_rfl
theorem nm57 : (Try.f57.name == "runtime.NumGoroutine") = false := by kernel_rfl
theorem nm58 : (Try.f58.name == "runtime.NumGoroutine") = false := by kernel_rfl
theorem nm59 : (Try.f59.name == "runtime.NumGoroutine") = false := by kernel_rfl
theorem nm67 : (Try.f67.name == "runtime.NumGoroutine") = false := by kernel_rfl
theorem nm68 : (Try.f68.name == "runtime.NumGoroutine") = false := by kernel_rfl
theorem nm71 : (Try.f71.name == "runtime.NumGoroutine") = false := by kernel_rfl
theorem nm74 : (Try.f74.name == "runtime.NumGoroutine") = false := by kernel_rfl
theorem nm75 : (Try.f75.name == "runtime.NumGoroutine") = false := by kernel_rfl
theorem nm78 : (Try.f78.name == "runtime.NumGoroutine") = false := by kernel_rfl
theorem nm84 : (Try.f84.name == "runtime.NumGoroutine") = false := by kernel_rfl
theorem nm89 : (Try.f89.name == "runtime.NumGoroutine") = false := by kernel_rfl
theorem nm91 : (Try.f91.name == "runtime.NumGoroutine") = false := by kernel_rfl
theorem nm102 : (Try.f102.name == "runtime.NumGoroutine") = false := by kernel_rfl
theorem nm103 : (Try.f103.name == "runtime.NumGoroutine") = false := by kernel_rfl
theorem nm106 : (Try.f106.name == "runtime.NumGoroutine") = false := by kernel_rfl
theorem nm107 : (Try.f107.name == "runtime.NumGoroutine") = false := by kernel_rfl
theorem nm108 : (Try.f108.name == "runtime.NumGoroutine") = false := by kernel_rfl
theorem nm111 : (Try.f111.name == "runtime.NumGoroutine") = false := by kernel_rfl
theorem nm113 : (Try.f113.name == "runtime.NumGoroutine") = false := by kernel_rfl
theorem nm116 : (Try.f116.name == "runtime.NumGoroutine") = false := by kernel_rfl
theorem nm117 : (Try.f117.name == "runtime.NumGoroutine") = false := by kernel_rfl
theorem nm118 : (Try.f118.name == "runtime.NumGoroutine") = false := by kernel_rfl
theorem nm119 : (Try.f119.name == "runtime.NumGoroutine") = false := by kernel_rfl
theorem nm121 : (Try.f121.name == "runtime.NumGoroutine") = false := by kernel_rfl
theorem nm122 : (Try.f122.name == "runtime.NumGoroutine") = false := by kernel_rfl
theorem nm123 : (Try.f123.name == "runtime.NumGoroutine") = false := by kernel_rfl
end Go.Proofs.Ytodkeoibebimgaa.Kc

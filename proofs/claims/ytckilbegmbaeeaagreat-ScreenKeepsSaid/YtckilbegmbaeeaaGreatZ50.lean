/- What the texts of the functions use: types, kinds, facts of the program. -/
import Derived.Test.YtckilbegmbaeeaaGreatProg
import Derived.Test.YtckilbegmbaeeaaGreatZ5S1
namespace Go.Proofs.YtckilbegmbaeeaaGreat.Z5
open Go Go.RowKit Go.Proofs.YtckilbegmbaeeaaGreat.SL
set_option linter.unusedVariables false
set_option linter.unusedSimpArgs false
attribute [local irreducible] IntKind.wrap minI maxI shrI shlI andI orI xorI andNotI cplI rd sub bytesOf strOf slA
structure S22 where
  f0 : Int
  f1 : Int
  deriving Inhabited, DecidableEq
structure S53 where
  f0 : Int
  f1 : Int
  f2 : Int
  deriving Inhabited, DecidableEq
structure S28 where
  f0 : Int
  f1 : Int
  f2 : Bool
  f3 : Bool
  f4 : Bool
  f5 : Bool
  f6 : Bool
  f7 : Bool
  f8 : Bool
  f9 : Bool
  deriving Inhabited, DecidableEq
structure S55 where
  f0 : Int
  f1 : S53
  f2 : Int
  f3 : S28
  deriving Inhabited, DecidableEq
structure S26 where
  f0 : Int
  f1 : Int
  f2 : (List S55)
  deriving Inhabited, DecidableEq
structure S31 where
  f0 : Int
  f1 : Int
  f2 : Bool
  f3 : Bool
  f4 : S28
  deriving Inhabited, DecidableEq
structure S34 where
  f0 : S26
  f1 : Int
  f2 : Int
  f3 : Bool
  f4 : S28
  f5 : Int
  f6 : Int
  f7 : (List Int)
  f8 : Bool
  f9 : Bool
  f10 : Bool
  f11 : Bool
  f12 : Bool
  f13 : Bool
  f14 : S31
  f15 : Bool
  f16 : S26
  f17 : (List Int)
  deriving Inhabited, DecidableEq
structure S44 where
  f0 : Int
  f1 : Int
  f2 : Int
  f3 : Bool
  deriving Inhabited, DecidableEq
structure S138 where
  f0 : Int
  f1 : Int
  deriving Inhabited, DecidableEq
structure S151 where
  f0 : Int
  f1 : Int
  deriving Inhabited, DecidableEq
abbrev c28' (x : S28) : List Value := [.int .i64 x.f0, .int .i64 x.f1, .bool x.f2, .bool x.f3, .bool x.f4, .bool x.f5, .bool x.f6, .bool x.f7, .bool x.f8, .bool x.f9]
abbrev c55' (x : S55) : List Value := (.int .i32 x.f0 :: .int .i32 x.f1.f0 :: .int .i32 x.f1.f1 :: .int .i32 x.f1.f2 :: .int .u8 x.f2 :: .int .i64 x.f3.f0 :: .int .i64 x.f3.f1 :: .bool x.f3.f2 :: .bool x.f3.f3 :: .bool x.f3.f4 :: .bool x.f3.f5 :: .bool x.f3.f6 :: .bool x.f3.f7 :: .bool x.f3.f8 :: .bool x.f3.f9 :: [])
abbrev c31' (x : S31) : List Value := (.int .i64 x.f0 :: .int .i64 x.f1 :: .bool x.f2 :: .bool x.f3 :: .int .i64 x.f4.f0 :: .int .i64 x.f4.f1 :: .bool x.f4.f2 :: .bool x.f4.f3 :: .bool x.f4.f4 :: .bool x.f4.f5 :: .bool x.f4.f6 :: .bool x.f4.f7 :: .bool x.f4.f8 :: .bool x.f4.f9 :: [])
abbrev c34' (x : S34) (A1 : Option Addr) (c2 : Nat) (A4 : Option Addr) (c5 : Nat) (A7 : Option Addr) (c8 : Nat) (A10 : Option Addr) (c11 : Nat) : List Value := (.int .i64 x.f0.f0 :: .int .i64 x.f0.f1 :: .slice A1 x.f0.f2.length c2 :: .int .i64 x.f1 :: .int .i64 x.f2 :: .bool x.f3 :: .int .i64 x.f4.f0 :: .int .i64 x.f4.f1 :: .bool x.f4.f2 :: .bool x.f4.f3 :: .bool x.f4.f4 :: .bool x.f4.f5 :: .bool x.f4.f6 :: .bool x.f4.f7 :: .bool x.f4.f8 :: .bool x.f4.f9 :: .int .i64 x.f5 :: .int .i64 x.f6 :: .slice A4 x.f7.length c5 :: .bool x.f8 :: .bool x.f9 :: .bool x.f10 :: .bool x.f11 :: .bool x.f12 :: .bool x.f13 :: .int .i64 x.f14.f0 :: .int .i64 x.f14.f1 :: .bool x.f14.f2 :: .bool x.f14.f3 :: .int .i64 x.f14.f4.f0 :: .int .i64 x.f14.f4.f1 :: .bool x.f14.f4.f2 :: .bool x.f14.f4.f3 :: .bool x.f14.f4.f4 :: .bool x.f14.f4.f5 :: .bool x.f14.f4.f6 :: .bool x.f14.f4.f7 :: .bool x.f14.f4.f8 :: .bool x.f14.f4.f9 :: .bool x.f15 :: .int .i64 x.f16.f0 :: .int .i64 x.f16.f1 :: .slice A7 x.f16.f2.length c8 :: .slice A10 x.f17.length c11 :: [])
def enc22 (x : S22) : List Value := [.int .i64 x.f0, .int .i64 x.f1]
def k22 : Kd S22 := Kd.fl 2 enc22 (fun _ => rfl) (fun x v h => by simp only [enc22, List.mem_cons, List.not_mem_nil, or_false] at h; rcases h with rfl | rfl <;> rfl)
def enc53 (x : S53) : List Value := [.int .i32 x.f0, .int .i32 x.f1, .int .i32 x.f2]
def k53 : Kd S53 := Kd.fl 3 enc53 (fun _ => rfl) (fun x v h => by simp only [enc53, List.mem_cons, List.not_mem_nil, or_false] at h; rcases h with rfl | rfl | rfl <;> rfl)
def enc28 (x : S28) : List Value := [.int .i64 x.f0, .int .i64 x.f1, .bool x.f2, .bool x.f3, .bool x.f4, .bool x.f5, .bool x.f6, .bool x.f7, .bool x.f8, .bool x.f9]
def k28 : Kd S28 := Kd.fl 10 enc28 (fun _ => rfl) (fun x v h => by simp only [enc28, List.mem_cons, List.not_mem_nil, or_false] at h; rcases h with rfl | rfl | rfl | rfl | rfl | rfl | rfl | rfl | rfl | rfl <;> rfl)
def enc55 (x : S55) : List Value := (.int .i32 x.f0 :: .int .i32 x.f1.f0 :: .int .i32 x.f1.f1 :: .int .i32 x.f1.f2 :: .int .u8 x.f2 :: .int .i64 x.f3.f0 :: .int .i64 x.f3.f1 :: .bool x.f3.f2 :: .bool x.f3.f3 :: .bool x.f3.f4 :: .bool x.f3.f5 :: .bool x.f3.f6 :: .bool x.f3.f7 :: .bool x.f3.f8 :: .bool x.f3.f9 :: [])
def k55 : Kd S55 := Kd.fl 15 enc55 (fun _ => rfl) (fun x v h => by simp only [enc55, List.mem_cons, List.not_mem_nil, or_false] at h; rcases h with rfl | rfl | rfl | rfl | rfl | rfl | rfl | rfl | rfl | rfl | rfl | rfl | rfl | rfl | rfl <;> rfl)
def D26 (x : S26) (cs_ : List Value) (Bs_ : List Asrt) : Prop := ∃ (A1 : Option Addr) (c2 : Nat), cs_ = [.int .i64 x.f0, .int .i64 x.f1, .slice A1 x.f2.length c2] ∧ Bs_ = [Ro k55 A1 c2 x.f2]
def k26 : Kd S26 := Kd.ofD 3 D26 (fun ⟨_, _, e, _⟩ => by rw [e]; rfl) (fun ⟨_, _, e, _⟩ v h => by rw [e] at h; simp only [List.mem_cons, List.not_mem_nil, or_false] at h; rcases h with rfl | rfl | rfl <;> rfl)
def enc31 (x : S31) : List Value := (.int .i64 x.f0 :: .int .i64 x.f1 :: .bool x.f2 :: .bool x.f3 :: .int .i64 x.f4.f0 :: .int .i64 x.f4.f1 :: .bool x.f4.f2 :: .bool x.f4.f3 :: .bool x.f4.f4 :: .bool x.f4.f5 :: .bool x.f4.f6 :: .bool x.f4.f7 :: .bool x.f4.f8 :: .bool x.f4.f9 :: [])
def k31 : Kd S31 := Kd.fl 14 enc31 (fun _ => rfl) (fun x v h => by simp only [enc31, List.mem_cons, List.not_mem_nil, or_false] at h; rcases h with rfl | rfl | rfl | rfl | rfl | rfl | rfl | rfl | rfl | rfl | rfl | rfl | rfl | rfl <;> rfl)
def D34 (x : S34) (cs_ : List Value) (Bs_ : List Asrt) : Prop := ∃ (A1 : Option Addr) (c2 : Nat), ∃ (A4 : Option Addr) (c5 : Nat), ∃ (A7 : Option Addr) (c8 : Nat), ∃ (A10 : Option Addr) (c11 : Nat), cs_ = (.int .i64 x.f0.f0 :: .int .i64 x.f0.f1 :: .slice A1 x.f0.f2.length c2 :: .int .i64 x.f1 :: .int .i64 x.f2 :: .bool x.f3 :: .int .i64 x.f4.f0 :: .int .i64 x.f4.f1 :: .bool x.f4.f2 :: .bool x.f4.f3 :: .bool x.f4.f4 :: .bool x.f4.f5 :: .bool x.f4.f6 :: .bool x.f4.f7 :: .bool x.f4.f8 :: .bool x.f4.f9 :: .int .i64 x.f5 :: .int .i64 x.f6 :: .slice A4 x.f7.length c5 :: .bool x.f8 :: .bool x.f9 :: .bool x.f10 :: .bool x.f11 :: .bool x.f12 :: .bool x.f13 :: .int .i64 x.f14.f0 :: .int .i64 x.f14.f1 :: .bool x.f14.f2 :: .bool x.f14.f3 :: .int .i64 x.f14.f4.f0 :: .int .i64 x.f14.f4.f1 :: .bool x.f14.f4.f2 :: .bool x.f14.f4.f3 :: .bool x.f14.f4.f4 :: .bool x.f14.f4.f5 :: .bool x.f14.f4.f6 :: .bool x.f14.f4.f7 :: .bool x.f14.f4.f8 :: .bool x.f14.f4.f9 :: .bool x.f15 :: .int .i64 x.f16.f0 :: .int .i64 x.f16.f1 :: .slice A7 x.f16.f2.length c8 :: .slice A10 x.f17.length c11 :: []) ∧ Bs_ = [Ro k55 A1 c2 x.f0.f2, Ro (Kd.int .i64) A4 c5 x.f7, Ro k55 A7 c8 x.f16.f2, Ro (Kd.int .i32) A10 c11 x.f17]
def k34 : Kd S34 := Kd.ofD 44 D34 (fun ⟨_, _, _, _, _, _, _, _, e, _⟩ => by rw [e]; rfl) (fun ⟨_, _, _, _, _, _, _, _, e, _⟩ v h => by rw [e] at h; simp only [List.mem_cons, List.not_mem_nil, or_false] at h; rcases h with rfl | rfl | rfl | rfl | rfl | rfl | rfl | rfl | rfl | rfl | rfl | rfl | rfl | rfl | rfl | rfl | rfl | rfl | rfl | rfl | rfl | rfl | rfl | rfl | rfl | rfl | rfl | rfl | rfl | rfl | rfl | rfl | rfl | rfl | rfl | rfl | rfl | rfl | rfl | rfl | rfl | rfl | rfl | rfl <;> rfl)
def enc44 (x : S44) : List Value := [.int .u8 x.f0, .int .i64 x.f1, .int .i64 x.f2, .bool x.f3]
def k44 : Kd S44 := Kd.fl 4 enc44 (fun _ => rfl) (fun x v h => by simp only [enc44, List.mem_cons, List.not_mem_nil, or_false] at h; rcases h with rfl | rfl | rfl | rfl <;> rfl)
def enc138 (x : S138) : List Value := [.int .i32 x.f0, .int .i32 x.f1]
def k138 : Kd S138 := Kd.fl 2 enc138 (fun _ => rfl) (fun x v h => by simp only [enc138, List.mem_cons, List.not_mem_nil, or_false] at h; rcases h with rfl | rfl <;> rfl)
def enc151 (x : S151) : List Value := [.int .i32 x.f0, .int .i32 x.f1]
def k151 : Kd S151 := Kd.fl 2 enc151 (fun _ => rfl) (fun x v h => by simp only [enc151, List.mem_cons, List.not_mem_nil, or_false] at h; rcases h with rfl | rfl <;> rfl)
theorem sz3 : (Tryz.prog.info? 3).map (·.size) = some 1 := by kernel_rfl
theorem nz3 : ((Tryz.prog.info? 3).map fun i => decide (i.size = 0)) = some false := by kernel_rfl
theorem sz4 : (Tryz.prog.info? 4).map (·.size) = some 1 := by kernel_rfl
theorem nz4 : ((Tryz.prog.info? 4).map fun i => decide (i.size = 0)) = some false := by kernel_rfl
theorem sz5 : (Tryz.prog.info? 5).map (·.size) = some 1 := by kernel_rfl
theorem nz5 : ((Tryz.prog.info? 5).map fun i => decide (i.size = 0)) = some false := by kernel_rfl
theorem sz21 : (Tryz.prog.info? 21).map (·.size) = some 1 := by kernel_rfl
theorem nz21 : ((Tryz.prog.info? 21).map fun i => decide (i.size = 0)) = some false := by kernel_rfl
theorem sz24 : (Tryz.prog.info? 24).map (·.size) = some 1 := by kernel_rfl
theorem nz24 : ((Tryz.prog.info? 24).map fun i => decide (i.size = 0)) = some false := by kernel_rfl
theorem sz26 : (Tryz.prog.info? 26).map (·.size) = some 3 := by kernel_rfl
theorem nz26 : ((Tryz.prog.info? 26).map fun i => decide (i.size = 0)) = some false := by kernel_rfl
theorem sz28 : (Tryz.prog.info? 28).map (·.size) = some 10 := by kernel_rfl
theorem nz28 : ((Tryz.prog.info? 28).map fun i => decide (i.size = 0)) = some false := by kernel_rfl
theorem sz29 : (Tryz.prog.info? 29).map (·.size) = some 1 := by kernel_rfl
theorem nz29 : ((Tryz.prog.info? 29).map fun i => decide (i.size = 0)) = some false := by kernel_rfl
theorem sz31 : (Tryz.prog.info? 31).map (·.size) = some 14 := by kernel_rfl
theorem nz31 : ((Tryz.prog.info? 31).map fun i => decide (i.size = 0)) = some false := by kernel_rfl
theorem sz32 : (Tryz.prog.info? 32).map (·.size) = some 1 := by kernel_rfl
theorem nz32 : ((Tryz.prog.info? 32).map fun i => decide (i.size = 0)) = some false := by kernel_rfl
theorem sz34 : (Tryz.prog.info? 34).map (·.size) = some 44 := by kernel_rfl
theorem sz44 : (Tryz.prog.info? 44).map (·.size) = some 4 := by kernel_rfl
theorem sz53 : (Tryz.prog.info? 53).map (·.size) = some 3 := by kernel_rfl
theorem nz53 : ((Tryz.prog.info? 53).map fun i => decide (i.size = 0)) = some false := by kernel_rfl
theorem sz55 : (Tryz.prog.info? 55).map (·.size) = some 15 := by kernel_rfl
theorem nz82 : ((Tryz.prog.info? 82).map fun i => decide (i.size = 0)) = some false := by kernel_rfl
theorem sz84 : (Tryz.prog.info? 84).map (·.size) = some 1 := by kernel_rfl
theorem sz138 : (Tryz.prog.info? 138).map (·.size) = some 2 := by kernel_rfl
theorem sz139 : (Tryz.prog.info? 139).map (·.size) = some 74 := by kernel_rfl
theorem sz141 : (Tryz.prog.info? 141).map (·.size) = some 52 := by kernel_rfl
theorem sz151 : (Tryz.prog.info? 151).map (·.size) = some 2 := by kernel_rfl
theorem zero3 : (Tryz.prog.info? 3).bind (·.zero) = some (.int .i64 0) := by kernel_rfl
theorem inf3 : (Tryz.prog.info? 3).map (fun i => (i.zero, i.size, i.bytes)) = some (some (.int .i64 0), 1, 8) := by kernel_rfl
theorem zero21 : (Tryz.prog.info? 21).bind (·.zero) = some (.int .i32 0) := by kernel_rfl
theorem inf21 : (Tryz.prog.info? 21).map (fun i => (i.zero, i.size, i.bytes)) = some (some (.int .i32 0), 1, 4) := by kernel_rfl
theorem zero26 : (Tryz.prog.info? 26).bind (·.zero) = some (.agg #[.int .i64 0, .int .i64 0, .slice none 0 0]) := by kernel_rfl
theorem zero28 : (Tryz.prog.info? 28).bind (·.zero) = some (.agg #[.int .i64 0, .int .i64 0, .bool false, .bool false, .bool false, .bool false, .bool false, .bool false, .bool false, .bool false]) := by kernel_rfl
theorem zero31 : (Tryz.prog.info? 31).bind (·.zero) = some (.agg (List.toArray (.int .i64 0 :: .int .i64 0 :: .bool false :: .bool false :: .int .i64 0 :: .int .i64 0 :: .bool false :: .bool false :: .bool false :: .bool false :: .bool false :: .bool false :: .bool false :: .bool false :: []))) := by kernel_rfl
theorem zero34 : (Tryz.prog.info? 34).bind (·.zero) = some (.agg (List.toArray (.int .i64 0 :: .int .i64 0 :: .slice none 0 0 :: .int .i64 0 :: .int .i64 0 :: .bool false :: .int .i64 0 :: .int .i64 0 :: .bool false :: .bool false :: .bool false :: .bool false :: .bool false :: .bool false :: .bool false :: .bool false :: .int .i64 0 :: .int .i64 0 :: .slice none 0 0 :: .bool false :: .bool false :: .bool false :: .bool false :: .bool false :: .bool false :: .int .i64 0 :: .int .i64 0 :: .bool false :: .bool false :: .int .i64 0 :: .int .i64 0 :: .bool false :: .bool false :: .bool false :: .bool false :: .bool false :: .bool false :: .bool false :: .bool false :: .bool false :: .int .i64 0 :: .int .i64 0 :: .slice none 0 0 :: .slice none 0 0 :: []))) := by kernel_rfl
theorem zero53 : (Tryz.prog.info? 53).bind (·.zero) = some (.agg #[.int .i32 0, .int .i32 0, .int .i32 0]) := by kernel_rfl
theorem zero55 : (Tryz.prog.info? 55).bind (·.zero) = some (.agg (List.toArray (.int .i32 0 :: .int .i32 0 :: .int .i32 0 :: .int .i32 0 :: .int .u8 0 :: .int .i64 0 :: .int .i64 0 :: .bool false :: .bool false :: .bool false :: .bool false :: .bool false :: .bool false :: .bool false :: .bool false :: []))) := by kernel_rfl
theorem inf55 : (Tryz.prog.info? 55).map (fun i => (i.zero, i.size, i.bytes)) = some (some (.agg (List.toArray (.int .i32 0 :: .int .i32 0 :: .int .i32 0 :: .int .i32 0 :: .int .u8 0 :: .int .i64 0 :: .int .i64 0 :: .bool false :: .bool false :: .bool false :: .bool false :: .bool false :: .bool false :: .bool false :: .bool false :: []))), 15, 48) := by kernel_rfl
theorem zero78 : (Tryz.prog.info? 78).bind (·.zero) = some (.agg (List.toArray (.int .i64 0 :: .int .i64 0 :: .bool false :: .bool false :: .int .i64 0 :: .int .i64 0 :: .bool false :: .bool false :: .bool false :: .bool false :: .bool false :: .bool false :: .bool false :: .bool false :: .int .i64 0 :: .int .i64 0 :: .bool false :: .bool false :: .int .i64 0 :: .int .i64 0 :: .bool false :: .bool false :: .bool false :: .bool false :: .bool false :: .bool false :: .bool false :: .bool false :: []))) := by kernel_rfl
theorem zero84 : (Tryz.prog.info? 84).bind (·.zero) = some (.agg #[.pointer none]) := by kernel_rfl
theorem zero138 : (Tryz.prog.info? 138).bind (·.zero) = some (.agg #[.int .i32 0, .int .i32 0]) := by kernel_rfl
theorem zero139 : (Tryz.prog.info? 139).bind (·.zero) = some (.agg (List.flatMap enc138 ((S138.mk 0 0) :: (S138.mk 0 0) :: (S138.mk 0 0) :: (S138.mk 0 0) :: (S138.mk 0 0) :: (S138.mk 0 0) :: (S138.mk 0 0) :: (S138.mk 0 0) :: (S138.mk 0 0) :: (S138.mk 0 0) :: (S138.mk 0 0) :: (S138.mk 0 0) :: (S138.mk 0 0) :: (S138.mk 0 0) :: (S138.mk 0 0) :: (S138.mk 0 0) :: (S138.mk 0 0) :: (S138.mk 0 0) :: (S138.mk 0 0) :: (S138.mk 0 0) :: (S138.mk 0 0) :: (S138.mk 0 0) :: (S138.mk 0 0) :: (S138.mk 0 0) :: (S138.mk 0 0) :: (S138.mk 0 0) :: (S138.mk 0 0) :: (S138.mk 0 0) :: (S138.mk 0 0) :: (S138.mk 0 0) :: (S138.mk 0 0) :: (S138.mk 0 0) :: (S138.mk 0 0) :: (S138.mk 0 0) :: (S138.mk 0 0) :: (S138.mk 0 0) :: (S138.mk 0 0) :: [])).toArray) := by kernel_rfl
theorem zero141 : (Tryz.prog.info? 141).bind (·.zero) = some (.agg (List.flatMap enc138 ((S138.mk 0 0) :: (S138.mk 0 0) :: (S138.mk 0 0) :: (S138.mk 0 0) :: (S138.mk 0 0) :: (S138.mk 0 0) :: (S138.mk 0 0) :: (S138.mk 0 0) :: (S138.mk 0 0) :: (S138.mk 0 0) :: (S138.mk 0 0) :: (S138.mk 0 0) :: (S138.mk 0 0) :: (S138.mk 0 0) :: (S138.mk 0 0) :: (S138.mk 0 0) :: (S138.mk 0 0) :: (S138.mk 0 0) :: (S138.mk 0 0) :: (S138.mk 0 0) :: (S138.mk 0 0) :: (S138.mk 0 0) :: (S138.mk 0 0) :: (S138.mk 0 0) :: (S138.mk 0 0) :: (S138.mk 0 0) :: [])).toArray) := by kernel_rfl
theorem zero151 : (Tryz.prog.info? 151).bind (·.zero) = some (.agg #[.int .i32 0, .int .i32 0]) := by kernel_rfl
theorem plc26 : ∀ fs, Tryz.prog.underlying 26 = some (.struct fs) → ∀ w, (fs.mapM (fun f => do pure (f.offset, ← sizeOf f.type) : Field → Sem (Nat × Nat))).run Tryz.prog w = .ok ([(0, 1), (1, 1), (2, 1)] : List (Nat × Nat)).toArray w := fun fs h w => by rw [Tryz.underlying26] at h; cases h; kernel_rfl
theorem plc28 : ∀ fs, Tryz.prog.underlying 28 = some (.struct fs) → ∀ w, (fs.mapM (fun f => do pure (f.offset, ← sizeOf f.type) : Field → Sem (Nat × Nat))).run Tryz.prog w = .ok ([(0, 1), (1, 1), (2, 1), (3, 1), (4, 1), (5, 1), (6, 1), (7, 1), (8, 1), (9, 1)] : List (Nat × Nat)).toArray w := fun fs h w => by rw [Tryz.underlying28] at h; cases h; kernel_rfl
theorem plc31 : ∀ fs, Tryz.prog.underlying 31 = some (.struct fs) → ∀ w, (fs.mapM (fun f => do pure (f.offset, ← sizeOf f.type) : Field → Sem (Nat × Nat))).run Tryz.prog w = .ok ([(0, 1), (1, 1), (2, 1), (3, 1), (4, 10)] : List (Nat × Nat)).toArray w := fun fs h w => by rw [Tryz.underlying31] at h; cases h; kernel_rfl
theorem plc34 : ∀ fs, Tryz.prog.underlying 34 = some (.struct fs) → ∀ w, (fs.mapM (fun f => do pure (f.offset, ← sizeOf f.type) : Field → Sem (Nat × Nat))).run Tryz.prog w = .ok (((0, 3) :: (3, 1) :: (4, 1) :: (5, 1) :: (6, 10) :: (16, 1) :: (17, 1) :: (18, 1) :: (19, 1) :: (20, 1) :: (21, 1) :: (22, 1) :: (23, 1) :: (24, 1) :: (25, 14) :: (39, 1) :: (40, 3) :: (43, 1) :: []) : List (Nat × Nat)).toArray w := fun fs h w => by rw [Tryz.underlying34] at h; cases h; kernel_rfl
theorem plc55 : ∀ fs, Tryz.prog.underlying 55 = some (.struct fs) → ∀ w, (fs.mapM (fun f => do pure (f.offset, ← sizeOf f.type) : Field → Sem (Nat × Nat))).run Tryz.prog w = .ok ([(0, 1), (1, 3), (4, 1), (5, 10)] : List (Nat × Nat)).toArray w := fun fs h w => by rw [Tryz.underlying55] at h; cases h; kernel_rfl
theorem plc84 : ∀ fs, Tryz.prog.underlying 84 = some (.struct fs) → ∀ w, (fs.mapM (fun f => do pure (f.offset, ← sizeOf f.type) : Field → Sem (Nat × Nat))).run Tryz.prog w = .ok ([(0, 1)] : List (Nat × Nat)).toArray w := fun fs h w => by rw [Tryz.underlying84] at h; cases h; kernel_rfl
theorem plc151 : ∀ fs, Tryz.prog.underlying 151 = some (.struct fs) → ∀ w, (fs.mapM (fun f => do pure (f.offset, ← sizeOf f.type) : Field → Sem (Nat × Nat))).run Tryz.prog w = .ok ([(0, 1), (1, 1)] : List (Nat × Nat)).toArray w := fun fs h w => by rw [Tryz.underlying151] at h; cases h; kernel_rfl
theorem eqg28 : Tryz.prog.eqGuardType Tryz.prog.depth 28 = false := by kernel_rfl
theorem eqv28 {x y : S28} : (((x.f0 == y.f0) && ((x.f1 == y.f1) && ((x.f2 == y.f2) && ((x.f3 == y.f3) && ((x.f4 == y.f4) && ((x.f5 == y.f5) && ((x.f6 == y.f6) && ((x.f7 == y.f7) && ((x.f8 == y.f8) && ((x.f9 == y.f9) && true)))))))))) : Bool) = decide (x = y) := by
  obtain ⟨_, _, _, _, _, _, _, _, _, _⟩ := x; obtain ⟨_, _, _, _, _, _, _, _, _, _⟩ := y; rw [Bool.eq_iff_iff]; simp [and_assoc]
theorem eqg31 : Tryz.prog.eqGuardType Tryz.prog.depth 31 = false := by kernel_rfl
theorem eqv31 {x y : S31} : (((x.f0 == y.f0) && ((x.f1 == y.f1) && ((x.f2 == y.f2) && ((x.f3 == y.f3) && (((x.f4.f0 == y.f4.f0) && ((x.f4.f1 == y.f4.f1) && ((x.f4.f2 == y.f4.f2) && ((x.f4.f3 == y.f4.f3) && ((x.f4.f4 == y.f4.f4) && ((x.f4.f5 == y.f4.f5) && ((x.f4.f6 == y.f4.f6) && ((x.f4.f7 == y.f4.f7) && ((x.f4.f8 == y.f4.f8) && ((x.f4.f9 == y.f4.f9) && true)))))))))) && true))))) : Bool) = decide (x = y) := by
  obtain ⟨_, _, _, _, ⟨_, _, _, _, _, _, _, _, _, _⟩⟩ := x; obtain ⟨_, _, _, _, ⟨_, _, _, _, _, _, _, _, _, _⟩⟩ := y; rw [Bool.eq_iff_iff]; simp [and_assoc]
theorem eqg53 : Tryz.prog.eqGuardType Tryz.prog.depth 53 = false := by kernel_rfl
theorem eqv53 {x y : S53} : (((x.f0 == y.f0) && ((x.f1 == y.f1) && ((x.f2 == y.f2) && true))) : Bool) = decide (x = y) := by
  obtain ⟨_, _, _⟩ := x; obtain ⟨_, _, _⟩ := y; rw [Bool.eq_iff_iff]; simp [and_assoc]
theorem eqg55 : Tryz.prog.eqGuardType Tryz.prog.depth 55 = false := by kernel_rfl
theorem eqv55 {x y : S55} : (((x.f0 == y.f0) && (((x.f1.f0 == y.f1.f0) && ((x.f1.f1 == y.f1.f1) && ((x.f1.f2 == y.f1.f2) && true))) && ((x.f2 == y.f2) && (((x.f3.f0 == y.f3.f0) && ((x.f3.f1 == y.f3.f1) && ((x.f3.f2 == y.f3.f2) && ((x.f3.f3 == y.f3.f3) && ((x.f3.f4 == y.f3.f4) && ((x.f3.f5 == y.f3.f5) && ((x.f3.f6 == y.f3.f6) && ((x.f3.f7 == y.f3.f7) && ((x.f3.f8 == y.f3.f8) && ((x.f3.f9 == y.f3.f9) && true)))))))))) && true)))) : Bool) = decide (x = y) := by
  obtain ⟨_, ⟨_, _, _⟩, _, ⟨_, _, _, _, _, _, _, _, _, _⟩⟩ := x; obtain ⟨_, ⟨_, _, _⟩, _, ⟨_, _, _, _, _, _, _, _, _, _⟩⟩ := y; rw [Bool.eq_iff_iff]; simp [and_assoc]
theorem mixed : Tryz.prog.follows .mixedOrders = true := by kernel_rfl
theorem nm61 : (Tryz.f61.name == "runtime.NumGoroutine") = false := by kernel_rfl
theorem nm63 : (Tryz.f63.name == "runtime.NumGoroutine") = false := by kernel_rfl
theorem nm72 : (Tryz.f72.name == "runtime.NumGoroutine") = false := by kernel_rfl
theorem nm74 : (Tryz.f74.name == "runtime.NumGoroutine") = false := by kernel_rfl
theorem nm76 : (Tryz.f76.name == "runtime.NumGoroutine") = false := by kernel_rfl
theorem nm78 : (Tryz.f78.name == "runtime.NumGoroutine") = false := by kernel_rfl
theorem nm80 : (Tryz.f80.name == "runtime.NumGoroutine") = false := by kernel_rfl
theorem nm82 : (Tryz.f82.name == "runtime.NumGoroutine") = false := by kernel_rfl
theorem nm84 : (Tryz.f84.name == "runtime.NumGoroutine") = false := by kernel_rfl
theorem nm86 : (Tryz.f86.name == "runtime.NumGoroutine") = false := by kernel_rfl
theorem nm88 : (Tryz.f88.name == "runtime.NumGoroutine") = false := by kernel_rfl
theorem nm90 : (Tryz.f90.name == "runtime.NumGoroutine") = false := by kernel_rfl
theorem nm92 : (Tryz.f92.name == "runtime.NumGoroutine") = false := by kernel_rfl
theorem nm94 : (Tryz.f94.name == "runtime.NumGoroutine") = false := by kernel_rfl
theorem nm155 : (Tryz.f155.name == "runtime.NumGoroutine") = false := by kernel_rfl
theorem nm157 : (Tryz.f157.name == "runtime.NumGoroutine") = false := by kernel_rfl
abbrev z34' : S34 := (S34.mk (S26.mk 0 0 ([] : (List S55))) 0 0 false (S28.mk 0 0 false false false false false false false false) 0 0 ([] : (List Int)) false false false false false false (S31.mk 0 0 false false (S28.mk 0 0 false false false false false false false false)) false (S26.mk 0 0 ([] : (List S55))) ([] : (List Int)))
abbrev z55' : S55 := (S55.mk 0 (S53.mk 0 0 0) 0 (S28.mk 0 0 false false false false false false false false))
abbrev z31' : S31 := (S31.mk 0 0 false false (S28.mk 0 0 false false false false false false false false))
abbrev z28' : S28 := (S28.mk 0 0 false false false false false false false false)
abbrev z26' : S26 := (S26.mk 0 0 ([] : (List S55)))
@[reducible,instance] def if110 := (⟨Tryz.func110, by kernel_rfl⟩ : Fc' Tryz.prog 110 _)
@[reducible,instance] def if111 := (⟨Tryz.func111, by kernel_rfl⟩ : Fc' Tryz.prog 111 _)
@[reducible,instance] def if112 := (⟨Tryz.func112, by kernel_rfl⟩ : Fc' Tryz.prog 112 _)
@[reducible,instance] def if113 := (⟨Tryz.func113, by kernel_rfl⟩ : Fc' Tryz.prog 113 _)
@[reducible,instance] def if114 := (⟨Tryz.func114, by kernel_rfl⟩ : Fc' Tryz.prog 114 _)
@[reducible,instance] def if115 := (⟨Tryz.func115, by kernel_rfl⟩ : Fc' Tryz.prog 115 _)
@[reducible,instance] def if116 := (⟨Tryz.func116, by kernel_rfl⟩ : Fc' Tryz.prog 116 _)
@[reducible,instance] def if117 := (⟨Tryz.func117, by kernel_rfl⟩ : Fc' Tryz.prog 117 _)
@[reducible,instance] def if118 := (⟨Tryz.func118, by kernel_rfl⟩ : Fc' Tryz.prog 118 _)
@[reducible,instance] def if119 := (⟨Tryz.func119, by kernel_rfl⟩ : Fc' Tryz.prog 119 _)
@[reducible,instance] def if12 := (⟨Tryz.func12, by kernel_rfl⟩ : Fc' Tryz.prog 12 _)
@[reducible,instance] def if120 := (⟨Tryz.func120, by kernel_rfl⟩ : Fc' Tryz.prog 120 _)
@[reducible,instance] def if121 := (⟨Tryz.func121, by kernel_rfl⟩ : Fc' Tryz.prog 121 _)
@[reducible,instance] def if122 := (⟨Tryz.func122, by kernel_rfl⟩ : Fc' Tryz.prog 122 _)
@[reducible,instance] def if123 := (⟨Tryz.func123, by kernel_rfl⟩ : Fc' Tryz.prog 123 _)
@[reducible,instance] def if124 := (⟨Tryz.func124, by kernel_rfl⟩ : Fc' Tryz.prog 124 _)
@[reducible,instance] def if125 := (⟨Tryz.func125, by kernel_rfl⟩ : Fc' Tryz.prog 125 _)
@[reducible,instance] def if126 := (⟨Tryz.func126, by kernel_rfl⟩ : Fc' Tryz.prog 126 _)
@[reducible,instance] def if127 := (⟨Tryz.func127, by kernel_rfl⟩ : Fc' Tryz.prog 127 _)
@[reducible,instance] def if128 := (⟨Tryz.func128, by kernel_rfl⟩ : Fc' Tryz.prog 128 _)
@[reducible,instance] def if129 := (⟨Tryz.func129, by kernel_rfl⟩ : Fc' Tryz.prog 129 _)
@[reducible,instance] def if130 := (⟨Tryz.func130, by kernel_rfl⟩ : Fc' Tryz.prog 130 _)
@[reducible,instance] def if131 := (⟨Tryz.func131, by kernel_rfl⟩ : Fc' Tryz.prog 131 _)
@[reducible,instance] def if132 := (⟨Tryz.func132, by kernel_rfl⟩ : Fc' Tryz.prog 132 _)
@[reducible,instance] def if133 := (⟨Tryz.func133, by kernel_rfl⟩ : Fc' Tryz.prog 133 _)
@[reducible,instance] def if134 := (⟨Tryz.func134, by kernel_rfl⟩ : Fc' Tryz.prog 134 _)
@[reducible,instance] def if135 := (⟨Tryz.func135, by kernel_rfl⟩ : Fc' Tryz.prog 135 _)
@[reducible,instance] def if136 := (⟨Tryz.func136, by kernel_rfl⟩ : Fc' Tryz.prog 136 _)
@[reducible,instance] def if137 := (⟨Tryz.func137, by kernel_rfl⟩ : Fc' Tryz.prog 137 _)
@[reducible,instance] def if138 := (⟨Tryz.func138, by kernel_rfl⟩ : Fc' Tryz.prog 138 _)
@[reducible,instance] def if139 := (⟨Tryz.func139, by kernel_rfl⟩ : Fc' Tryz.prog 139 _)
@[reducible,instance] def if14 := (⟨Tryz.func14, by kernel_rfl⟩ : Fc' Tryz.prog 14 _)
@[reducible,instance] def if140 := (⟨Tryz.func140, by kernel_rfl⟩ : Fc' Tryz.prog 140 _)
@[reducible,instance] def if141 := (⟨Tryz.func141, by kernel_rfl⟩ : Fc' Tryz.prog 141 _)
@[reducible,instance] def if142 := (⟨Tryz.func142, by kernel_rfl⟩ : Fc' Tryz.prog 142 _)
@[reducible,instance] def if147 := (⟨Tryz.func147, by kernel_rfl⟩ : Fc' Tryz.prog 147 _)
@[reducible,instance] def if148 := (⟨Tryz.func148, by kernel_rfl⟩ : Fc' Tryz.prog 148 _)
@[reducible,instance] def if149 := (⟨Tryz.func149, by kernel_rfl⟩ : Fc' Tryz.prog 149 _)
@[reducible,instance] def if15 := (⟨Tryz.func15, by kernel_rfl⟩ : Fc' Tryz.prog 15 _)
@[reducible,instance] def if150 := (⟨Tryz.func150, by kernel_rfl⟩ : Fc' Tryz.prog 150 _)
@[reducible,instance] def if151 := (⟨Tryz.func151, by kernel_rfl⟩ : Fc' Tryz.prog 151 _)
@[reducible,instance] def if152 := (⟨Tryz.func152, by kernel_rfl⟩ : Fc' Tryz.prog 152 _)
@[reducible,instance] def if153 := (⟨Tryz.func153, by kernel_rfl⟩ : Fc' Tryz.prog 153 _)
@[reducible,instance] def if154 := (⟨Tryz.func154, by kernel_rfl⟩ : Fc' Tryz.prog 154 _)
@[reducible,instance] def if158 := (⟨Tryz.func158, by kernel_rfl⟩ : Fc' Tryz.prog 158 _)
@[reducible,instance] def if159 := (⟨Tryz.func159, by kernel_rfl⟩ : Fc' Tryz.prog 159 _)
@[reducible,instance] def if16 := (⟨Tryz.func16, by kernel_rfl⟩ : Fc' Tryz.prog 16 _)
@[reducible,instance] def if17 := (⟨Tryz.func17, by kernel_rfl⟩ : Fc' Tryz.prog 17 _)
@[reducible,instance] def if18 := (⟨Tryz.func18, by kernel_rfl⟩ : Fc' Tryz.prog 18 _)
@[reducible,instance] def if21 := (⟨Tryz.func21, by kernel_rfl⟩ : Fc' Tryz.prog 21 _)
@[reducible,instance] def if22 := (⟨Tryz.func22, by kernel_rfl⟩ : Fc' Tryz.prog 22 _)
@[reducible,instance] def if23 := (⟨Tryz.func23, by kernel_rfl⟩ : Fc' Tryz.prog 23 _)
@[reducible,instance] def if27 := (⟨Tryz.func27, by kernel_rfl⟩ : Fc' Tryz.prog 27 _)
@[reducible,instance] def if28 := (⟨Tryz.func28, by kernel_rfl⟩ : Fc' Tryz.prog 28 _)
@[reducible,instance] def if29 := (⟨Tryz.func29, by kernel_rfl⟩ : Fc' Tryz.prog 29 _)
@[reducible,instance] def if30 := (⟨Tryz.func30, by kernel_rfl⟩ : Fc' Tryz.prog 30 _)
@[reducible,instance] def if31 := (⟨Tryz.func31, by kernel_rfl⟩ : Fc' Tryz.prog 31 _)
@[reducible,instance] def if32 := (⟨Tryz.func32, by kernel_rfl⟩ : Fc' Tryz.prog 32 _)
@[reducible,instance] def if33 := (⟨Tryz.func33, by kernel_rfl⟩ : Fc' Tryz.prog 33 _)
@[reducible,instance] def if34 := (⟨Tryz.func34, by kernel_rfl⟩ : Fc' Tryz.prog 34 _)
@[reducible,instance] def if35 := (⟨Tryz.func35, by kernel_rfl⟩ : Fc' Tryz.prog 35 _)
@[reducible,instance] def if36 := (⟨Tryz.func36, by kernel_rfl⟩ : Fc' Tryz.prog 36 _)
@[reducible,instance] def if37 := (⟨Tryz.func37, by kernel_rfl⟩ : Fc' Tryz.prog 37 _)
@[reducible,instance] def if38 := (⟨Tryz.func38, by kernel_rfl⟩ : Fc' Tryz.prog 38 _)
@[reducible,instance] def if39 := (⟨Tryz.func39, by kernel_rfl⟩ : Fc' Tryz.prog 39 _)
@[reducible,instance] def if54 := (⟨Tryz.func54, by kernel_rfl⟩ : Fc' Tryz.prog 54 _)
@[reducible,instance] def if55 := (⟨Tryz.func55, by kernel_rfl⟩ : Fc' Tryz.prog 55 _)
@[reducible,instance] def if56 := (⟨Tryz.func56, by kernel_rfl⟩ : Fc' Tryz.prog 56 _)
@[reducible,instance] def if57 := (⟨Tryz.func57, by kernel_rfl⟩ : Fc' Tryz.prog 57 _)
@[reducible,instance] def if58 := (⟨Tryz.func58, by kernel_rfl⟩ : Fc' Tryz.prog 58 _)
@[reducible,instance] def if59 := (⟨Tryz.func59, by kernel_rfl⟩ : Fc' Tryz.prog 59 _)
@[reducible,instance] def if60 := (⟨Tryz.func60, by kernel_rfl⟩ : Fc' Tryz.prog 60 _)
@[reducible,instance] def if62 := (⟨Tryz.func62, by kernel_rfl⟩ : Fc' Tryz.prog 62 _)
@[reducible,instance] def if64 := (⟨Tryz.func64, by kernel_rfl⟩ : Fc' Tryz.prog 64 _)
@[reducible,instance] def if68 := (⟨Tryz.func68, by kernel_rfl⟩ : Fc' Tryz.prog 68 _)
@[reducible,instance] def if69 := (⟨Tryz.func69, by kernel_rfl⟩ : Fc' Tryz.prog 69 _)
@[reducible,instance] def if70 := (⟨Tryz.func70, by kernel_rfl⟩ : Fc' Tryz.prog 70 _)
@[reducible,instance] def if73 := (⟨Tryz.func73, by kernel_rfl⟩ : Fc' Tryz.prog 73 _)
@[reducible,instance] def if75 := (⟨Tryz.func75, by kernel_rfl⟩ : Fc' Tryz.prog 75 _)
@[reducible,instance] def if77 := (⟨Tryz.func77, by kernel_rfl⟩ : Fc' Tryz.prog 77 _)
@[reducible,instance] def if79 := (⟨Tryz.func79, by kernel_rfl⟩ : Fc' Tryz.prog 79 _)
@[reducible,instance] def if8 := (⟨Tryz.func8, by kernel_rfl⟩ : Fc' Tryz.prog 8 _)
@[reducible,instance] def if81 := (⟨Tryz.func81, by kernel_rfl⟩ : Fc' Tryz.prog 81 _)
@[reducible,instance] def if83 := (⟨Tryz.func83, by kernel_rfl⟩ : Fc' Tryz.prog 83 _)
@[reducible,instance] def if85 := (⟨Tryz.func85, by kernel_rfl⟩ : Fc' Tryz.prog 85 _)
@[reducible,instance] def if87 := (⟨Tryz.func87, by kernel_rfl⟩ : Fc' Tryz.prog 87 _)
@[reducible,instance] def if89 := (⟨Tryz.func89, by kernel_rfl⟩ : Fc' Tryz.prog 89 _)
@[reducible,instance] def if91 := (⟨Tryz.func91, by kernel_rfl⟩ : Fc' Tryz.prog 91 _)
@[reducible,instance] def if93 := (⟨Tryz.func93, by kernel_rfl⟩ : Fc' Tryz.prog 93 _)
@[reducible,instance] def if95 := (⟨Tryz.func95, by kernel_rfl⟩ : Fc' Tryz.prog 95 _)
@[reducible,instance] def if96 := (⟨Tryz.func96, by kernel_rfl⟩ : Fc' Tryz.prog 96 _)
@[reducible,instance] def if97 := (⟨Tryz.func97, by kernel_rfl⟩ : Fc' Tryz.prog 97 _)
@[reducible,instance] def if99 := (⟨Tryz.func99, by kernel_rfl⟩ : Fc' Tryz.prog 99 _)
@[instance] theorem fd151_0 : Fd' Tryz.prog 151 0 0 := ⟨_, _, Tryz.underlying151, rfl, rfl, nz21⟩
@[instance] theorem fd151_1 : Fd' Tryz.prog 151 1 1 := ⟨_, _, Tryz.underlying151, rfl, rfl, nz21⟩
@[instance] theorem fd26_0 : Fd' Tryz.prog 26 0 0 := ⟨_, _, Tryz.underlying26, rfl, rfl, nz3⟩
@[instance] theorem fd26_1 : Fd' Tryz.prog 26 1 1 := ⟨_, _, Tryz.underlying26, rfl, rfl, nz3⟩
@[instance] theorem fd26_2 : Fd' Tryz.prog 26 2 2 := ⟨_, _, Tryz.underlying26, rfl, rfl, nz24⟩
@[instance] theorem fd28_0 : Fd' Tryz.prog 28 0 0 := ⟨_, _, Tryz.underlying28, rfl, rfl, nz3⟩
@[instance] theorem fd28_1 : Fd' Tryz.prog 28 1 1 := ⟨_, _, Tryz.underlying28, rfl, rfl, nz3⟩
@[instance] theorem fd31_0 : Fd' Tryz.prog 31 0 0 := ⟨_, _, Tryz.underlying31, rfl, rfl, nz3⟩
@[instance] theorem fd31_1 : Fd' Tryz.prog 31 1 1 := ⟨_, _, Tryz.underlying31, rfl, rfl, nz3⟩
@[instance] theorem fd31_2 : Fd' Tryz.prog 31 2 2 := ⟨_, _, Tryz.underlying31, rfl, rfl, nz4⟩
@[instance] theorem fd31_3 : Fd' Tryz.prog 31 3 3 := ⟨_, _, Tryz.underlying31, rfl, rfl, nz4⟩
@[instance] theorem fd31_4 : Fd' Tryz.prog 31 4 4 := ⟨_, _, Tryz.underlying31, rfl, rfl, nz28⟩
@[instance] theorem fd34_0 : Fd' Tryz.prog 34 0 0 := ⟨_, _, Tryz.underlying34, rfl, rfl, nz26⟩
@[instance] theorem fd34_10 : Fd' Tryz.prog 34 10 21 := ⟨_, _, Tryz.underlying34, rfl, rfl, nz4⟩
@[instance] theorem fd34_11 : Fd' Tryz.prog 34 11 22 := ⟨_, _, Tryz.underlying34, rfl, rfl, nz4⟩
@[instance] theorem fd34_12 : Fd' Tryz.prog 34 12 23 := ⟨_, _, Tryz.underlying34, rfl, rfl, nz4⟩
@[instance] theorem fd34_13 : Fd' Tryz.prog 34 13 24 := ⟨_, _, Tryz.underlying34, rfl, rfl, nz4⟩
@[instance] theorem fd34_14 : Fd' Tryz.prog 34 14 25 := ⟨_, _, Tryz.underlying34, rfl, rfl, nz31⟩
@[instance] theorem fd34_15 : Fd' Tryz.prog 34 15 39 := ⟨_, _, Tryz.underlying34, rfl, rfl, nz4⟩
@[instance] theorem fd34_16 : Fd' Tryz.prog 34 16 40 := ⟨_, _, Tryz.underlying34, rfl, rfl, nz26⟩
@[instance] theorem fd34_17 : Fd' Tryz.prog 34 17 43 := ⟨_, _, Tryz.underlying34, rfl, rfl, nz32⟩
@[instance] theorem fd34_1 : Fd' Tryz.prog 34 1 3 := ⟨_, _, Tryz.underlying34, rfl, rfl, nz3⟩
@[instance] theorem fd34_2 : Fd' Tryz.prog 34 2 4 := ⟨_, _, Tryz.underlying34, rfl, rfl, nz3⟩
@[instance] theorem fd34_3 : Fd' Tryz.prog 34 3 5 := ⟨_, _, Tryz.underlying34, rfl, rfl, nz4⟩
@[instance] theorem fd34_4 : Fd' Tryz.prog 34 4 6 := ⟨_, _, Tryz.underlying34, rfl, rfl, nz28⟩
@[instance] theorem fd34_5 : Fd' Tryz.prog 34 5 16 := ⟨_, _, Tryz.underlying34, rfl, rfl, nz3⟩
@[instance] theorem fd34_6 : Fd' Tryz.prog 34 6 17 := ⟨_, _, Tryz.underlying34, rfl, rfl, nz3⟩
@[instance] theorem fd34_7 : Fd' Tryz.prog 34 7 18 := ⟨_, _, Tryz.underlying34, rfl, rfl, nz29⟩
@[instance] theorem fd34_8 : Fd' Tryz.prog 34 8 19 := ⟨_, _, Tryz.underlying34, rfl, rfl, nz4⟩
@[instance] theorem fd34_9 : Fd' Tryz.prog 34 9 20 := ⟨_, _, Tryz.underlying34, rfl, rfl, nz4⟩
@[instance] theorem fd44_0 : Fd' Tryz.prog 44 0 0 := ⟨_, _, Tryz.underlying44, rfl, rfl, nz5⟩
@[instance] theorem fd44_1 : Fd' Tryz.prog 44 1 1 := ⟨_, _, Tryz.underlying44, rfl, rfl, nz3⟩
@[instance] theorem fd44_2 : Fd' Tryz.prog 44 2 2 := ⟨_, _, Tryz.underlying44, rfl, rfl, nz3⟩
@[instance] theorem fd44_3 : Fd' Tryz.prog 44 3 3 := ⟨_, _, Tryz.underlying44, rfl, rfl, nz4⟩
@[instance] theorem fd55_0 : Fd' Tryz.prog 55 0 0 := ⟨_, _, Tryz.underlying55, rfl, rfl, nz21⟩
@[instance] theorem fd55_1 : Fd' Tryz.prog 55 1 1 := ⟨_, _, Tryz.underlying55, rfl, rfl, nz53⟩
@[instance] theorem fd55_2 : Fd' Tryz.prog 55 2 4 := ⟨_, _, Tryz.underlying55, rfl, rfl, nz5⟩
@[instance] theorem fd55_3 : Fd' Tryz.prog 55 3 5 := ⟨_, _, Tryz.underlying55, rfl, rfl, nz28⟩
@[instance] theorem fd84_0 : Fd' Tryz.prog 84 0 0 := ⟨_, _, Tryz.underlying84, rfl, rfl, nz82⟩
@[reducible,instance] def iplc151 := (⟨plc151⟩ : Pl' Tryz.prog 151 _)
@[reducible,instance] def iplc26 := (⟨plc26⟩ : Pl' Tryz.prog 26 _)
@[reducible,instance] def iplc28 := (⟨plc28⟩ : Pl' Tryz.prog 28 _)
@[reducible,instance] def iplc31 := (⟨plc31⟩ : Pl' Tryz.prog 31 _)
@[reducible,instance] def iplc34 := (⟨plc34⟩ : Pl' Tryz.prog 34 _)
@[reducible,instance] def iplc55 := (⟨plc55⟩ : Pl' Tryz.prog 55 _)
@[reducible,instance] def iplc84 := (⟨plc84⟩ : Pl' Tryz.prog 84 _)
@[reducible,instance] def isz138 := (⟨sz138⟩ : Sz' Tryz.prog 138 _)
@[reducible,instance] def isz21 := (⟨sz21⟩ : Sz' Tryz.prog 21 _)
@[reducible,instance] def isz24 := (⟨sz24⟩ : Sz' Tryz.prog 24 _)
@[reducible,instance] def isz26 := (⟨sz26⟩ : Sz' Tryz.prog 26 _)
@[reducible,instance] def isz28 := (⟨sz28⟩ : Sz' Tryz.prog 28 _)
@[reducible,instance] def isz29 := (⟨sz29⟩ : Sz' Tryz.prog 29 _)
@[reducible,instance] def isz3 := (⟨sz3⟩ : Sz' Tryz.prog 3 _)
@[reducible,instance] def isz31 := (⟨sz31⟩ : Sz' Tryz.prog 31 _)
@[reducible,instance] def isz32 := (⟨sz32⟩ : Sz' Tryz.prog 32 _)
@[reducible,instance] def isz34 := (⟨sz34⟩ : Sz' Tryz.prog 34 _)
@[reducible,instance] def isz4 := (⟨sz4⟩ : Sz' Tryz.prog 4 _)
@[reducible,instance] def isz5 := (⟨sz5⟩ : Sz' Tryz.prog 5 _)
@[reducible,instance] def isz53 := (⟨sz53⟩ : Sz' Tryz.prog 53 _)
@[reducible,instance] def isz55 := (⟨sz55⟩ : Sz' Tryz.prog 55 _)
@[reducible,instance] def isz84 := (⟨sz84⟩ : Sz' Tryz.prog 84 _)
@[reducible,instance] def iu116 := (⟨Tryz.underlying116⟩ : Un' Tryz.prog 116 _)
@[reducible,instance] def iu138 := (⟨Tryz.underlying138⟩ : Un' Tryz.prog 138 _)
@[reducible,instance] def iu139 := (⟨Tryz.underlying139⟩ : Un' Tryz.prog 139 _)
@[reducible,instance] def iu141 := (⟨Tryz.underlying141⟩ : Un' Tryz.prog 141 _)
@[reducible,instance] def iu151 := (⟨Tryz.underlying151⟩ : Un' Tryz.prog 151 _)
@[reducible,instance] def iu21 := (⟨Tryz.underlying21⟩ : Un' Tryz.prog 21 _)
@[reducible,instance] def iu24 := (⟨Tryz.underlying24⟩ : Un' Tryz.prog 24 _)
@[reducible,instance] def iu26 := (⟨Tryz.underlying26⟩ : Un' Tryz.prog 26 _)
@[reducible,instance] def iu28 := (⟨Tryz.underlying28⟩ : Un' Tryz.prog 28 _)
@[reducible,instance] def iu29 := (⟨Tryz.underlying29⟩ : Un' Tryz.prog 29 _)
@[reducible,instance] def iu3 := (⟨Tryz.underlying3⟩ : Un' Tryz.prog 3 _)
@[reducible,instance] def iu31 := (⟨Tryz.underlying31⟩ : Un' Tryz.prog 31 _)
@[reducible,instance] def iu32 := (⟨Tryz.underlying32⟩ : Un' Tryz.prog 32 _)
@[reducible,instance] def iu34 := (⟨Tryz.underlying34⟩ : Un' Tryz.prog 34 _)
@[reducible,instance] def iu4 := (⟨Tryz.underlying4⟩ : Un' Tryz.prog 4 _)
@[reducible,instance] def iu5 := (⟨Tryz.underlying5⟩ : Un' Tryz.prog 5 _)
@[reducible,instance] def iu53 := (⟨Tryz.underlying53⟩ : Un' Tryz.prog 53 _)
@[reducible,instance] def iu55 := (⟨Tryz.underlying55⟩ : Un' Tryz.prog 55 _)
@[reducible,instance] def iu78 := (⟨Tryz.underlying78⟩ : Un' Tryz.prog 78 _)
@[reducible,instance] def iu82 := (⟨Tryz.underlying82⟩ : Un' Tryz.prog 82 _)
@[reducible,instance] def iu84 := (⟨Tryz.underlying84⟩ : Un' Tryz.prog 84 _)
@[reducible,instance] def izero138 := (⟨zero138⟩ : Ze' Tryz.prog 138 _)
@[reducible,instance] def izero139 := (⟨zero139⟩ : Ze' Tryz.prog 139 _)
@[reducible,instance] def izero141 := (⟨zero141⟩ : Ze' Tryz.prog 141 _)
@[reducible,instance] def izero151 := (⟨zero151⟩ : Ze' Tryz.prog 151 _)
@[reducible,instance] def izero26 := (⟨zero26⟩ : Ze' Tryz.prog 26 _)
@[reducible,instance] def izero28 := (⟨zero28⟩ : Ze' Tryz.prog 28 _)
@[reducible,instance] def izero31 := (⟨zero31⟩ : Ze' Tryz.prog 31 _)
@[reducible,instance] def izero34 := (⟨zero34⟩ : Ze' Tryz.prog 34 _)
@[reducible,instance] def izero53 := (⟨zero53⟩ : Ze' Tryz.prog 53 _)
@[reducible,instance] def izero55 := (⟨zero55⟩ : Ze' Tryz.prog 55 _)
@[reducible,instance] def izero78 := (⟨zero78⟩ : Ze' Tryz.prog 78 _)
@[reducible,instance] def izero84 := (⟨zero84⟩ : Ze' Tryz.prog 84 _)
end Go.Proofs.YtckilbegmbaeeaaGreat.Z5

/- What the texts of the functions use: types, kinds, facts of the program. -/
import Derived.Test.YtckilbegmbaeeaaGreatProg
import Derived.Test.YtckilbegmbaeeaaGreatZ3S1
namespace Go.Proofs.YtckilbegmbaeeaaGreat.Z3
open Go Go.RowKit Go.Proofs.YtckilbegmbaeeaaGreat.SL
set_option linter.unusedVariables false
set_option linter.unusedSimpArgs false
attribute [local irreducible] IntKind.wrap cC dO eX gp gl lH fU cN gm rd sub bytesOf eG cL
structure wc where
  f0 : Int
  f1 : Int
  deriving Inhabited, DecidableEq
structure fR where
  f0 : Int
  f1 : Int
  f2 : Int
  deriving Inhabited, DecidableEq
structure cA where
  f0 : Int
  f1 : Int
  f2 : Bool
  f3 : Bool
  f4 : Bool
  f5 : Bool
  f6 : Bool
  f7 : Bool
  f8 : Bool
  f9 : Bool
  deriving Inhabited, DecidableEq
structure aZ where
  f0 : Int
  f1 : fR
  f2 : Int
  f3 : cA
  deriving Inhabited, DecidableEq
structure bF where
  f0 : Int
  f1 : Int
  f2 : (List aZ)
  deriving Inhabited, DecidableEq
structure dq where
  f0 : Int
  f1 : Int
  f2 : Bool
  f3 : Bool
  f4 : cA
  deriving Inhabited, DecidableEq
structure aG where
  f0 : bF
  f1 : Int
  f2 : Int
  f3 : Bool
  f4 : cA
  f5 : Int
  f6 : Int
  f7 : (List Int)
  f8 : Bool
  f9 : Bool
  f10 : Bool
  f11 : Bool
  f12 : Bool
  f13 : Bool
  f14 : dq
  f15 : Bool
  f16 : bF
  f17 : (List Int)
  deriving Inhabited, DecidableEq
structure pM where
  f0 : Int
  f1 : Int
  f2 : Int
  f3 : Bool
  deriving Inhabited, DecidableEq
structure aY where
  f0 : Int
  f1 : Int
  deriving Inhabited, DecidableEq
structure bS where
  f0 : Int
  f1 : Int
  deriving Inhabited, DecidableEq
abbrev bG (x : cA) : List Value := [.int .i64 x.f0, .int .i64 x.f1, .bool x.f2, .bool x.f3, .bool x.f4, .bool x.f5, .bool x.f6, .bool x.f7, .bool x.f8, .bool x.f9]
abbrev bR (x : aZ) : List Value := (.int .i32 x.f0 :: .int .i32 x.f1.f0 :: .int .i32 x.f1.f1 :: .int .i32 x.f1.f2 :: .int .u8 x.f2 :: .int .i64 x.f3.f0 :: .int .i64 x.f3.f1 :: .bool x.f3.f2 :: .bool x.f3.f3 :: .bool x.f3.f4 :: .bool x.f3.f5 :: .bool x.f3.f6 :: .bool x.f3.f7 :: .bool x.f3.f8 :: .bool x.f3.f9 :: [])
abbrev jU (x : dq) : List Value := (.int .i64 x.f0 :: .int .i64 x.f1 :: .bool x.f2 :: .bool x.f3 :: .int .i64 x.f4.f0 :: .int .i64 x.f4.f1 :: .bool x.f4.f2 :: .bool x.f4.f3 :: .bool x.f4.f4 :: .bool x.f4.f5 :: .bool x.f4.f6 :: .bool x.f4.f7 :: .bool x.f4.f8 :: .bool x.f4.f9 :: [])
abbrev al (x : aG) (A1 : Option Addr) (c2 : Nat) (A4 : Option Addr) (c5 : Nat) (A7 : Option Addr) (c8 : Nat) (A10 : Option Addr) (c11 : Nat) : List Value := (.int .i64 x.f0.f0 :: .int .i64 x.f0.f1 :: .slice A1 x.f0.f2.length c2 :: .int .i64 x.f1 :: .int .i64 x.f2 :: .bool x.f3 :: .int .i64 x.f4.f0 :: .int .i64 x.f4.f1 :: .bool x.f4.f2 :: .bool x.f4.f3 :: .bool x.f4.f4 :: .bool x.f4.f5 :: .bool x.f4.f6 :: .bool x.f4.f7 :: .bool x.f4.f8 :: .bool x.f4.f9 :: .int .i64 x.f5 :: .int .i64 x.f6 :: .slice A4 x.f7.length c5 :: .bool x.f8 :: .bool x.f9 :: .bool x.f10 :: .bool x.f11 :: .bool x.f12 :: .bool x.f13 :: .int .i64 x.f14.f0 :: .int .i64 x.f14.f1 :: .bool x.f14.f2 :: .bool x.f14.f3 :: .int .i64 x.f14.f4.f0 :: .int .i64 x.f14.f4.f1 :: .bool x.f14.f4.f2 :: .bool x.f14.f4.f3 :: .bool x.f14.f4.f4 :: .bool x.f14.f4.f5 :: .bool x.f14.f4.f6 :: .bool x.f14.f4.f7 :: .bool x.f14.f4.f8 :: .bool x.f14.f4.f9 :: .bool x.f15 :: .int .i64 x.f16.f0 :: .int .i64 x.f16.f1 :: .slice A7 x.f16.f2.length c8 :: .slice A10 x.f17.length c11 :: [])
def vT (x : wc) : List Value := [.int .i64 x.f0, .int .i64 x.f1]
def EL : Kd wc := Kd.fl 2 vT (fun _ => rfl) (fun x v h => by simp only [vT, List.mem_cons, List.not_mem_nil, or_false] at h; rcases h with rfl | rfl <;> rfl)
def vE (x : fR) : List Value := [.int .i32 x.f0, .int .i32 x.f1, .int .i32 x.f2]
def Gz : Kd fR := Kd.fl 3 vE (fun _ => rfl) (fun x v h => by simp only [vE, List.mem_cons, List.not_mem_nil, or_false] at h; rcases h with rfl | rfl | rfl <;> rfl)
def vY (x : cA) : List Value := [.int .i64 x.f0, .int .i64 x.f1, .bool x.f2, .bool x.f3, .bool x.f4, .bool x.f5, .bool x.f6, .bool x.f7, .bool x.f8, .bool x.f9]
def vM : Kd cA := Kd.fl 10 vY (fun _ => rfl) (fun x v h => by simp only [vY, List.mem_cons, List.not_mem_nil, or_false] at h; rcases h with rfl | rfl | rfl | rfl | rfl | rfl | rfl | rfl | rfl | rfl <;> rfl)
def di (x : aZ) : List Value := (.int .i32 x.f0 :: .int .i32 x.f1.f0 :: .int .i32 x.f1.f1 :: .int .i32 x.f1.f2 :: .int .u8 x.f2 :: .int .i64 x.f3.f0 :: .int .i64 x.f3.f1 :: .bool x.f3.f2 :: .bool x.f3.f3 :: .bool x.f3.f4 :: .bool x.f3.f5 :: .bool x.f3.f6 :: .bool x.f3.f7 :: .bool x.f3.f8 :: .bool x.f3.f9 :: [])
def bE : Kd aZ := Kd.fl 15 di (fun _ => rfl) (fun x v h => by simp only [di, List.mem_cons, List.not_mem_nil, or_false] at h; rcases h with rfl | rfl | rfl | rfl | rfl | rfl | rfl | rfl | rfl | rfl | rfl | rfl | rfl | rfl | rfl <;> rfl)
def FZ (x : bF) (cs_ : List Value) (Bs_ : List bu) : Prop := ∃ (a : Option Addr) (c2 : Nat), cs_ = [.int .i64 x.f0, .int .i64 x.f1, .slice a x.f2.length c2] ∧ Bs_ = [Ro bE a c2 x.f2]
def Gu : Kd bF := Kd.ofD 3 FZ (fun ⟨_, _, e, _⟩ => by rw [e]; rfl) (fun ⟨_, _, e, _⟩ v h => by rw [e] at h; simp only [List.mem_cons, List.not_mem_nil, or_false] at h; rcases h with rfl | rfl | rfl <;> rfl)
def tj (x : dq) : List Value := (.int .i64 x.f0 :: .int .i64 x.f1 :: .bool x.f2 :: .bool x.f3 :: .int .i64 x.f4.f0 :: .int .i64 x.f4.f1 :: .bool x.f4.f2 :: .bool x.f4.f3 :: .bool x.f4.f4 :: .bool x.f4.f5 :: .bool x.f4.f6 :: .bool x.f4.f7 :: .bool x.f4.f8 :: .bool x.f4.f9 :: [])
def xH : Kd dq := Kd.fl 14 tj (fun _ => rfl) (fun x v h => by simp only [tj, List.mem_cons, List.not_mem_nil, or_false] at h; rcases h with rfl | rfl | rfl | rfl | rfl | rfl | rfl | rfl | rfl | rfl | rfl | rfl | rfl | rfl <;> rfl)
def DF (x : aG) (cs_ : List Value) (Bs_ : List bu) : Prop := ∃ (c : Option Addr) (c2 : Nat), ∃ (d : Option Addr) (h : Nat), ∃ (j : Option Addr) (l : Nat), ∃ (a : Option Addr) (b : Nat), cs_ = (.int .i64 x.f0.f0 :: .int .i64 x.f0.f1 :: .slice c x.f0.f2.length c2 :: .int .i64 x.f1 :: .int .i64 x.f2 :: .bool x.f3 :: .int .i64 x.f4.f0 :: .int .i64 x.f4.f1 :: .bool x.f4.f2 :: .bool x.f4.f3 :: .bool x.f4.f4 :: .bool x.f4.f5 :: .bool x.f4.f6 :: .bool x.f4.f7 :: .bool x.f4.f8 :: .bool x.f4.f9 :: .int .i64 x.f5 :: .int .i64 x.f6 :: .slice d x.f7.length h :: .bool x.f8 :: .bool x.f9 :: .bool x.f10 :: .bool x.f11 :: .bool x.f12 :: .bool x.f13 :: .int .i64 x.f14.f0 :: .int .i64 x.f14.f1 :: .bool x.f14.f2 :: .bool x.f14.f3 :: .int .i64 x.f14.f4.f0 :: .int .i64 x.f14.f4.f1 :: .bool x.f14.f4.f2 :: .bool x.f14.f4.f3 :: .bool x.f14.f4.f4 :: .bool x.f14.f4.f5 :: .bool x.f14.f4.f6 :: .bool x.f14.f4.f7 :: .bool x.f14.f4.f8 :: .bool x.f14.f4.f9 :: .bool x.f15 :: .int .i64 x.f16.f0 :: .int .i64 x.f16.f1 :: .slice j x.f16.f2.length l :: .slice a x.f17.length b :: []) ∧ Bs_ = [Ro bE c c2 x.f0.f2, Ro (Kd.int .i64) d h x.f7, Ro bE j l x.f16.f2, Ro (Kd.int .i32) a b x.f17]
def Gy : Kd aG := Kd.ofD 44 DF (fun ⟨_, _, _, _, _, _, _, _, e, _⟩ => by rw [e]; rfl) (fun ⟨_, _, _, _, _, _, _, _, e, _⟩ v h => by rw [e] at h; simp only [List.mem_cons, List.not_mem_nil, or_false] at h; rcases h with rfl | rfl | rfl | rfl | rfl | rfl | rfl | rfl | rfl | rfl | rfl | rfl | rfl | rfl | rfl | rfl | rfl | rfl | rfl | rfl | rfl | rfl | rfl | rfl | rfl | rfl | rfl | rfl | rfl | rfl | rfl | rfl | rfl | rfl | rfl | rfl | rfl | rfl | rfl | rfl | rfl | rfl | rfl | rfl <;> rfl)
def rQ (x : pM) : List Value := [.int .u8 x.f0, .int .i64 x.f1, .int .i64 x.f2, .bool x.f3]
def tS : Kd pM := Kd.fl 4 rQ (fun _ => rfl) (fun x v h => by simp only [rQ, List.mem_cons, List.not_mem_nil, or_false] at h; rcases h with rfl | rfl | rfl | rfl <;> rfl)
def eP (x : aY) : List Value := [.int .i32 x.f0, .int .i32 x.f1]
def uH : Kd aY := Kd.fl 2 eP (fun _ => rfl) (fun x v h => by simp only [eP, List.mem_cons, List.not_mem_nil, or_false] at h; rcases h with rfl | rfl <;> rfl)
def mP (x : bS) : List Value := [.int .i32 x.f0, .int .i32 x.f1]
def qB : Kd bS := Kd.fl 2 mP (fun _ => rfl) (fun x v h => by simp only [mP, List.mem_cons, List.not_mem_nil, or_false] at h; rcases h with rfl | rfl <;> rfl)
theorem jG : (Tryz.prog.info? 3).map (·.size) = some 1 := by kernel_rfl
theorem sZ : ((Tryz.prog.info? 3).map fun i => decide (i.size = 0)) = some false := by kernel_rfl
theorem Fx : (Tryz.prog.info? 4).map (·.size) = some 1 := by kernel_rfl
theorem tf : ((Tryz.prog.info? 4).map fun i => decide (i.size = 0)) = some false := by kernel_rfl
theorem Gs : (Tryz.prog.info? 5).map (·.size) = some 1 := by kernel_rfl
theorem Dt : ((Tryz.prog.info? 5).map fun i => decide (i.size = 0)) = some false := by kernel_rfl
theorem kP : (Tryz.prog.info? 21).map (·.size) = some 1 := by kernel_rfl
theorem wS : ((Tryz.prog.info? 21).map fun i => decide (i.size = 0)) = some false := by kernel_rfl
theorem Bo : (Tryz.prog.info? 24).map (·.size) = some 1 := by kernel_rfl
theorem AC : ((Tryz.prog.info? 24).map fun i => decide (i.size = 0)) = some false := by kernel_rfl
theorem uU : (Tryz.prog.info? 26).map (·.size) = some 3 := by kernel_rfl
theorem yr : ((Tryz.prog.info? 26).map fun i => decide (i.size = 0)) = some false := by kernel_rfl
theorem mZ : (Tryz.prog.info? 28).map (·.size) = some 10 := by kernel_rfl
theorem wN : ((Tryz.prog.info? 28).map fun i => decide (i.size = 0)) = some false := by kernel_rfl
theorem AZ : (Tryz.prog.info? 29).map (·.size) = some 1 := by kernel_rfl
theorem Be : ((Tryz.prog.info? 29).map fun i => decide (i.size = 0)) = some false := by kernel_rfl
theorem ya : (Tryz.prog.info? 31).map (·.size) = some 14 := by kernel_rfl
theorem zG : ((Tryz.prog.info? 31).map fun i => decide (i.size = 0)) = some false := by kernel_rfl
theorem Bb : (Tryz.prog.info? 32).map (·.size) = some 1 := by kernel_rfl
theorem Bu : ((Tryz.prog.info? 32).map fun i => decide (i.size = 0)) = some false := by kernel_rfl
theorem sD : (Tryz.prog.info? 34).map (·.size) = some 44 := by kernel_rfl
theorem vr : (Tryz.prog.info? 44).map (·.size) = some 4 := by kernel_rfl
theorem Bi : (Tryz.prog.info? 53).map (·.size) = some 3 := by kernel_rfl
theorem Ab : ((Tryz.prog.info? 53).map fun i => decide (i.size = 0)) = some false := by kernel_rfl
theorem cl : (Tryz.prog.info? 55).map (·.size) = some 15 := by kernel_rfl
theorem Ag : ((Tryz.prog.info? 82).map fun i => decide (i.size = 0)) = some false := by kernel_rfl
theorem zM : (Tryz.prog.info? 84).map (·.size) = some 1 := by kernel_rfl
theorem qE : (Tryz.prog.info? 138).map (·.size) = some 2 := by kernel_rfl
theorem ub : (Tryz.prog.info? 139).map (·.size) = some 74 := by kernel_rfl
theorem tY : (Tryz.prog.info? 141).map (·.size) = some 52 := by kernel_rfl
theorem sn : (Tryz.prog.info? 151).map (·.size) = some 2 := by kernel_rfl
theorem ot : (Tryz.prog.info? 3).bind (·.zero) = some (.int .i64 0) := by kernel_rfl
theorem qA : (Tryz.prog.info? 3).map (fun i => (i.zero, i.size, i.bytes)) = some (some (.int .i64 0), 1, 8) := by kernel_rfl
theorem tW : (Tryz.prog.info? 21).bind (·.zero) = some (.int .i32 0) := by kernel_rfl
theorem vI : (Tryz.prog.info? 21).map (fun i => (i.zero, i.size, i.bytes)) = some (some (.int .i32 0), 1, 4) := by kernel_rfl
theorem xu : (Tryz.prog.info? 26).bind (·.zero) = some (.agg #[.int .i64 0, .int .i64 0, .slice none 0 0]) := by kernel_rfl
theorem xw : (Tryz.prog.info? 28).bind (·.zero) = some (.agg #[.int .i64 0, .int .i64 0, .bool false, .bool false, .bool false, .bool false, .bool false, .bool false, .bool false, .bool false]) := by kernel_rfl
theorem xa : (Tryz.prog.info? 31).bind (·.zero) = some (.agg (List.toArray (.int .i64 0 :: .int .i64 0 :: .bool false :: .bool false :: .int .i64 0 :: .int .i64 0 :: .bool false :: .bool false :: .bool false :: .bool false :: .bool false :: .bool false :: .bool false :: .bool false :: []))) := by kernel_rfl
theorem lm : (Tryz.prog.info? 34).bind (·.zero) = some (.agg (List.toArray (.int .i64 0 :: .int .i64 0 :: .slice none 0 0 :: .int .i64 0 :: .int .i64 0 :: .bool false :: .int .i64 0 :: .int .i64 0 :: .bool false :: .bool false :: .bool false :: .bool false :: .bool false :: .bool false :: .bool false :: .bool false :: .int .i64 0 :: .int .i64 0 :: .slice none 0 0 :: .bool false :: .bool false :: .bool false :: .bool false :: .bool false :: .bool false :: .int .i64 0 :: .int .i64 0 :: .bool false :: .bool false :: .int .i64 0 :: .int .i64 0 :: .bool false :: .bool false :: .bool false :: .bool false :: .bool false :: .bool false :: .bool false :: .bool false :: .bool false :: .int .i64 0 :: .int .i64 0 :: .slice none 0 0 :: .slice none 0 0 :: []))) := by kernel_rfl
theorem wH : (Tryz.prog.info? 53).bind (·.zero) = some (.agg #[.int .i32 0, .int .i32 0, .int .i32 0]) := by kernel_rfl
theorem jX : (Tryz.prog.info? 55).bind (·.zero) = some (.agg (List.toArray (.int .i32 0 :: .int .i32 0 :: .int .i32 0 :: .int .i32 0 :: .int .u8 0 :: .int .i64 0 :: .int .i64 0 :: .bool false :: .bool false :: .bool false :: .bool false :: .bool false :: .bool false :: .bool false :: .bool false :: []))) := by kernel_rfl
theorem nl : (Tryz.prog.info? 55).map (fun i => (i.zero, i.size, i.bytes)) = some (some (.agg (List.toArray (.int .i32 0 :: .int .i32 0 :: .int .i32 0 :: .int .i32 0 :: .int .u8 0 :: .int .i64 0 :: .int .i64 0 :: .bool false :: .bool false :: .bool false :: .bool false :: .bool false :: .bool false :: .bool false :: .bool false :: []))), 15, 48) := by kernel_rfl
theorem xr : (Tryz.prog.info? 78).bind (·.zero) = some (.agg (List.toArray (.int .i64 0 :: .int .i64 0 :: .bool false :: .bool false :: .int .i64 0 :: .int .i64 0 :: .bool false :: .bool false :: .bool false :: .bool false :: .bool false :: .bool false :: .bool false :: .bool false :: .int .i64 0 :: .int .i64 0 :: .bool false :: .bool false :: .int .i64 0 :: .int .i64 0 :: .bool false :: .bool false :: .bool false :: .bool false :: .bool false :: .bool false :: .bool false :: .bool false :: []))) := by kernel_rfl
theorem wn : (Tryz.prog.info? 84).bind (·.zero) = some (.agg #[.pointer none]) := by kernel_rfl
theorem uF : (Tryz.prog.info? 138).bind (·.zero) = some (.agg #[.int .i32 0, .int .i32 0]) := by kernel_rfl
theorem uL : (Tryz.prog.info? 139).bind (·.zero) = some (.agg (List.flatMap eP ((aY.mk 0 0) :: (aY.mk 0 0) :: (aY.mk 0 0) :: (aY.mk 0 0) :: (aY.mk 0 0) :: (aY.mk 0 0) :: (aY.mk 0 0) :: (aY.mk 0 0) :: (aY.mk 0 0) :: (aY.mk 0 0) :: (aY.mk 0 0) :: (aY.mk 0 0) :: (aY.mk 0 0) :: (aY.mk 0 0) :: (aY.mk 0 0) :: (aY.mk 0 0) :: (aY.mk 0 0) :: (aY.mk 0 0) :: (aY.mk 0 0) :: (aY.mk 0 0) :: (aY.mk 0 0) :: (aY.mk 0 0) :: (aY.mk 0 0) :: (aY.mk 0 0) :: (aY.mk 0 0) :: (aY.mk 0 0) :: (aY.mk 0 0) :: (aY.mk 0 0) :: (aY.mk 0 0) :: (aY.mk 0 0) :: (aY.mk 0 0) :: (aY.mk 0 0) :: (aY.mk 0 0) :: (aY.mk 0 0) :: (aY.mk 0 0) :: (aY.mk 0 0) :: (aY.mk 0 0) :: [])).toArray) := by kernel_rfl
theorem uY : (Tryz.prog.info? 141).bind (·.zero) = some (.agg (List.flatMap eP ((aY.mk 0 0) :: (aY.mk 0 0) :: (aY.mk 0 0) :: (aY.mk 0 0) :: (aY.mk 0 0) :: (aY.mk 0 0) :: (aY.mk 0 0) :: (aY.mk 0 0) :: (aY.mk 0 0) :: (aY.mk 0 0) :: (aY.mk 0 0) :: (aY.mk 0 0) :: (aY.mk 0 0) :: (aY.mk 0 0) :: (aY.mk 0 0) :: (aY.mk 0 0) :: (aY.mk 0 0) :: (aY.mk 0 0) :: (aY.mk 0 0) :: (aY.mk 0 0) :: (aY.mk 0 0) :: (aY.mk 0 0) :: (aY.mk 0 0) :: (aY.mk 0 0) :: (aY.mk 0 0) :: (aY.mk 0 0) :: [])).toArray) := by kernel_rfl
theorem pK : (Tryz.prog.info? 151).bind (·.zero) = some (.agg #[.int .i32 0, .int .i32 0]) := by kernel_rfl
theorem yV : ∀ fs, Tryz.prog.underlying 26 = some (.struct fs) → ∀ w, (fs.mapM (fun f => do pure (f.offset, ← sizeOf f.type) : Field → Sem (Nat × Nat))).run Tryz.prog w = .ok ([(0, 1), (1, 1), (2, 1)] : List (Nat × Nat)).toArray w := fun fs h w => by rw [Tryz.underlying26] at h; cases h; kernel_rfl
theorem xG : ∀ fs, Tryz.prog.underlying 28 = some (.struct fs) → ∀ w, (fs.mapM (fun f => do pure (f.offset, ← sizeOf f.type) : Field → Sem (Nat × Nat))).run Tryz.prog w = .ok ([(0, 1), (1, 1), (2, 1), (3, 1), (4, 1), (5, 1), (6, 1), (7, 1), (8, 1), (9, 1)] : List (Nat × Nat)).toArray w := fun fs h w => by rw [Tryz.underlying28] at h; cases h; kernel_rfl
theorem yZ : ∀ fs, Tryz.prog.underlying 31 = some (.struct fs) → ∀ w, (fs.mapM (fun f => do pure (f.offset, ← sizeOf f.type) : Field → Sem (Nat × Nat))).run Tryz.prog w = .ok ([(0, 1), (1, 1), (2, 1), (3, 1), (4, 10)] : List (Nat × Nat)).toArray w := fun fs h w => by rw [Tryz.underlying31] at h; cases h; kernel_rfl
theorem yx : ∀ fs, Tryz.prog.underlying 34 = some (.struct fs) → ∀ w, (fs.mapM (fun f => do pure (f.offset, ← sizeOf f.type) : Field → Sem (Nat × Nat))).run Tryz.prog w = .ok (((0, 3) :: (3, 1) :: (4, 1) :: (5, 1) :: (6, 10) :: (16, 1) :: (17, 1) :: (18, 1) :: (19, 1) :: (20, 1) :: (21, 1) :: (22, 1) :: (23, 1) :: (24, 1) :: (25, 14) :: (39, 1) :: (40, 3) :: (43, 1) :: []) : List (Nat × Nat)).toArray w := fun fs h w => by rw [Tryz.underlying34] at h; cases h; kernel_rfl
theorem yO : ∀ fs, Tryz.prog.underlying 55 = some (.struct fs) → ∀ w, (fs.mapM (fun f => do pure (f.offset, ← sizeOf f.type) : Field → Sem (Nat × Nat))).run Tryz.prog w = .ok ([(0, 1), (1, 3), (4, 1), (5, 10)] : List (Nat × Nat)).toArray w := fun fs h w => by rw [Tryz.underlying55] at h; cases h; kernel_rfl
theorem xF : ∀ fs, Tryz.prog.underlying 84 = some (.struct fs) → ∀ w, (fs.mapM (fun f => do pure (f.offset, ← sizeOf f.type) : Field → Sem (Nat × Nat))).run Tryz.prog w = .ok ([(0, 1)] : List (Nat × Nat)).toArray w := fun fs h w => by rw [Tryz.underlying84] at h; cases h; kernel_rfl
theorem wq : ∀ fs, Tryz.prog.underlying 151 = some (.struct fs) → ∀ w, (fs.mapM (fun f => do pure (f.offset, ← sizeOf f.type) : Field → Sem (Nat × Nat))).run Tryz.prog w = .ok ([(0, 1), (1, 1)] : List (Nat × Nat)).toArray w := fun fs h w => by rw [Tryz.underlying151] at h; cases h; kernel_rfl
theorem ng : Tryz.prog.eqGuardType Tryz.prog.depth 28 = false := by kernel_rfl
theorem nh {x y : cA} : (((x.f0 == y.f0) && ((x.f1 == y.f1) && ((x.f2 == y.f2) && ((x.f3 == y.f3) && ((x.f4 == y.f4) && ((x.f5 == y.f5) && ((x.f6 == y.f6) && ((x.f7 == y.f7) && ((x.f8 == y.f8) && ((x.f9 == y.f9) && true)))))))))) : Bool) = decide (x = y) := by
  obtain ⟨_, _, _, _, _, _, _, _, _, _⟩ := x; obtain ⟨_, _, _, _, _, _, _, _, _, _⟩ := y; rw [Bool.eq_iff_iff]; simp [and_assoc]
theorem yU : Tryz.prog.eqGuardType Tryz.prog.depth 31 = false := by kernel_rfl
theorem yn {x y : dq} : (((x.f0 == y.f0) && ((x.f1 == y.f1) && ((x.f2 == y.f2) && ((x.f3 == y.f3) && (((x.f4.f0 == y.f4.f0) && ((x.f4.f1 == y.f4.f1) && ((x.f4.f2 == y.f4.f2) && ((x.f4.f3 == y.f4.f3) && ((x.f4.f4 == y.f4.f4) && ((x.f4.f5 == y.f4.f5) && ((x.f4.f6 == y.f4.f6) && ((x.f4.f7 == y.f4.f7) && ((x.f4.f8 == y.f4.f8) && ((x.f4.f9 == y.f4.f9) && true)))))))))) && true))))) : Bool) = decide (x = y) := by
  obtain ⟨_, _, _, _, ⟨_, _, _, _, _, _, _, _, _, _⟩⟩ := x; obtain ⟨_, _, _, _, ⟨_, _, _, _, _, _, _, _, _, _⟩⟩ := y; rw [Bool.eq_iff_iff]; simp [and_assoc]
theorem vC : Tryz.prog.eqGuardType Tryz.prog.depth 53 = false := by kernel_rfl
theorem vH {x y : fR} : (((x.f0 == y.f0) && ((x.f1 == y.f1) && ((x.f2 == y.f2) && true))) : Bool) = decide (x = y) := by
  obtain ⟨_, _, _⟩ := x; obtain ⟨_, _, _⟩ := y; rw [Bool.eq_iff_iff]; simp [and_assoc]
theorem vN : Tryz.prog.eqGuardType Tryz.prog.depth 55 = false := by kernel_rfl
theorem vR {x y : aZ} : (((x.f0 == y.f0) && (((x.f1.f0 == y.f1.f0) && ((x.f1.f1 == y.f1.f1) && ((x.f1.f2 == y.f1.f2) && true))) && ((x.f2 == y.f2) && (((x.f3.f0 == y.f3.f0) && ((x.f3.f1 == y.f3.f1) && ((x.f3.f2 == y.f3.f2) && ((x.f3.f3 == y.f3.f3) && ((x.f3.f4 == y.f3.f4) && ((x.f3.f5 == y.f3.f5) && ((x.f3.f6 == y.f3.f6) && ((x.f3.f7 == y.f3.f7) && ((x.f3.f8 == y.f3.f8) && ((x.f3.f9 == y.f3.f9) && true)))))))))) && true)))) : Bool) = decide (x = y) := by
  obtain ⟨_, ⟨_, _, _⟩, _, ⟨_, _, _, _, _, _, _, _, _, _⟩⟩ := x; obtain ⟨_, ⟨_, _, _⟩, _, ⟨_, _, _, _, _, _, _, _, _, _⟩⟩ := y; rw [Bool.eq_iff_iff]; simp [and_assoc]
theorem jy : Tryz.prog.follows .mixedOrders = true := by kernel_rfl
instance : Dc Tryz.prog:=⟨jy⟩
theorem zW : (Tryz.f61.name == "runtime.NumGoroutine") = false := by kernel_rfl
theorem AI : (Tryz.f63.name == "runtime.NumGoroutine") = false := by kernel_rfl
theorem zN : (Tryz.f72.name == "runtime.NumGoroutine") = false := by kernel_rfl
theorem AB : (Tryz.f74.name == "runtime.NumGoroutine") = false := by kernel_rfl
theorem Am : (Tryz.f76.name == "runtime.NumGoroutine") = false := by kernel_rfl
theorem Br : (Tryz.f78.name == "runtime.NumGoroutine") = false := by kernel_rfl
theorem Bq : (Tryz.f80.name == "runtime.NumGoroutine") = false := by kernel_rfl
theorem Ay : (Tryz.f82.name == "runtime.NumGoroutine") = false := by kernel_rfl
theorem AU : (Tryz.f84.name == "runtime.NumGoroutine") = false := by kernel_rfl
theorem zU : (Tryz.f86.name == "runtime.NumGoroutine") = false := by kernel_rfl
theorem AG : (Tryz.f88.name == "runtime.NumGoroutine") = false := by kernel_rfl
theorem zI : (Tryz.f90.name == "runtime.NumGoroutine") = false := by kernel_rfl
theorem AP : (Tryz.f92.name == "runtime.NumGoroutine") = false := by kernel_rfl
theorem zE : (Tryz.f94.name == "runtime.NumGoroutine") = false := by kernel_rfl
theorem yM : (Tryz.f155.name == "runtime.NumGoroutine") = false := by kernel_rfl
theorem wb : (Tryz.f157.name == "runtime.NumGoroutine") = false := by kernel_rfl
abbrev aS (x : aG) (A0 : Option Addr) (c0 : Nat) (A1 : Option Addr) (c1 : Nat) (A2 : Option Addr) (c2 : Nat) (A3 : Option Addr) (c3 : Nat) : List bu := [Buf bE 55 A0 c0 x.f0.f2, fm 3 A1 c1 x.f7, Buf bE 55 A2 c2 x.f16.f2, jf 21 A3 c3 x.f17]
abbrev cK (b : Nat) (x : aG) (A0 : Option Addr) (c0 : Nat) (A1 : Option Addr) (c1 : Nat) (A2 : Option Addr) (c2 : Nat) (A3 : Option Addr) (c3 : Nat) : List bu := aL b 34 (al x A0 c0 A1 c1 A2 c2 A3 c3) :: aS x A0 c0 A1 c1 A2 c2 A3 c3
abbrev eK (x : aG) (A0 : Option Addr) (c0 : Nat) (A1 : Option Addr) (c1 : Nat) (A2 : Option Addr) (c2 : Nat) (A3 : Option Addr) (c3 : Nat) : List bu := [Ro bE A0 c0 x.f0.f2, yY A1 c1 x.f7, Ro bE A2 c2 x.f16.f2, vj A3 c3 x.f17]
abbrev kD (b : Nat) (x : aG) (A0 : Option Addr) (c0 : Nat) (A1 : Option Addr) (c1 : Nat) (A2 : Option Addr) (c2 : Nat) (A3 : Option Addr) (c3 : Nat) : List bu := aL b 34 (al x A0 c0 A1 c1 A2 c2 A3 c3) :: eK x A0 c0 A1 c1 A2 c2 A3 c3
abbrev cx : aG := (aG.mk (bF.mk 0 0 ([] : (List aZ))) 0 0 false (cA.mk 0 0 false false false false false false false false) 0 0 ([] : (List Int)) false false false false false false (dq.mk 0 0 false false (cA.mk 0 0 false false false false false false false false)) false (bF.mk 0 0 ([] : (List aZ))) ([] : (List Int)))
abbrev lP : aZ := (aZ.mk 0 (fR.mk 0 0 0) 0 (cA.mk 0 0 false false false false false false false false))
abbrev sM : dq := (dq.mk 0 0 false false (cA.mk 0 0 false false false false false false false false))
abbrev fQ : cA := (cA.mk 0 0 false false false false false false false false)
abbrev nE : bF := (bF.mk 0 0 ([] : (List aZ)))
@[reducible,instance] def Gg := (⟨Tryz.func10, by kernel_rfl⟩ : dw Tryz.prog 10 _)
@[reducible,instance] def Dn := (⟨Tryz.func100, by kernel_rfl⟩ : dw Tryz.prog 100 _)
@[reducible,instance] def Cg := (⟨Tryz.func101, by kernel_rfl⟩ : dw Tryz.prog 101 _)
@[reducible,instance] def CK := (⟨Tryz.func102, by kernel_rfl⟩ : dw Tryz.prog 102 _)
@[reducible,instance] def CJ := (⟨Tryz.func103, by kernel_rfl⟩ : dw Tryz.prog 103 _)
@[reducible,instance] def Dq := (⟨Tryz.func104, by kernel_rfl⟩ : dw Tryz.prog 104 _)
@[reducible,instance] def DC := (⟨Tryz.func105, by kernel_rfl⟩ : dw Tryz.prog 105 _)
@[reducible,instance] def CR := (⟨Tryz.func106, by kernel_rfl⟩ : dw Tryz.prog 106 _)
@[reducible,instance] def Dg := (⟨Tryz.func107, by kernel_rfl⟩ : dw Tryz.prog 107 _)
@[reducible,instance] def CB := (⟨Tryz.func108, by kernel_rfl⟩ : dw Tryz.prog 108 _)
@[reducible,instance] def Dy := (⟨Tryz.func109, by kernel_rfl⟩ : dw Tryz.prog 109 _)
@[reducible,instance] def Fl := (⟨Tryz.func11, by kernel_rfl⟩ : dw Tryz.prog 11 _)
@[reducible,instance] def Dx := (⟨Tryz.func110, by kernel_rfl⟩ : dw Tryz.prog 110 _)
@[reducible,instance] def BD := (⟨Tryz.func111, by kernel_rfl⟩ : dw Tryz.prog 111 _)
@[reducible,instance] def BF := (⟨Tryz.func112, by kernel_rfl⟩ : dw Tryz.prog 112 _)
@[reducible,instance] def Du := (⟨Tryz.func113, by kernel_rfl⟩ : dw Tryz.prog 113 _)
@[reducible,instance] def Cp := (⟨Tryz.func114, by kernel_rfl⟩ : dw Tryz.prog 114 _)
@[reducible,instance] def BZ := (⟨Tryz.func115, by kernel_rfl⟩ : dw Tryz.prog 115 _)
@[reducible,instance] def CN := (⟨Tryz.func116, by kernel_rfl⟩ : dw Tryz.prog 116 _)
@[reducible,instance] def BX := (⟨Tryz.func117, by kernel_rfl⟩ : dw Tryz.prog 117 _)
@[reducible,instance] def CW := (⟨Tryz.func118, by kernel_rfl⟩ : dw Tryz.prog 118 _)
@[reducible,instance] def Cv := (⟨Tryz.func119, by kernel_rfl⟩ : dw Tryz.prog 119 _)
@[reducible,instance] def EB := (⟨Tryz.func12, by kernel_rfl⟩ : dw Tryz.prog 12 _)
@[reducible,instance] def Cx := (⟨Tryz.func120, by kernel_rfl⟩ : dw Tryz.prog 120 _)
@[reducible,instance] def Cc := (⟨Tryz.func121, by kernel_rfl⟩ : dw Tryz.prog 121 _)
@[reducible,instance] def Cq := (⟨Tryz.func122, by kernel_rfl⟩ : dw Tryz.prog 122 _)
@[reducible,instance] def Db := (⟨Tryz.func123, by kernel_rfl⟩ : dw Tryz.prog 123 _)
@[reducible,instance] def Ch := (⟨Tryz.func124, by kernel_rfl⟩ : dw Tryz.prog 124 _)
@[reducible,instance] def Ck := (⟨Tryz.func125, by kernel_rfl⟩ : dw Tryz.prog 125 _)
@[reducible,instance] def BP := (⟨Tryz.func126, by kernel_rfl⟩ : dw Tryz.prog 126 _)
@[reducible,instance] def CG := (⟨Tryz.func127, by kernel_rfl⟩ : dw Tryz.prog 127 _)
@[reducible,instance] def BW := (⟨Tryz.func128, by kernel_rfl⟩ : dw Tryz.prog 128 _)
@[reducible,instance] def Dr := (⟨Tryz.func129, by kernel_rfl⟩ : dw Tryz.prog 129 _)
@[reducible,instance] def Gn := (⟨Tryz.func13, by kernel_rfl⟩ : dw Tryz.prog 13 _)
@[reducible,instance] def Cl := (⟨Tryz.func130, by kernel_rfl⟩ : dw Tryz.prog 130 _)
@[reducible,instance] def CF := (⟨Tryz.func131, by kernel_rfl⟩ : dw Tryz.prog 131 _)
@[reducible,instance] def BH := (⟨Tryz.func132, by kernel_rfl⟩ : dw Tryz.prog 132 _)
@[reducible,instance] def BY := (⟨Tryz.func133, by kernel_rfl⟩ : dw Tryz.prog 133 _)
@[reducible,instance] def Dh := (⟨Tryz.func134, by kernel_rfl⟩ : dw Tryz.prog 134 _)
@[reducible,instance] def Dl := (⟨Tryz.func135, by kernel_rfl⟩ : dw Tryz.prog 135 _)
@[reducible,instance] def BG := (⟨Tryz.func136, by kernel_rfl⟩ : dw Tryz.prog 136 _)
@[reducible,instance] def Cw := (⟨Tryz.func137, by kernel_rfl⟩ : dw Tryz.prog 137 _)
@[reducible,instance] def Ds := (⟨Tryz.func138, by kernel_rfl⟩ : dw Tryz.prog 138 _)
@[reducible,instance] def Cz := (⟨Tryz.func139, by kernel_rfl⟩ : dw Tryz.prog 139 _)
@[reducible,instance] def EZ := (⟨Tryz.func14, by kernel_rfl⟩ : dw Tryz.prog 14 _)
@[reducible,instance] def CY := (⟨Tryz.func140, by kernel_rfl⟩ : dw Tryz.prog 140 _)
@[reducible,instance] def CE := (⟨Tryz.func141, by kernel_rfl⟩ : dw Tryz.prog 141 _)
@[reducible,instance] def Cu := (⟨Tryz.func142, by kernel_rfl⟩ : dw Tryz.prog 142 _)
@[reducible,instance] def CH := (⟨Tryz.func143, by kernel_rfl⟩ : dw Tryz.prog 143 _)
@[reducible,instance] def Ci := (⟨Tryz.func144, by kernel_rfl⟩ : dw Tryz.prog 144 _)
@[reducible,instance] def BM := (⟨Tryz.func145, by kernel_rfl⟩ : dw Tryz.prog 145 _)
@[reducible,instance] def BJ := (⟨Tryz.func146, by kernel_rfl⟩ : dw Tryz.prog 146 _)
@[reducible,instance] def Ce := (⟨Tryz.func147, by kernel_rfl⟩ : dw Tryz.prog 147 _)
@[reducible,instance] def CQ := (⟨Tryz.func148, by kernel_rfl⟩ : dw Tryz.prog 148 _)
@[reducible,instance] def Dj := (⟨Tryz.func149, by kernel_rfl⟩ : dw Tryz.prog 149 _)
@[reducible,instance] def FW := (⟨Tryz.func15, by kernel_rfl⟩ : dw Tryz.prog 15 _)
@[reducible,instance] def BB := (⟨Tryz.func150, by kernel_rfl⟩ : dw Tryz.prog 150 _)
@[reducible,instance] def BR := (⟨Tryz.func151, by kernel_rfl⟩ : dw Tryz.prog 151 _)
@[reducible,instance] def Cn := (⟨Tryz.func152, by kernel_rfl⟩ : dw Tryz.prog 152 _)
@[reducible,instance] def Dm := (⟨Tryz.func153, by kernel_rfl⟩ : dw Tryz.prog 153 _)
@[reducible,instance] def Cm := (⟨Tryz.func154, by kernel_rfl⟩ : dw Tryz.prog 154 _)
@[reducible,instance] def CP := (⟨Tryz.func158, by kernel_rfl⟩ : dw Tryz.prog 158 _)
@[reducible,instance] def BO := (⟨Tryz.func159, by kernel_rfl⟩ : dw Tryz.prog 159 _)
@[reducible,instance] def Gi := (⟨Tryz.func16, by kernel_rfl⟩ : dw Tryz.prog 16 _)
@[reducible,instance] def Fp := (⟨Tryz.func17, by kernel_rfl⟩ : dw Tryz.prog 17 _)
@[reducible,instance] def ED := (⟨Tryz.func18, by kernel_rfl⟩ : dw Tryz.prog 18 _)
@[reducible,instance] def DU := (⟨Tryz.func19, by kernel_rfl⟩ : dw Tryz.prog 19 _)
@[reducible,instance] def Fa := (⟨Tryz.func21, by kernel_rfl⟩ : dw Tryz.prog 21 _)
@[reducible,instance] def FS := (⟨Tryz.func22, by kernel_rfl⟩ : dw Tryz.prog 22 _)
@[reducible,instance] def EA := (⟨Tryz.func23, by kernel_rfl⟩ : dw Tryz.prog 23 _)
@[reducible,instance] def Fq := (⟨Tryz.func24, by kernel_rfl⟩ : dw Tryz.prog 24 _)
@[reducible,instance] def Fg := (⟨Tryz.func25, by kernel_rfl⟩ : dw Tryz.prog 25 _)
@[reducible,instance] def FR := (⟨Tryz.func26, by kernel_rfl⟩ : dw Tryz.prog 26 _)
@[reducible,instance] def DO := (⟨Tryz.func27, by kernel_rfl⟩ : dw Tryz.prog 27 _)
@[reducible,instance] def FE := (⟨Tryz.func28, by kernel_rfl⟩ : dw Tryz.prog 28 _)
@[reducible,instance] def FH := (⟨Tryz.func29, by kernel_rfl⟩ : dw Tryz.prog 29 _)
@[reducible,instance] def Ej := (⟨Tryz.func30, by kernel_rfl⟩ : dw Tryz.prog 30 _)
@[reducible,instance] def Fw := (⟨Tryz.func31, by kernel_rfl⟩ : dw Tryz.prog 31 _)
@[reducible,instance] def Eb := (⟨Tryz.func32, by kernel_rfl⟩ : dw Tryz.prog 32 _)
@[reducible,instance] def Gc := (⟨Tryz.func33, by kernel_rfl⟩ : dw Tryz.prog 33 _)
@[reducible,instance] def Ev := (⟨Tryz.func34, by kernel_rfl⟩ : dw Tryz.prog 34 _)
@[reducible,instance] def EQ := (⟨Tryz.func35, by kernel_rfl⟩ : dw Tryz.prog 35 _)
@[reducible,instance] def Ed := (⟨Tryz.func36, by kernel_rfl⟩ : dw Tryz.prog 36 _)
@[reducible,instance] def DL := (⟨Tryz.func37, by kernel_rfl⟩ : dw Tryz.prog 37 _)
@[reducible,instance] def Ff := (⟨Tryz.func38, by kernel_rfl⟩ : dw Tryz.prog 38 _)
@[reducible,instance] def En := (⟨Tryz.func39, by kernel_rfl⟩ : dw Tryz.prog 39 _)
@[reducible,instance] def EX := (⟨Tryz.func40, by kernel_rfl⟩ : dw Tryz.prog 40 _)
@[reducible,instance] def FN := (⟨Tryz.func41, by kernel_rfl⟩ : dw Tryz.prog 41 _)
@[reducible,instance] def EH := (⟨Tryz.func42, by kernel_rfl⟩ : dw Tryz.prog 42 _)
@[reducible,instance] def EI := (⟨Tryz.func43, by kernel_rfl⟩ : dw Tryz.prog 43 _)
@[reducible,instance] def Eu := (⟨Tryz.func44, by kernel_rfl⟩ : dw Tryz.prog 44 _)
@[reducible,instance] def EC := (⟨Tryz.func45, by kernel_rfl⟩ : dw Tryz.prog 45 _)
@[reducible,instance] def ET := (⟨Tryz.func46, by kernel_rfl⟩ : dw Tryz.prog 46 _)
@[reducible,instance] def DG := (⟨Tryz.func47, by kernel_rfl⟩ : dw Tryz.prog 47 _)
@[reducible,instance] def Em := (⟨Tryz.func48, by kernel_rfl⟩ : dw Tryz.prog 48 _)
@[reducible,instance] def DW := (⟨Tryz.func49, by kernel_rfl⟩ : dw Tryz.prog 49 _)
@[reducible,instance] def FF := (⟨Tryz.func50, by kernel_rfl⟩ : dw Tryz.prog 50 _)
@[reducible,instance] def DZ := (⟨Tryz.func51, by kernel_rfl⟩ : dw Tryz.prog 51 _)
@[reducible,instance] def Fv := (⟨Tryz.func52, by kernel_rfl⟩ : dw Tryz.prog 52 _)
@[reducible,instance] def EG := (⟨Tryz.func53, by kernel_rfl⟩ : dw Tryz.prog 53 _)
@[reducible,instance] def Eo := (⟨Tryz.func54, by kernel_rfl⟩ : dw Tryz.prog 54 _)
@[reducible,instance] def FU := (⟨Tryz.func55, by kernel_rfl⟩ : dw Tryz.prog 55 _)
@[reducible,instance] def Fh := (⟨Tryz.func56, by kernel_rfl⟩ : dw Tryz.prog 56 _)
@[reducible,instance] def FL := (⟨Tryz.func57, by kernel_rfl⟩ : dw Tryz.prog 57 _)
@[reducible,instance] def Ge := (⟨Tryz.func58, by kernel_rfl⟩ : dw Tryz.prog 58 _)
@[reducible,instance] def Ga := (⟨Tryz.func59, by kernel_rfl⟩ : dw Tryz.prog 59 _)
@[reducible,instance] def Ex := (⟨Tryz.func60, by kernel_rfl⟩ : dw Tryz.prog 60 _)
@[reducible,instance] def Gm := (⟨Tryz.func62, by kernel_rfl⟩ : dw Tryz.prog 62 _)
@[reducible,instance] def FJ := (⟨Tryz.func64, by kernel_rfl⟩ : dw Tryz.prog 64 _)
@[reducible,instance] def EP := (⟨Tryz.func65, by kernel_rfl⟩ : dw Tryz.prog 65 _)
@[reducible,instance] def EO := (⟨Tryz.func68, by kernel_rfl⟩ : dw Tryz.prog 68 _)
@[reducible,instance] def EK := (⟨Tryz.func69, by kernel_rfl⟩ : dw Tryz.prog 69 _)
@[reducible,instance] def FT := (⟨Tryz.func70, by kernel_rfl⟩ : dw Tryz.prog 70 _)
@[reducible,instance] def Fu := (⟨Tryz.func71, by kernel_rfl⟩ : dw Tryz.prog 71 _)
@[reducible,instance] def Ez := (⟨Tryz.func73, by kernel_rfl⟩ : dw Tryz.prog 73 _)
@[reducible,instance] def Fi := (⟨Tryz.func75, by kernel_rfl⟩ : dw Tryz.prog 75 _)
@[reducible,instance] def FB := (⟨Tryz.func77, by kernel_rfl⟩ : dw Tryz.prog 77 _)
@[reducible,instance] def Ef := (⟨Tryz.func79, by kernel_rfl⟩ : dw Tryz.prog 79 _)
@[reducible,instance] def Gx := (⟨Tryz.func8, by kernel_rfl⟩ : dw Tryz.prog 8 _)
@[reducible,instance] def Ep := (⟨Tryz.func81, by kernel_rfl⟩ : dw Tryz.prog 81 _)
@[reducible,instance] def EF := (⟨Tryz.func83, by kernel_rfl⟩ : dw Tryz.prog 83 _)
@[reducible,instance] def FV := (⟨Tryz.func85, by kernel_rfl⟩ : dw Tryz.prog 85 _)
@[reducible,instance] def Es := (⟨Tryz.func87, by kernel_rfl⟩ : dw Tryz.prog 87 _)
@[reducible,instance] def Fy := (⟨Tryz.func89, by kernel_rfl⟩ : dw Tryz.prog 89 _)
@[reducible,instance] def GA := (⟨Tryz.func9, by kernel_rfl⟩ : dw Tryz.prog 9 _)
@[reducible,instance] def DR := (⟨Tryz.func91, by kernel_rfl⟩ : dw Tryz.prog 91 _)
@[reducible,instance] def Gf := (⟨Tryz.func93, by kernel_rfl⟩ : dw Tryz.prog 93 _)
@[reducible,instance] def Gb := (⟨Tryz.func95, by kernel_rfl⟩ : dw Tryz.prog 95 _)
@[reducible,instance] def Ea := (⟨Tryz.func96, by kernel_rfl⟩ : dw Tryz.prog 96 _)
@[reducible,instance] def EE := (⟨Tryz.func97, by kernel_rfl⟩ : dw Tryz.prog 97 _)
@[reducible,instance] def Gd := (⟨Tryz.func98, by kernel_rfl⟩ : dw Tryz.prog 98 _)
@[reducible,instance] def Fe := (⟨Tryz.func99, by kernel_rfl⟩ : dw Tryz.prog 99 _)
@[instance] theorem zn : jY Tryz.prog 151 0 0 := ⟨_, _, Tryz.underlying151, rfl, rfl, wS⟩
@[instance] theorem zy : jY Tryz.prog 151 1 1 := ⟨_, _, Tryz.underlying151, rfl, rfl, wS⟩
@[instance] theorem Bm : jY Tryz.prog 26 0 0 := ⟨_, _, Tryz.underlying26, rfl, rfl, sZ⟩
@[instance] theorem Ae : jY Tryz.prog 26 1 1 := ⟨_, _, Tryz.underlying26, rfl, rfl, sZ⟩
@[instance] theorem zX : jY Tryz.prog 26 2 2 := ⟨_, _, Tryz.underlying26, rfl, rfl, AC⟩
@[instance] theorem Bf : jY Tryz.prog 28 0 0 := ⟨_, _, Tryz.underlying28, rfl, rfl, sZ⟩
@[instance] theorem Bz : jY Tryz.prog 28 1 1 := ⟨_, _, Tryz.underlying28, rfl, rfl, sZ⟩
@[instance] theorem AM : jY Tryz.prog 31 0 0 := ⟨_, _, Tryz.underlying31, rfl, rfl, sZ⟩
@[instance] theorem Av : jY Tryz.prog 31 1 1 := ⟨_, _, Tryz.underlying31, rfl, rfl, sZ⟩
@[instance] theorem zV : jY Tryz.prog 31 2 2 := ⟨_, _, Tryz.underlying31, rfl, rfl, tf⟩
@[instance] theorem AV : jY Tryz.prog 31 3 3 := ⟨_, _, Tryz.underlying31, rfl, rfl, tf⟩
@[instance] theorem Bd : jY Tryz.prog 31 4 4 := ⟨_, _, Tryz.underlying31, rfl, rfl, wN⟩
@[instance] theorem AS : jY Tryz.prog 34 0 0 := ⟨_, _, Tryz.underlying34, rfl, rfl, yr⟩
@[instance] theorem zl : jY Tryz.prog 34 10 21 := ⟨_, _, Tryz.underlying34, rfl, rfl, tf⟩
@[instance] theorem zr : jY Tryz.prog 34 11 22 := ⟨_, _, Tryz.underlying34, rfl, rfl, tf⟩
@[instance] theorem zk : jY Tryz.prog 34 12 23 := ⟨_, _, Tryz.underlying34, rfl, rfl, tf⟩
@[instance] theorem zd : jY Tryz.prog 34 13 24 := ⟨_, _, Tryz.underlying34, rfl, rfl, tf⟩
@[instance] theorem zC : jY Tryz.prog 34 14 25 := ⟨_, _, Tryz.underlying34, rfl, rfl, zG⟩
@[instance] theorem zB : jY Tryz.prog 34 15 39 := ⟨_, _, Tryz.underlying34, rfl, rfl, tf⟩
@[instance] theorem zg : jY Tryz.prog 34 16 40 := ⟨_, _, Tryz.underlying34, rfl, rfl, yr⟩
@[instance] theorem zq : jY Tryz.prog 34 17 43 := ⟨_, _, Tryz.underlying34, rfl, rfl, Bu⟩
@[instance] theorem Ak : jY Tryz.prog 34 1 3 := ⟨_, _, Tryz.underlying34, rfl, rfl, sZ⟩
@[instance] theorem zY : jY Tryz.prog 34 2 4 := ⟨_, _, Tryz.underlying34, rfl, rfl, sZ⟩
@[instance] theorem Bl : jY Tryz.prog 34 3 5 := ⟨_, _, Tryz.underlying34, rfl, rfl, tf⟩
@[instance] theorem Ai : jY Tryz.prog 34 4 6 := ⟨_, _, Tryz.underlying34, rfl, rfl, wN⟩
@[instance] theorem zO : jY Tryz.prog 34 5 16 := ⟨_, _, Tryz.underlying34, rfl, rfl, sZ⟩
@[instance] theorem Bx : jY Tryz.prog 34 6 17 := ⟨_, _, Tryz.underlying34, rfl, rfl, sZ⟩
@[instance] theorem AQ : jY Tryz.prog 34 7 18 := ⟨_, _, Tryz.underlying34, rfl, rfl, Be⟩
@[instance] theorem An : jY Tryz.prog 34 8 19 := ⟨_, _, Tryz.underlying34, rfl, rfl, tf⟩
@[instance] theorem zZ : jY Tryz.prog 34 9 20 := ⟨_, _, Tryz.underlying34, rfl, rfl, tf⟩
@[instance] theorem Bn : jY Tryz.prog 44 0 0 := ⟨_, _, Tryz.underlying44, rfl, rfl, Dt⟩
@[instance] theorem Aj : jY Tryz.prog 44 1 1 := ⟨_, _, Tryz.underlying44, rfl, rfl, sZ⟩
@[instance] theorem Ah : jY Tryz.prog 44 2 2 := ⟨_, _, Tryz.underlying44, rfl, rfl, sZ⟩
@[instance] theorem AD : jY Tryz.prog 44 3 3 := ⟨_, _, Tryz.underlying44, rfl, rfl, tf⟩
@[instance] theorem AR : jY Tryz.prog 55 0 0 := ⟨_, _, Tryz.underlying55, rfl, rfl, wS⟩
@[instance] theorem Ba : jY Tryz.prog 55 1 1 := ⟨_, _, Tryz.underlying55, rfl, rfl, Ab⟩
@[instance] theorem Ao : jY Tryz.prog 55 2 4 := ⟨_, _, Tryz.underlying55, rfl, rfl, Dt⟩
@[instance] theorem zP : jY Tryz.prog 55 3 5 := ⟨_, _, Tryz.underlying55, rfl, rfl, wN⟩
@[instance] theorem Bj : jY Tryz.prog 84 0 0 := ⟨_, _, Tryz.underlying84, rfl, rfl, Ag⟩
@[reducible,instance] def zh := (⟨wq⟩ : vJ Tryz.prog 151 _)
@[reducible,instance] def AO := (⟨yV⟩ : vJ Tryz.prog 26 _)
@[reducible,instance] def Ap := (⟨xG⟩ : vJ Tryz.prog 28 _)
@[reducible,instance] def Aw := (⟨yZ⟩ : vJ Tryz.prog 31 _)
@[reducible,instance] def Al := (⟨yx⟩ : vJ Tryz.prog 34 _)
@[reducible,instance] def AK := (⟨yO⟩ : vJ Tryz.prog 55 _)
@[reducible,instance] def AY := (⟨xF⟩ : vJ Tryz.prog 84 _)
@[reducible,instance] def zF := (⟨qE⟩ : oD Tryz.prog 138 _)
@[reducible,instance] def CX := (⟨kP⟩ : oD Tryz.prog 21 _)
@[reducible,instance] def Dk := (⟨Bo⟩ : oD Tryz.prog 24 _)
@[reducible,instance] def BC := (⟨uU⟩ : oD Tryz.prog 26 _)
@[reducible,instance] def Cj := (⟨mZ⟩ : oD Tryz.prog 28 _)
@[reducible,instance] def Df := (⟨AZ⟩ : oD Tryz.prog 29 _)
@[reducible,instance] def Fc := (⟨jG⟩ : oD Tryz.prog 3 _)
@[reducible,instance] def Cr := (⟨ya⟩ : oD Tryz.prog 31 _)
@[reducible,instance] def BK := (⟨Bb⟩ : oD Tryz.prog 32 _)
@[reducible,instance] def CM := (⟨sD⟩ : oD Tryz.prog 34 _)
@[reducible,instance] def FX := (⟨Fx⟩ : oD Tryz.prog 4 _)
@[reducible,instance] def DD := (⟨Gs⟩ : oD Tryz.prog 5 _)
@[reducible,instance] def BQ := (⟨Bi⟩ : oD Tryz.prog 53 _)
@[reducible,instance] def Dp := (⟨cl⟩ : oD Tryz.prog 55 _)
@[reducible,instance] def CL := (⟨zM⟩ : oD Tryz.prog 84 _)
@[reducible,instance] def Do := (⟨Tryz.underlying116⟩ : mK Tryz.prog 116 _)
@[reducible,instance] def CC := (⟨Tryz.underlying138⟩ : mK Tryz.prog 138 _)
@[reducible,instance] def CO := (⟨Tryz.underlying139⟩ : mK Tryz.prog 139 _)
@[reducible,instance] def CV := (⟨Tryz.underlying141⟩ : mK Tryz.prog 141 _)
@[reducible,instance] def BV := (⟨Tryz.underlying151⟩ : mK Tryz.prog 151 _)
@[reducible,instance] def Fb := (⟨Tryz.underlying21⟩ : mK Tryz.prog 21 _)
@[reducible,instance] def DX := (⟨Tryz.underlying24⟩ : mK Tryz.prog 24 _)
@[reducible,instance] def EN := (⟨Tryz.underlying26⟩ : mK Tryz.prog 26 _)
@[reducible,instance] def Ey := (⟨Tryz.underlying28⟩ : mK Tryz.prog 28 _)
@[reducible,instance] def DY := (⟨Tryz.underlying29⟩ : mK Tryz.prog 29 _)
@[reducible,instance] def GB := (⟨Tryz.underlying3⟩ : mK Tryz.prog 3 _)
@[reducible,instance] def DT := (⟨Tryz.underlying31⟩ : mK Tryz.prog 31 _)
@[reducible,instance] def EV := (⟨Tryz.underlying32⟩ : mK Tryz.prog 32 _)
@[reducible,instance] def FP := (⟨Tryz.underlying34⟩ : mK Tryz.prog 34 _)
@[reducible,instance] def Gv := (⟨Tryz.underlying4⟩ : mK Tryz.prog 4 _)
@[reducible,instance] def Gw := (⟨Tryz.underlying5⟩ : mK Tryz.prog 5 _)
@[reducible,instance] def Ek := (⟨Tryz.underlying53⟩ : mK Tryz.prog 53 _)
@[reducible,instance] def FA := (⟨Tryz.underlying55⟩ : mK Tryz.prog 55 _)
@[reducible,instance] def EW := (⟨Tryz.underlying78⟩ : mK Tryz.prog 78 _)
@[reducible,instance] def Ew := (⟨Tryz.underlying82⟩ : mK Tryz.prog 82 _)
@[reducible,instance] def EU := (⟨Tryz.underlying84⟩ : mK Tryz.prog 84 _)
@[reducible,instance] def zc := (⟨uF⟩ : qG Tryz.prog 138 _)
@[reducible,instance] def yA := (⟨uL⟩ : qG Tryz.prog 139 _)
@[reducible,instance] def yI := (⟨uY⟩ : qG Tryz.prog 141 _)
@[reducible,instance] def yW := (⟨pK⟩ : qG Tryz.prog 151 _)
@[reducible,instance] def zp := (⟨xu⟩ : qG Tryz.prog 26 _)
@[reducible,instance] def zu := (⟨xw⟩ : qG Tryz.prog 28 _)
@[reducible,instance] def zx := (⟨xa⟩ : qG Tryz.prog 31 _)
@[reducible,instance] def zf := (⟨lm⟩ : qG Tryz.prog 34 _)
@[reducible,instance] def zj := (⟨wH⟩ : qG Tryz.prog 53 _)
@[reducible,instance] def zm := (⟨jX⟩ : qG Tryz.prog 55 _)
@[reducible,instance] def ze := (⟨xr⟩ : qG Tryz.prog 78 _)
@[reducible,instance] def zw := (⟨wn⟩ : qG Tryz.prog 84 _)
end Go.Proofs.YtckilbegmbaeeaaGreat.Z3

/- What the texts of the functions use: types, kinds, facts of the program. -/
import Derived.Test.YtckilbegmbaeeaaGreatProg
import Derived.Test.YtckilbegmbaeeaaGreatZ6S1
namespace Go.Proofs.YtckilbegmbaeeaaGreat.Z6
open Go Go.RowKit Go.Proofs.YtckilbegmbaeeaaGreat.SL
set_option linter.unusedVariables false
set_option linter.unusedSimpArgs false
attribute [local irreducible] IntKind.wrap da fk gR kN kD po ky eS kF rd sub bytesOf ib dj
structure BH where
  f0 : Int
  f1 : Int
  deriving Inhabited, DecidableEq
structure fX where
  f0 : Int
  f1 : Int
  f2 : Int
  deriving Inhabited, DecidableEq
structure cM where
  f0 : Int
  f1 : Int
  f2 : Bool
  f3 : Bool
  f4 : Bool
  f5 : Bool
  f6 : Bool
  f7 : Bool
  f8 : Bool
  f9 : Bool
  deriving Inhabited, DecidableEq
structure aY where
  f0 : Int
  f1 : fX
  f2 : Int
  f3 : cM
  deriving Inhabited, DecidableEq
structure bH where
  f0 : Int
  f1 : Int
  f2 : (List aY)
  deriving Inhabited, DecidableEq
structure dz where
  f0 : Int
  f1 : Int
  f2 : Bool
  f3 : Bool
  f4 : cM
  deriving Inhabited, DecidableEq
structure aJ where
  f0 : bH
  f1 : Int
  f2 : Int
  f3 : Bool
  f4 : cM
  f5 : Int
  f6 : Int
  f7 : (List Int)
  f8 : Bool
  f9 : Bool
  f10 : Bool
  f11 : Bool
  f12 : Bool
  f13 : Bool
  f14 : dz
  f15 : Bool
  f16 : bH
  f17 : (List Int)
  deriving Inhabited, DecidableEq
structure qG where
  f0 : Int
  f1 : Int
  f2 : Int
  f3 : Bool
  deriving Inhabited, DecidableEq
structure aZ where
  f0 : Int
  f1 : Int
  deriving Inhabited, DecidableEq
structure bY where
  f0 : Int
  f1 : Int
  deriving Inhabited, DecidableEq
abbrev bF (x : cM) : List Value := [.int .i64 x.f0, .int .i64 x.f1, .bool x.f2, .bool x.f3, .bool x.f4, .bool x.f5, .bool x.f6, .bool x.f7, .bool x.f8, .bool x.f9]
abbrev bV (x : aY) : List Value := (.int .i32 x.f0 :: .int .i32 x.f1.f0 :: .int .i32 x.f1.f1 :: .int .i32 x.f1.f2 :: .int .u8 x.f2 :: .int .i64 x.f3.f0 :: .int .i64 x.f3.f1 :: .bool x.f3.f2 :: .bool x.f3.f3 :: .bool x.f3.f4 :: .bool x.f3.f5 :: .bool x.f3.f6 :: .bool x.f3.f7 :: .bool x.f3.f8 :: .bool x.f3.f9 :: [])
abbrev ii (x : dz) : List Value := (.int .i64 x.f0 :: .int .i64 x.f1 :: .bool x.f2 :: .bool x.f3 :: .int .i64 x.f4.f0 :: .int .i64 x.f4.f1 :: .bool x.f4.f2 :: .bool x.f4.f3 :: .bool x.f4.f4 :: .bool x.f4.f5 :: .bool x.f4.f6 :: .bool x.f4.f7 :: .bool x.f4.f8 :: .bool x.f4.f9 :: [])
abbrev al (x : aJ) (A1 : Option Addr) (c2 : Nat) (A4 : Option Addr) (c5 : Nat) (A7 : Option Addr) (c8 : Nat) (A10 : Option Addr) (c11 : Nat) : List Value := (.int .i64 x.f0.f0 :: .int .i64 x.f0.f1 :: .slice A1 x.f0.f2.length c2 :: .int .i64 x.f1 :: .int .i64 x.f2 :: .bool x.f3 :: .int .i64 x.f4.f0 :: .int .i64 x.f4.f1 :: .bool x.f4.f2 :: .bool x.f4.f3 :: .bool x.f4.f4 :: .bool x.f4.f5 :: .bool x.f4.f6 :: .bool x.f4.f7 :: .bool x.f4.f8 :: .bool x.f4.f9 :: .int .i64 x.f5 :: .int .i64 x.f6 :: .slice A4 x.f7.length c5 :: .bool x.f8 :: .bool x.f9 :: .bool x.f10 :: .bool x.f11 :: .bool x.f12 :: .bool x.f13 :: .int .i64 x.f14.f0 :: .int .i64 x.f14.f1 :: .bool x.f14.f2 :: .bool x.f14.f3 :: .int .i64 x.f14.f4.f0 :: .int .i64 x.f14.f4.f1 :: .bool x.f14.f4.f2 :: .bool x.f14.f4.f3 :: .bool x.f14.f4.f4 :: .bool x.f14.f4.f5 :: .bool x.f14.f4.f6 :: .bool x.f14.f4.f7 :: .bool x.f14.f4.f8 :: .bool x.f14.f4.f9 :: .bool x.f15 :: .int .i64 x.f16.f0 :: .int .i64 x.f16.f1 :: .slice A7 x.f16.f2.length c8 :: .slice A10 x.f17.length c11 :: [])
def vI (x : BH) : List Value := [.int .i64 x.f0, .int .i64 x.f1]
def Hf : Kd BH := Kd.fl 2 vI (fun _ => rfl) (fun x v h => by simp only [vI, List.mem_cons, List.not_mem_nil, or_false] at h; rcases h with rfl | rfl <;> rfl)
def vL (x : fX) : List Value := [.int .i32 x.f0, .int .i32 x.f1, .int .i32 x.f2]
def GI : Kd fX := Kd.fl 3 vL (fun _ => rfl) (fun x v h => by simp only [vL, List.mem_cons, List.not_mem_nil, or_false] at h; rcases h with rfl | rfl | rfl <;> rfl)
def vJ (x : cM) : List Value := [.int .i64 x.f0, .int .i64 x.f1, .bool x.f2, .bool x.f3, .bool x.f4, .bool x.f5, .bool x.f6, .bool x.f7, .bool x.f8, .bool x.f9]
def pF : Kd cM := Kd.fl 10 vJ (fun _ => rfl) (fun x v h => by simp only [vJ, List.mem_cons, List.not_mem_nil, or_false] at h; rcases h with rfl | rfl | rfl | rfl | rfl | rfl | rfl | rfl | rfl | rfl <;> rfl)
def cZ (x : aY) : List Value := (.int .i32 x.f0 :: .int .i32 x.f1.f0 :: .int .i32 x.f1.f1 :: .int .i32 x.f1.f2 :: .int .u8 x.f2 :: .int .i64 x.f3.f0 :: .int .i64 x.f3.f1 :: .bool x.f3.f2 :: .bool x.f3.f3 :: .bool x.f3.f4 :: .bool x.f3.f5 :: .bool x.f3.f6 :: .bool x.f3.f7 :: .bool x.f3.f8 :: .bool x.f3.f9 :: [])
def bD : Kd aY := Kd.fl 15 cZ (fun _ => rfl) (fun x v h => by simp only [cZ, List.mem_cons, List.not_mem_nil, or_false] at h; rcases h with rfl | rfl | rfl | rfl | rfl | rfl | rfl | rfl | rfl | rfl | rfl | rfl | rfl | rfl | rfl <;> rfl)
def DU (x : bH) (cs_ : List Value) (Bs_ : List bC) : Prop := ∃ (a : Option Addr) (c2 : Nat), cs_ = [.int .i64 x.f0, .int .i64 x.f1, .slice a x.f2.length c2] ∧ Bs_ = [Ro bD a c2 x.f2]
def GF : Kd bH := Kd.ofD 3 DU (fun ⟨_, _, e, _⟩ => by rw [e]; rfl) (fun ⟨_, _, e, _⟩ v h => by rw [e] at h; simp only [List.mem_cons, List.not_mem_nil, or_false] at h; rcases h with rfl | rfl | rfl <;> rfl)
def tv (x : dz) : List Value := (.int .i64 x.f0 :: .int .i64 x.f1 :: .bool x.f2 :: .bool x.f3 :: .int .i64 x.f4.f0 :: .int .i64 x.f4.f1 :: .bool x.f4.f2 :: .bool x.f4.f3 :: .bool x.f4.f4 :: .bool x.f4.f5 :: .bool x.f4.f6 :: .bool x.f4.f7 :: .bool x.f4.f8 :: .bool x.f4.f9 :: [])
def xE : Kd dz := Kd.fl 14 tv (fun _ => rfl) (fun x v h => by simp only [tv, List.mem_cons, List.not_mem_nil, or_false] at h; rcases h with rfl | rfl | rfl | rfl | rfl | rfl | rfl | rfl | rfl | rfl | rfl | rfl | rfl | rfl <;> rfl)
def DV (x : aJ) (cs_ : List Value) (Bs_ : List bC) : Prop := ∃ (c : Option Addr) (c2 : Nat), ∃ (d : Option Addr) (j : Nat), ∃ (h : Option Addr) (l : Nat), ∃ (a : Option Addr) (b : Nat), cs_ = (.int .i64 x.f0.f0 :: .int .i64 x.f0.f1 :: .slice c x.f0.f2.length c2 :: .int .i64 x.f1 :: .int .i64 x.f2 :: .bool x.f3 :: .int .i64 x.f4.f0 :: .int .i64 x.f4.f1 :: .bool x.f4.f2 :: .bool x.f4.f3 :: .bool x.f4.f4 :: .bool x.f4.f5 :: .bool x.f4.f6 :: .bool x.f4.f7 :: .bool x.f4.f8 :: .bool x.f4.f9 :: .int .i64 x.f5 :: .int .i64 x.f6 :: .slice d x.f7.length j :: .bool x.f8 :: .bool x.f9 :: .bool x.f10 :: .bool x.f11 :: .bool x.f12 :: .bool x.f13 :: .int .i64 x.f14.f0 :: .int .i64 x.f14.f1 :: .bool x.f14.f2 :: .bool x.f14.f3 :: .int .i64 x.f14.f4.f0 :: .int .i64 x.f14.f4.f1 :: .bool x.f14.f4.f2 :: .bool x.f14.f4.f3 :: .bool x.f14.f4.f4 :: .bool x.f14.f4.f5 :: .bool x.f14.f4.f6 :: .bool x.f14.f4.f7 :: .bool x.f14.f4.f8 :: .bool x.f14.f4.f9 :: .bool x.f15 :: .int .i64 x.f16.f0 :: .int .i64 x.f16.f1 :: .slice h x.f16.f2.length l :: .slice a x.f17.length b :: []) ∧ Bs_ = [Ro bD c c2 x.f0.f2, Ro (Kd.int .i64) d j x.f7, Ro bD h l x.f16.f2, Ro (Kd.int .i32) a b x.f17]
def GG : Kd aJ := Kd.ofD 44 DV (fun ⟨_, _, _, _, _, _, _, _, e, _⟩ => by rw [e]; rfl) (fun ⟨_, _, _, _, _, _, _, _, e, _⟩ v h => by rw [e] at h; simp only [List.mem_cons, List.not_mem_nil, or_false] at h; rcases h with rfl | rfl | rfl | rfl | rfl | rfl | rfl | rfl | rfl | rfl | rfl | rfl | rfl | rfl | rfl | rfl | rfl | rfl | rfl | rfl | rfl | rfl | rfl | rfl | rfl | rfl | rfl | rfl | rfl | rfl | rfl | rfl | rfl | rfl | rfl | rfl | rfl | rfl | rfl | rfl | rfl | rfl | rfl | rfl <;> rfl)
def vK (x : qG) : List Value := [.int .u8 x.f0, .int .i64 x.f1, .int .i64 x.f2, .bool x.f3]
def GH : Kd qG := Kd.fl 4 vK (fun _ => rfl) (fun x v h => by simp only [vK, List.mem_cons, List.not_mem_nil, or_false] at h; rcases h with rfl | rfl | rfl | rfl <;> rfl)
def eT (x : aZ) : List Value := [.int .i32 x.f0, .int .i32 x.f1]
def ve : Kd aZ := Kd.fl 2 eT (fun _ => rfl) (fun x v h => by simp only [eT, List.mem_cons, List.not_mem_nil, or_false] at h; rcases h with rfl | rfl <;> rfl)
def mR (x : bY) : List Value := [.int .i32 x.f0, .int .i32 x.f1]
def qn : Kd bY := Kd.fl 2 mR (fun _ => rfl) (fun x v h => by simp only [mR, List.mem_cons, List.not_mem_nil, or_false] at h; rcases h with rfl | rfl <;> rfl)
theorem jl : (Tryz.prog.info? 3).map (·.size) = some 1 := by kernel_rfl
theorem sX : ((Tryz.prog.info? 3).map fun i => decide (i.size = 0)) = some false := by kernel_rfl
theorem GX : (Tryz.prog.info? 4).map (·.size) = some 1 := by kernel_rfl
theorem tP : ((Tryz.prog.info? 4).map fun i => decide (i.size = 0)) = some false := by kernel_rfl
theorem GY : (Tryz.prog.info? 5).map (·.size) = some 1 := by kernel_rfl
theorem DT : ((Tryz.prog.info? 5).map fun i => decide (i.size = 0)) = some false := by kernel_rfl
theorem iB : (Tryz.prog.info? 21).map (·.size) = some 1 := by kernel_rfl
theorem wY : ((Tryz.prog.info? 21).map fun i => decide (i.size = 0)) = some false := by kernel_rfl
theorem Br : (Tryz.prog.info? 24).map (·.size) = some 1 := by kernel_rfl
theorem Bc : ((Tryz.prog.info? 24).map fun i => decide (i.size = 0)) = some false := by kernel_rfl
theorem uw : (Tryz.prog.info? 26).map (·.size) = some 3 := by kernel_rfl
theorem yx : ((Tryz.prog.info? 26).map fun i => decide (i.size = 0)) = some false := by kernel_rfl
theorem mf : (Tryz.prog.info? 28).map (·.size) = some 10 := by kernel_rfl
theorem wZ : ((Tryz.prog.info? 28).map fun i => decide (i.size = 0)) = some false := by kernel_rfl
theorem Bt : (Tryz.prog.info? 29).map (·.size) = some 1 := by kernel_rfl
theorem Bd : ((Tryz.prog.info? 29).map fun i => decide (i.size = 0)) = some false := by kernel_rfl
theorem yY : (Tryz.prog.info? 31).map (·.size) = some 14 := by kernel_rfl
theorem Be : ((Tryz.prog.info? 31).map fun i => decide (i.size = 0)) = some false := by kernel_rfl
theorem Bu : (Tryz.prog.info? 32).map (·.size) = some 1 := by kernel_rfl
theorem Bf : ((Tryz.prog.info? 32).map fun i => decide (i.size = 0)) = some false := by kernel_rfl
theorem rC : (Tryz.prog.info? 34).map (·.size) = some 44 := by kernel_rfl
theorem Bv : (Tryz.prog.info? 44).map (·.size) = some 4 := by kernel_rfl
theorem Bw : (Tryz.prog.info? 53).map (·.size) = some 3 := by kernel_rfl
theorem Bg : ((Tryz.prog.info? 53).map fun i => decide (i.size = 0)) = some false := by kernel_rfl
theorem cl : (Tryz.prog.info? 55).map (·.size) = some 15 := by kernel_rfl
theorem Bh : ((Tryz.prog.info? 82).map fun i => decide (i.size = 0)) = some false := by kernel_rfl
theorem Bx : (Tryz.prog.info? 84).map (·.size) = some 1 := by kernel_rfl
theorem qz : (Tryz.prog.info? 138).map (·.size) = some 2 := by kernel_rfl
theorem uu : (Tryz.prog.info? 139).map (·.size) = some 74 := by kernel_rfl
theorem uv : (Tryz.prog.info? 141).map (·.size) = some 52 := by kernel_rfl
theorem sq : (Tryz.prog.info? 151).map (·.size) = some 2 := by kernel_rfl
theorem np : (Tryz.prog.info? 3).bind (·.zero) = some (.int .i64 0) := by kernel_rfl
theorem pf : (Tryz.prog.info? 3).map (fun i => (i.zero, i.size, i.bytes)) = some (some (.int .i64 0), 1, 8) := by kernel_rfl
theorem rG : (Tryz.prog.info? 21).bind (·.zero) = some (.int .i32 0) := by kernel_rfl
theorem tI : (Tryz.prog.info? 21).map (fun i => (i.zero, i.size, i.bytes)) = some (some (.int .i32 0), 1, 4) := by kernel_rfl
theorem xu : (Tryz.prog.info? 26).bind (·.zero) = some (.agg #[.int .i64 0, .int .i64 0, .slice none 0 0]) := by kernel_rfl
theorem xv : (Tryz.prog.info? 28).bind (·.zero) = some (.agg #[.int .i64 0, .int .i64 0, .bool false, .bool false, .bool false, .bool false, .bool false, .bool false, .bool false, .bool false]) := by kernel_rfl
theorem xw : (Tryz.prog.info? 31).bind (·.zero) = some (.agg (List.toArray (.int .i64 0 :: .int .i64 0 :: .bool false :: .bool false :: .int .i64 0 :: .int .i64 0 :: .bool false :: .bool false :: .bool false :: .bool false :: .bool false :: .bool false :: .bool false :: .bool false :: []))) := by kernel_rfl
theorem pC : (Tryz.prog.info? 34).bind (·.zero) = some (.agg (List.toArray (.int .i64 0 :: .int .i64 0 :: .slice none 0 0 :: .int .i64 0 :: .int .i64 0 :: .bool false :: .int .i64 0 :: .int .i64 0 :: .bool false :: .bool false :: .bool false :: .bool false :: .bool false :: .bool false :: .bool false :: .bool false :: .int .i64 0 :: .int .i64 0 :: .slice none 0 0 :: .bool false :: .bool false :: .bool false :: .bool false :: .bool false :: .bool false :: .int .i64 0 :: .int .i64 0 :: .bool false :: .bool false :: .int .i64 0 :: .int .i64 0 :: .bool false :: .bool false :: .bool false :: .bool false :: .bool false :: .bool false :: .bool false :: .bool false :: .bool false :: .int .i64 0 :: .int .i64 0 :: .slice none 0 0 :: .slice none 0 0 :: []))) := by kernel_rfl
theorem xx : (Tryz.prog.info? 53).bind (·.zero) = some (.agg #[.int .i32 0, .int .i32 0, .int .i32 0]) := by kernel_rfl
theorem jD : (Tryz.prog.info? 55).bind (·.zero) = some (.agg (List.toArray (.int .i32 0 :: .int .i32 0 :: .int .i32 0 :: .int .i32 0 :: .int .u8 0 :: .int .i64 0 :: .int .i64 0 :: .bool false :: .bool false :: .bool false :: .bool false :: .bool false :: .bool false :: .bool false :: .bool false :: []))) := by kernel_rfl
theorem mC : (Tryz.prog.info? 55).map (fun i => (i.zero, i.size, i.bytes)) = some (some (.agg (List.toArray (.int .i32 0 :: .int .i32 0 :: .int .i32 0 :: .int .i32 0 :: .int .u8 0 :: .int .i64 0 :: .int .i64 0 :: .bool false :: .bool false :: .bool false :: .bool false :: .bool false :: .bool false :: .bool false :: .bool false :: []))), 15, 48) := by kernel_rfl
theorem xy : (Tryz.prog.info? 78).bind (·.zero) = some (.agg (List.toArray (.int .i64 0 :: .int .i64 0 :: .bool false :: .bool false :: .int .i64 0 :: .int .i64 0 :: .bool false :: .bool false :: .bool false :: .bool false :: .bool false :: .bool false :: .bool false :: .bool false :: .int .i64 0 :: .int .i64 0 :: .bool false :: .bool false :: .int .i64 0 :: .int .i64 0 :: .bool false :: .bool false :: .bool false :: .bool false :: .bool false :: .bool false :: .bool false :: .bool false :: []))) := by kernel_rfl
theorem xz : (Tryz.prog.info? 84).bind (·.zero) = some (.agg #[.pointer none]) := by kernel_rfl
theorem vA : (Tryz.prog.info? 138).bind (·.zero) = some (.agg #[.int .i32 0, .int .i32 0]) := by kernel_rfl
theorem vB : (Tryz.prog.info? 139).bind (·.zero) = some (.agg (List.flatMap eT ((aZ.mk 0 0) :: (aZ.mk 0 0) :: (aZ.mk 0 0) :: (aZ.mk 0 0) :: (aZ.mk 0 0) :: (aZ.mk 0 0) :: (aZ.mk 0 0) :: (aZ.mk 0 0) :: (aZ.mk 0 0) :: (aZ.mk 0 0) :: (aZ.mk 0 0) :: (aZ.mk 0 0) :: (aZ.mk 0 0) :: (aZ.mk 0 0) :: (aZ.mk 0 0) :: (aZ.mk 0 0) :: (aZ.mk 0 0) :: (aZ.mk 0 0) :: (aZ.mk 0 0) :: (aZ.mk 0 0) :: (aZ.mk 0 0) :: (aZ.mk 0 0) :: (aZ.mk 0 0) :: (aZ.mk 0 0) :: (aZ.mk 0 0) :: (aZ.mk 0 0) :: (aZ.mk 0 0) :: (aZ.mk 0 0) :: (aZ.mk 0 0) :: (aZ.mk 0 0) :: (aZ.mk 0 0) :: (aZ.mk 0 0) :: (aZ.mk 0 0) :: (aZ.mk 0 0) :: (aZ.mk 0 0) :: (aZ.mk 0 0) :: (aZ.mk 0 0) :: [])).toArray) := by kernel_rfl
theorem vC : (Tryz.prog.info? 141).bind (·.zero) = some (.agg (List.flatMap eT ((aZ.mk 0 0) :: (aZ.mk 0 0) :: (aZ.mk 0 0) :: (aZ.mk 0 0) :: (aZ.mk 0 0) :: (aZ.mk 0 0) :: (aZ.mk 0 0) :: (aZ.mk 0 0) :: (aZ.mk 0 0) :: (aZ.mk 0 0) :: (aZ.mk 0 0) :: (aZ.mk 0 0) :: (aZ.mk 0 0) :: (aZ.mk 0 0) :: (aZ.mk 0 0) :: (aZ.mk 0 0) :: (aZ.mk 0 0) :: (aZ.mk 0 0) :: (aZ.mk 0 0) :: (aZ.mk 0 0) :: (aZ.mk 0 0) :: (aZ.mk 0 0) :: (aZ.mk 0 0) :: (aZ.mk 0 0) :: (aZ.mk 0 0) :: (aZ.mk 0 0) :: [])).toArray) := by kernel_rfl
theorem pB : (Tryz.prog.info? 151).bind (·.zero) = some (.agg #[.int .i32 0, .int .i32 0]) := by kernel_rfl
theorem yG : ∀ fs, Tryz.prog.underlying 26 = some (.struct fs) → ∀ w, (fs.mapM (fun f => do pure (f.offset, ← sizeOf f.type) : Field → Sem (Nat × Nat))).run Tryz.prog w = .ok ([(0, 1), (1, 1), (2, 1)] : List (Nat × Nat)).toArray w := fun fs h w => by rw [Tryz.underlying26] at h; cases h; kernel_rfl
theorem yH : ∀ fs, Tryz.prog.underlying 28 = some (.struct fs) → ∀ w, (fs.mapM (fun f => do pure (f.offset, ← sizeOf f.type) : Field → Sem (Nat × Nat))).run Tryz.prog w = .ok ([(0, 1), (1, 1), (2, 1), (3, 1), (4, 1), (5, 1), (6, 1), (7, 1), (8, 1), (9, 1)] : List (Nat × Nat)).toArray w := fun fs h w => by rw [Tryz.underlying28] at h; cases h; kernel_rfl
theorem yI : ∀ fs, Tryz.prog.underlying 31 = some (.struct fs) → ∀ w, (fs.mapM (fun f => do pure (f.offset, ← sizeOf f.type) : Field → Sem (Nat × Nat))).run Tryz.prog w = .ok ([(0, 1), (1, 1), (2, 1), (3, 1), (4, 10)] : List (Nat × Nat)).toArray w := fun fs h w => by rw [Tryz.underlying31] at h; cases h; kernel_rfl
theorem yJ : ∀ fs, Tryz.prog.underlying 34 = some (.struct fs) → ∀ w, (fs.mapM (fun f => do pure (f.offset, ← sizeOf f.type) : Field → Sem (Nat × Nat))).run Tryz.prog w = .ok (((0, 3) :: (3, 1) :: (4, 1) :: (5, 1) :: (6, 10) :: (16, 1) :: (17, 1) :: (18, 1) :: (19, 1) :: (20, 1) :: (21, 1) :: (22, 1) :: (23, 1) :: (24, 1) :: (25, 14) :: (39, 1) :: (40, 3) :: (43, 1) :: []) : List (Nat × Nat)).toArray w := fun fs h w => by rw [Tryz.underlying34] at h; cases h; kernel_rfl
theorem yK : ∀ fs, Tryz.prog.underlying 55 = some (.struct fs) → ∀ w, (fs.mapM (fun f => do pure (f.offset, ← sizeOf f.type) : Field → Sem (Nat × Nat))).run Tryz.prog w = .ok ([(0, 1), (1, 3), (4, 1), (5, 10)] : List (Nat × Nat)).toArray w := fun fs h w => by rw [Tryz.underlying55] at h; cases h; kernel_rfl
theorem yL : ∀ fs, Tryz.prog.underlying 84 = some (.struct fs) → ∀ w, (fs.mapM (fun f => do pure (f.offset, ← sizeOf f.type) : Field → Sem (Nat × Nat))).run Tryz.prog w = .ok ([(0, 1)] : List (Nat × Nat)).toArray w := fun fs h w => by rw [Tryz.underlying84] at h; cases h; kernel_rfl
theorem xg : ∀ fs, Tryz.prog.underlying 151 = some (.struct fs) → ∀ w, (fs.mapM (fun f => do pure (f.offset, ← sizeOf f.type) : Field → Sem (Nat × Nat))).run Tryz.prog w = .ok ([(0, 1), (1, 1)] : List (Nat × Nat)).toArray w := fun fs h w => by rw [Tryz.underlying151] at h; cases h; kernel_rfl
theorem lR : Tryz.prog.eqGuardType Tryz.prog.depth 28 = false := by kernel_rfl
theorem lS {x y : cM} : (((x.f0 == y.f0) && ((x.f1 == y.f1) && ((x.f2 == y.f2) && ((x.f3 == y.f3) && ((x.f4 == y.f4) && ((x.f5 == y.f5) && ((x.f6 == y.f6) && ((x.f7 == y.f7) && ((x.f8 == y.f8) && ((x.f9 == y.f9) && true)))))))))) : Bool) = decide (x = y) := by
  obtain ⟨_, _, _, _, _, _, _, _, _, _⟩ := x; obtain ⟨_, _, _, _, _, _, _, _, _, _⟩ := y; rw [Bool.eq_iff_iff]; simp [and_assoc]
theorem vN : Tryz.prog.eqGuardType Tryz.prog.depth 31 = false := by kernel_rfl
theorem vP {x y : dz} : (((x.f0 == y.f0) && ((x.f1 == y.f1) && ((x.f2 == y.f2) && ((x.f3 == y.f3) && (((x.f4.f0 == y.f4.f0) && ((x.f4.f1 == y.f4.f1) && ((x.f4.f2 == y.f4.f2) && ((x.f4.f3 == y.f4.f3) && ((x.f4.f4 == y.f4.f4) && ((x.f4.f5 == y.f4.f5) && ((x.f4.f6 == y.f4.f6) && ((x.f4.f7 == y.f4.f7) && ((x.f4.f8 == y.f4.f8) && ((x.f4.f9 == y.f4.f9) && true)))))))))) && true))))) : Bool) = decide (x = y) := by
  obtain ⟨_, _, _, _, ⟨_, _, _, _, _, _, _, _, _, _⟩⟩ := x; obtain ⟨_, _, _, _, ⟨_, _, _, _, _, _, _, _, _, _⟩⟩ := y; rw [Bool.eq_iff_iff]; simp [and_assoc]
theorem vO : Tryz.prog.eqGuardType Tryz.prog.depth 53 = false := by kernel_rfl
theorem vQ {x y : fX} : (((x.f0 == y.f0) && ((x.f1 == y.f1) && ((x.f2 == y.f2) && true))) : Bool) = decide (x = y) := by
  obtain ⟨_, _, _⟩ := x; obtain ⟨_, _, _⟩ := y; rw [Bool.eq_iff_iff]; simp [and_assoc]
theorem tw : Tryz.prog.eqGuardType Tryz.prog.depth 55 = false := by kernel_rfl
theorem tz {x y : aY} : (((x.f0 == y.f0) && (((x.f1.f0 == y.f1.f0) && ((x.f1.f1 == y.f1.f1) && ((x.f1.f2 == y.f1.f2) && true))) && ((x.f2 == y.f2) && (((x.f3.f0 == y.f3.f0) && ((x.f3.f1 == y.f3.f1) && ((x.f3.f2 == y.f3.f2) && ((x.f3.f3 == y.f3.f3) && ((x.f3.f4 == y.f3.f4) && ((x.f3.f5 == y.f3.f5) && ((x.f3.f6 == y.f3.f6) && ((x.f3.f7 == y.f3.f7) && ((x.f3.f8 == y.f3.f8) && ((x.f3.f9 == y.f3.f9) && true)))))))))) && true)))) : Bool) = decide (x = y) := by
  obtain ⟨_, ⟨_, _, _⟩, _, ⟨_, _, _, _, _, _, _, _, _, _⟩⟩ := x; obtain ⟨_, ⟨_, _, _⟩, _, ⟨_, _, _, _, _, _, _, _, _, _⟩⟩ := y; rw [Bool.eq_iff_iff]; simp [and_assoc]
theorem jw : Tryz.prog.follows .mixedOrders = true := by kernel_rfl
instance : BG Tryz.prog:=⟨jw⟩
theorem AO : (Tryz.f61.name == "runtime.NumGoroutine") = false := by kernel_rfl
theorem AP : (Tryz.f63.name == "runtime.NumGoroutine") = false := by kernel_rfl
theorem AQ : (Tryz.f72.name == "runtime.NumGoroutine") = false := by kernel_rfl
theorem AR : (Tryz.f74.name == "runtime.NumGoroutine") = false := by kernel_rfl
theorem AS : (Tryz.f76.name == "runtime.NumGoroutine") = false := by kernel_rfl
theorem AT : (Tryz.f78.name == "runtime.NumGoroutine") = false := by kernel_rfl
theorem AU : (Tryz.f80.name == "runtime.NumGoroutine") = false := by kernel_rfl
theorem AV : (Tryz.f82.name == "runtime.NumGoroutine") = false := by kernel_rfl
theorem AW : (Tryz.f84.name == "runtime.NumGoroutine") = false := by kernel_rfl
theorem AX : (Tryz.f86.name == "runtime.NumGoroutine") = false := by kernel_rfl
theorem AY : (Tryz.f88.name == "runtime.NumGoroutine") = false := by kernel_rfl
theorem AZ : (Tryz.f90.name == "runtime.NumGoroutine") = false := by kernel_rfl
theorem Ba : (Tryz.f92.name == "runtime.NumGoroutine") = false := by kernel_rfl
theorem Bb : (Tryz.f94.name == "runtime.NumGoroutine") = false := by kernel_rfl
theorem yw : (Tryz.f155.name == "runtime.NumGoroutine") = false := by kernel_rfl
theorem vT : (Tryz.f157.name == "runtime.NumGoroutine") = false := by kernel_rfl
abbrev bn (x : aJ) (A0 : Option Addr) (c0 : Nat) (A1 : Option Addr) (c1 : Nat) (A2 : Option Addr) (c2 : Nat) (A3 : Option Addr) (c3 : Nat) : List bC := [Buf bD 55 A0 c0 x.f0.f2, gf 3 A1 c1 x.f7, Buf bD 55 A2 c2 x.f16.f2, kU 21 A3 c3 x.f17]
abbrev cN (b : Nat) (x : aJ) (A0 : Option Addr) (c0 : Nat) (A1 : Option Addr) (c1 : Nat) (A2 : Option Addr) (c2 : Nat) (A3 : Option Addr) (c3 : Nat) : List bC := aK b 34 (al x A0 c0 A1 c1 A2 c2 A3 c3) :: bn x A0 c0 A1 c1 A2 c2 A3 c3
abbrev cH (x : aJ) (A0 : Option Addr) (c0 : Nat) (A1 : Option Addr) (c1 : Nat) (A2 : Option Addr) (c2 : Nat) (A3 : Option Addr) (c3 : Nat) : List bC := [Ro bD A0 c0 x.f0.f2, pG A1 c1 x.f7, Ro bD A2 c2 x.f16.f2, nZ A3 c3 x.f17]
abbrev fc (b : Nat) (x : aJ) (A0 : Option Addr) (c0 : Nat) (A1 : Option Addr) (c1 : Nat) (A2 : Option Addr) (c2 : Nat) (A3 : Option Addr) (c3 : Nat) : List bC := aK b 34 (al x A0 c0 A1 c1 A2 c2 A3 c3) :: cH x A0 c0 A1 c1 A2 c2 A3 c3
abbrev cy : aJ := (aJ.mk (bH.mk 0 0 ([] : (List aY))) 0 0 false (cM.mk 0 0 false false false false false false false false) 0 0 ([] : (List Int)) false false false false false false (dz.mk 0 0 false false (cM.mk 0 0 false false false false false false false false)) false (bH.mk 0 0 ([] : (List aY))) ([] : (List Int)))
abbrev lC : aY := (aY.mk 0 (fX.mk 0 0 0) 0 (cM.mk 0 0 false false false false false false false false))
abbrev sV : dz := (dz.mk 0 0 false false (cM.mk 0 0 false false false false false false false false))
abbrev fU : cM := (cM.mk 0 0 false false false false false false false false)
abbrev pz : bH := (bH.mk 0 0 ([] : (List aY)))
@[reducible,instance] def EK := (⟨Tryz.func10, by kernel_rfl⟩ : dH Tryz.prog 10 _)
@[reducible,instance] def BQ := (⟨Tryz.func100, by kernel_rfl⟩ : dH Tryz.prog 100 _)
@[reducible,instance] def BR := (⟨Tryz.func101, by kernel_rfl⟩ : dH Tryz.prog 101 _)
@[reducible,instance] def BS := (⟨Tryz.func102, by kernel_rfl⟩ : dH Tryz.prog 102 _)
@[reducible,instance] def BU := (⟨Tryz.func103, by kernel_rfl⟩ : dH Tryz.prog 103 _)
@[reducible,instance] def BV := (⟨Tryz.func104, by kernel_rfl⟩ : dH Tryz.prog 104 _)
@[reducible,instance] def BW := (⟨Tryz.func105, by kernel_rfl⟩ : dH Tryz.prog 105 _)
@[reducible,instance] def BX := (⟨Tryz.func106, by kernel_rfl⟩ : dH Tryz.prog 106 _)
@[reducible,instance] def BY := (⟨Tryz.func107, by kernel_rfl⟩ : dH Tryz.prog 107 _)
@[reducible,instance] def BZ := (⟨Tryz.func108, by kernel_rfl⟩ : dH Tryz.prog 108 _)
@[reducible,instance] def Ca := (⟨Tryz.func109, by kernel_rfl⟩ : dH Tryz.prog 109 _)
@[reducible,instance] def Cb := (⟨Tryz.func110, by kernel_rfl⟩ : dH Tryz.prog 110 _)
@[reducible,instance] def Cc := (⟨Tryz.func111, by kernel_rfl⟩ : dH Tryz.prog 111 _)
@[reducible,instance] def Cd := (⟨Tryz.func112, by kernel_rfl⟩ : dH Tryz.prog 112 _)
@[reducible,instance] def Ce := (⟨Tryz.func113, by kernel_rfl⟩ : dH Tryz.prog 113 _)
@[reducible,instance] def Cf := (⟨Tryz.func114, by kernel_rfl⟩ : dH Tryz.prog 114 _)
@[reducible,instance] def Cg := (⟨Tryz.func115, by kernel_rfl⟩ : dH Tryz.prog 115 _)
@[reducible,instance] def Ch := (⟨Tryz.func116, by kernel_rfl⟩ : dH Tryz.prog 116 _)
@[reducible,instance] def Ci := (⟨Tryz.func117, by kernel_rfl⟩ : dH Tryz.prog 117 _)
@[reducible,instance] def Cj := (⟨Tryz.func118, by kernel_rfl⟩ : dH Tryz.prog 118 _)
@[reducible,instance] def Ck := (⟨Tryz.func119, by kernel_rfl⟩ : dH Tryz.prog 119 _)
@[reducible,instance] def EL := (⟨Tryz.func12, by kernel_rfl⟩ : dH Tryz.prog 12 _)
@[reducible,instance] def Cl := (⟨Tryz.func120, by kernel_rfl⟩ : dH Tryz.prog 120 _)
@[reducible,instance] def Cm := (⟨Tryz.func121, by kernel_rfl⟩ : dH Tryz.prog 121 _)
@[reducible,instance] def Cn := (⟨Tryz.func122, by kernel_rfl⟩ : dH Tryz.prog 122 _)
@[reducible,instance] def Co := (⟨Tryz.func123, by kernel_rfl⟩ : dH Tryz.prog 123 _)
@[reducible,instance] def Cp := (⟨Tryz.func124, by kernel_rfl⟩ : dH Tryz.prog 124 _)
@[reducible,instance] def Cq := (⟨Tryz.func125, by kernel_rfl⟩ : dH Tryz.prog 125 _)
@[reducible,instance] def Cr := (⟨Tryz.func126, by kernel_rfl⟩ : dH Tryz.prog 126 _)
@[reducible,instance] def Ct := (⟨Tryz.func127, by kernel_rfl⟩ : dH Tryz.prog 127 _)
@[reducible,instance] def Cu := (⟨Tryz.func128, by kernel_rfl⟩ : dH Tryz.prog 128 _)
@[reducible,instance] def Cv := (⟨Tryz.func129, by kernel_rfl⟩ : dH Tryz.prog 129 _)
@[reducible,instance] def EM := (⟨Tryz.func13, by kernel_rfl⟩ : dH Tryz.prog 13 _)
@[reducible,instance] def Cw := (⟨Tryz.func130, by kernel_rfl⟩ : dH Tryz.prog 130 _)
@[reducible,instance] def Cx := (⟨Tryz.func131, by kernel_rfl⟩ : dH Tryz.prog 131 _)
@[reducible,instance] def Cy := (⟨Tryz.func132, by kernel_rfl⟩ : dH Tryz.prog 132 _)
@[reducible,instance] def Cz := (⟨Tryz.func133, by kernel_rfl⟩ : dH Tryz.prog 133 _)
@[reducible,instance] def CB := (⟨Tryz.func134, by kernel_rfl⟩ : dH Tryz.prog 134 _)
@[reducible,instance] def CC := (⟨Tryz.func135, by kernel_rfl⟩ : dH Tryz.prog 135 _)
@[reducible,instance] def CE := (⟨Tryz.func136, by kernel_rfl⟩ : dH Tryz.prog 136 _)
@[reducible,instance] def CF := (⟨Tryz.func137, by kernel_rfl⟩ : dH Tryz.prog 137 _)
@[reducible,instance] def CG := (⟨Tryz.func138, by kernel_rfl⟩ : dH Tryz.prog 138 _)
@[reducible,instance] def CH := (⟨Tryz.func139, by kernel_rfl⟩ : dH Tryz.prog 139 _)
@[reducible,instance] def EN := (⟨Tryz.func14, by kernel_rfl⟩ : dH Tryz.prog 14 _)
@[reducible,instance] def CI := (⟨Tryz.func140, by kernel_rfl⟩ : dH Tryz.prog 140 _)
@[reducible,instance] def CJ := (⟨Tryz.func141, by kernel_rfl⟩ : dH Tryz.prog 141 _)
@[reducible,instance] def CK := (⟨Tryz.func142, by kernel_rfl⟩ : dH Tryz.prog 142 _)
@[reducible,instance] def CL := (⟨Tryz.func143, by kernel_rfl⟩ : dH Tryz.prog 143 _)
@[reducible,instance] def CM := (⟨Tryz.func144, by kernel_rfl⟩ : dH Tryz.prog 144 _)
@[reducible,instance] def CN := (⟨Tryz.func145, by kernel_rfl⟩ : dH Tryz.prog 145 _)
@[reducible,instance] def CO := (⟨Tryz.func146, by kernel_rfl⟩ : dH Tryz.prog 146 _)
@[reducible,instance] def CP := (⟨Tryz.func147, by kernel_rfl⟩ : dH Tryz.prog 147 _)
@[reducible,instance] def CQ := (⟨Tryz.func148, by kernel_rfl⟩ : dH Tryz.prog 148 _)
@[reducible,instance] def CR := (⟨Tryz.func149, by kernel_rfl⟩ : dH Tryz.prog 149 _)
@[reducible,instance] def EO := (⟨Tryz.func15, by kernel_rfl⟩ : dH Tryz.prog 15 _)
@[reducible,instance] def CS := (⟨Tryz.func150, by kernel_rfl⟩ : dH Tryz.prog 150 _)
@[reducible,instance] def CU := (⟨Tryz.func151, by kernel_rfl⟩ : dH Tryz.prog 151 _)
@[reducible,instance] def CV := (⟨Tryz.func152, by kernel_rfl⟩ : dH Tryz.prog 152 _)
@[reducible,instance] def CW := (⟨Tryz.func153, by kernel_rfl⟩ : dH Tryz.prog 153 _)
@[reducible,instance] def CX := (⟨Tryz.func154, by kernel_rfl⟩ : dH Tryz.prog 154 _)
@[reducible,instance] def CY := (⟨Tryz.func158, by kernel_rfl⟩ : dH Tryz.prog 158 _)
@[reducible,instance] def CZ := (⟨Tryz.func159, by kernel_rfl⟩ : dH Tryz.prog 159 _)
@[reducible,instance] def EP := (⟨Tryz.func16, by kernel_rfl⟩ : dH Tryz.prog 16 _)
@[reducible,instance] def EQ := (⟨Tryz.func17, by kernel_rfl⟩ : dH Tryz.prog 17 _)
@[reducible,instance] def ER := (⟨Tryz.func18, by kernel_rfl⟩ : dH Tryz.prog 18 _)
@[reducible,instance] def ES := (⟨Tryz.func19, by kernel_rfl⟩ : dH Tryz.prog 19 _)
@[reducible,instance] def ET := (⟨Tryz.func21, by kernel_rfl⟩ : dH Tryz.prog 21 _)
@[reducible,instance] def EU := (⟨Tryz.func22, by kernel_rfl⟩ : dH Tryz.prog 22 _)
@[reducible,instance] def EV := (⟨Tryz.func23, by kernel_rfl⟩ : dH Tryz.prog 23 _)
@[reducible,instance] def EW := (⟨Tryz.func24, by kernel_rfl⟩ : dH Tryz.prog 24 _)
@[reducible,instance] def EX := (⟨Tryz.func25, by kernel_rfl⟩ : dH Tryz.prog 25 _)
@[reducible,instance] def EY := (⟨Tryz.func26, by kernel_rfl⟩ : dH Tryz.prog 26 _)
@[reducible,instance] def EZ := (⟨Tryz.func27, by kernel_rfl⟩ : dH Tryz.prog 27 _)
@[reducible,instance] def Fa := (⟨Tryz.func28, by kernel_rfl⟩ : dH Tryz.prog 28 _)
@[reducible,instance] def Fb := (⟨Tryz.func29, by kernel_rfl⟩ : dH Tryz.prog 29 _)
@[reducible,instance] def Fc := (⟨Tryz.func30, by kernel_rfl⟩ : dH Tryz.prog 30 _)
@[reducible,instance] def Fe := (⟨Tryz.func31, by kernel_rfl⟩ : dH Tryz.prog 31 _)
@[reducible,instance] def Ff := (⟨Tryz.func32, by kernel_rfl⟩ : dH Tryz.prog 32 _)
@[reducible,instance] def Fg := (⟨Tryz.func33, by kernel_rfl⟩ : dH Tryz.prog 33 _)
@[reducible,instance] def Fh := (⟨Tryz.func34, by kernel_rfl⟩ : dH Tryz.prog 34 _)
@[reducible,instance] def Fi := (⟨Tryz.func35, by kernel_rfl⟩ : dH Tryz.prog 35 _)
@[reducible,instance] def Fj := (⟨Tryz.func36, by kernel_rfl⟩ : dH Tryz.prog 36 _)
@[reducible,instance] def Fl := (⟨Tryz.func37, by kernel_rfl⟩ : dH Tryz.prog 37 _)
@[reducible,instance] def Fo := (⟨Tryz.func38, by kernel_rfl⟩ : dH Tryz.prog 38 _)
@[reducible,instance] def Fp := (⟨Tryz.func39, by kernel_rfl⟩ : dH Tryz.prog 39 _)
@[reducible,instance] def Fq := (⟨Tryz.func40, by kernel_rfl⟩ : dH Tryz.prog 40 _)
@[reducible,instance] def Fs := (⟨Tryz.func41, by kernel_rfl⟩ : dH Tryz.prog 41 _)
@[reducible,instance] def Ft := (⟨Tryz.func42, by kernel_rfl⟩ : dH Tryz.prog 42 _)
@[reducible,instance] def Fu := (⟨Tryz.func43, by kernel_rfl⟩ : dH Tryz.prog 43 _)
@[reducible,instance] def Fv := (⟨Tryz.func44, by kernel_rfl⟩ : dH Tryz.prog 44 _)
@[reducible,instance] def Fw := (⟨Tryz.func45, by kernel_rfl⟩ : dH Tryz.prog 45 _)
@[reducible,instance] def Fx := (⟨Tryz.func46, by kernel_rfl⟩ : dH Tryz.prog 46 _)
@[reducible,instance] def Fy := (⟨Tryz.func47, by kernel_rfl⟩ : dH Tryz.prog 47 _)
@[reducible,instance] def FA := (⟨Tryz.func48, by kernel_rfl⟩ : dH Tryz.prog 48 _)
@[reducible,instance] def FB := (⟨Tryz.func49, by kernel_rfl⟩ : dH Tryz.prog 49 _)
@[reducible,instance] def FD := (⟨Tryz.func50, by kernel_rfl⟩ : dH Tryz.prog 50 _)
@[reducible,instance] def FE := (⟨Tryz.func51, by kernel_rfl⟩ : dH Tryz.prog 51 _)
@[reducible,instance] def FF := (⟨Tryz.func52, by kernel_rfl⟩ : dH Tryz.prog 52 _)
@[reducible,instance] def FG := (⟨Tryz.func53, by kernel_rfl⟩ : dH Tryz.prog 53 _)
@[reducible,instance] def FH := (⟨Tryz.func54, by kernel_rfl⟩ : dH Tryz.prog 54 _)
@[reducible,instance] def FI := (⟨Tryz.func55, by kernel_rfl⟩ : dH Tryz.prog 55 _)
@[reducible,instance] def FJ := (⟨Tryz.func56, by kernel_rfl⟩ : dH Tryz.prog 56 _)
@[reducible,instance] def FK := (⟨Tryz.func57, by kernel_rfl⟩ : dH Tryz.prog 57 _)
@[reducible,instance] def FL := (⟨Tryz.func58, by kernel_rfl⟩ : dH Tryz.prog 58 _)
@[reducible,instance] def FM := (⟨Tryz.func59, by kernel_rfl⟩ : dH Tryz.prog 59 _)
@[reducible,instance] def FN := (⟨Tryz.func60, by kernel_rfl⟩ : dH Tryz.prog 60 _)
@[reducible,instance] def FO := (⟨Tryz.func62, by kernel_rfl⟩ : dH Tryz.prog 62 _)
@[reducible,instance] def FP := (⟨Tryz.func64, by kernel_rfl⟩ : dH Tryz.prog 64 _)
@[reducible,instance] def FQ := (⟨Tryz.func65, by kernel_rfl⟩ : dH Tryz.prog 65 _)
@[reducible,instance] def FR := (⟨Tryz.func68, by kernel_rfl⟩ : dH Tryz.prog 68 _)
@[reducible,instance] def FS := (⟨Tryz.func69, by kernel_rfl⟩ : dH Tryz.prog 69 _)
@[reducible,instance] def FT := (⟨Tryz.func70, by kernel_rfl⟩ : dH Tryz.prog 70 _)
@[reducible,instance] def FU := (⟨Tryz.func71, by kernel_rfl⟩ : dH Tryz.prog 71 _)
@[reducible,instance] def FV := (⟨Tryz.func73, by kernel_rfl⟩ : dH Tryz.prog 73 _)
@[reducible,instance] def FW := (⟨Tryz.func75, by kernel_rfl⟩ : dH Tryz.prog 75 _)
@[reducible,instance] def FX := (⟨Tryz.func77, by kernel_rfl⟩ : dH Tryz.prog 77 _)
@[reducible,instance] def FY := (⟨Tryz.func79, by kernel_rfl⟩ : dH Tryz.prog 79 _)
@[reducible,instance] def Hb := (⟨Tryz.func8, by kernel_rfl⟩ : dH Tryz.prog 8 _)
@[reducible,instance] def FZ := (⟨Tryz.func81, by kernel_rfl⟩ : dH Tryz.prog 81 _)
@[reducible,instance] def Ga := (⟨Tryz.func83, by kernel_rfl⟩ : dH Tryz.prog 83 _)
@[reducible,instance] def Gb := (⟨Tryz.func85, by kernel_rfl⟩ : dH Tryz.prog 85 _)
@[reducible,instance] def Gc := (⟨Tryz.func87, by kernel_rfl⟩ : dH Tryz.prog 87 _)
@[reducible,instance] def Gd := (⟨Tryz.func89, by kernel_rfl⟩ : dH Tryz.prog 89 _)
@[reducible,instance] def Ge := (⟨Tryz.func91, by kernel_rfl⟩ : dH Tryz.prog 91 _)
@[reducible,instance] def Gf := (⟨Tryz.func93, by kernel_rfl⟩ : dH Tryz.prog 93 _)
@[reducible,instance] def Gg := (⟨Tryz.func95, by kernel_rfl⟩ : dH Tryz.prog 95 _)
@[reducible,instance] def Gi := (⟨Tryz.func96, by kernel_rfl⟩ : dH Tryz.prog 96 _)
@[reducible,instance] def Gj := (⟨Tryz.func97, by kernel_rfl⟩ : dH Tryz.prog 97 _)
@[reducible,instance] def Gk := (⟨Tryz.func98, by kernel_rfl⟩ : dH Tryz.prog 98 _)
@[reducible,instance] def Gl := (⟨Tryz.func99, by kernel_rfl⟩ : dH Tryz.prog 99 _)
@[instance] theorem zk : jU Tryz.prog 151 0 0 := ⟨_, _, Tryz.underlying151, rfl, rfl, wY⟩
@[instance] theorem zl : jU Tryz.prog 151 1 1 := ⟨_, _, Tryz.underlying151, rfl, rfl, wY⟩
@[instance] theorem zX : jU Tryz.prog 26 0 0 := ⟨_, _, Tryz.underlying26, rfl, rfl, sX⟩
@[instance] theorem zY : jU Tryz.prog 26 1 1 := ⟨_, _, Tryz.underlying26, rfl, rfl, sX⟩
@[instance] theorem zZ : jU Tryz.prog 26 2 2 := ⟨_, _, Tryz.underlying26, rfl, rfl, Bc⟩
@[instance] theorem Aa : jU Tryz.prog 28 0 0 := ⟨_, _, Tryz.underlying28, rfl, rfl, sX⟩
@[instance] theorem Ab : jU Tryz.prog 28 1 1 := ⟨_, _, Tryz.underlying28, rfl, rfl, sX⟩
@[instance] theorem Ac : jU Tryz.prog 31 0 0 := ⟨_, _, Tryz.underlying31, rfl, rfl, sX⟩
@[instance] theorem Ae : jU Tryz.prog 31 1 1 := ⟨_, _, Tryz.underlying31, rfl, rfl, sX⟩
@[instance] theorem Af : jU Tryz.prog 31 2 2 := ⟨_, _, Tryz.underlying31, rfl, rfl, tP⟩
@[instance] theorem Ag : jU Tryz.prog 31 3 3 := ⟨_, _, Tryz.underlying31, rfl, rfl, tP⟩
@[instance] theorem Ah : jU Tryz.prog 31 4 4 := ⟨_, _, Tryz.underlying31, rfl, rfl, wZ⟩
@[instance] theorem Ai : jU Tryz.prog 34 0 0 := ⟨_, _, Tryz.underlying34, rfl, rfl, yx⟩
@[instance] theorem zm : jU Tryz.prog 34 10 21 := ⟨_, _, Tryz.underlying34, rfl, rfl, tP⟩
@[instance] theorem zn : jU Tryz.prog 34 11 22 := ⟨_, _, Tryz.underlying34, rfl, rfl, tP⟩
@[instance] theorem zo : jU Tryz.prog 34 12 23 := ⟨_, _, Tryz.underlying34, rfl, rfl, tP⟩
@[instance] theorem zp : jU Tryz.prog 34 13 24 := ⟨_, _, Tryz.underlying34, rfl, rfl, tP⟩
@[instance] theorem zq : jU Tryz.prog 34 14 25 := ⟨_, _, Tryz.underlying34, rfl, rfl, Be⟩
@[instance] theorem zr : jU Tryz.prog 34 15 39 := ⟨_, _, Tryz.underlying34, rfl, rfl, tP⟩
@[instance] theorem zt : jU Tryz.prog 34 16 40 := ⟨_, _, Tryz.underlying34, rfl, rfl, yx⟩
@[instance] theorem zu : jU Tryz.prog 34 17 43 := ⟨_, _, Tryz.underlying34, rfl, rfl, Bf⟩
@[instance] theorem Aj : jU Tryz.prog 34 1 3 := ⟨_, _, Tryz.underlying34, rfl, rfl, sX⟩
@[instance] theorem Ak : jU Tryz.prog 34 2 4 := ⟨_, _, Tryz.underlying34, rfl, rfl, sX⟩
@[instance] theorem Al : jU Tryz.prog 34 3 5 := ⟨_, _, Tryz.underlying34, rfl, rfl, tP⟩
@[instance] theorem Am : jU Tryz.prog 34 4 6 := ⟨_, _, Tryz.underlying34, rfl, rfl, wZ⟩
@[instance] theorem An : jU Tryz.prog 34 5 16 := ⟨_, _, Tryz.underlying34, rfl, rfl, sX⟩
@[instance] theorem Ao : jU Tryz.prog 34 6 17 := ⟨_, _, Tryz.underlying34, rfl, rfl, sX⟩
@[instance] theorem Ap : jU Tryz.prog 34 7 18 := ⟨_, _, Tryz.underlying34, rfl, rfl, Bd⟩
@[instance] theorem Aq : jU Tryz.prog 34 8 19 := ⟨_, _, Tryz.underlying34, rfl, rfl, tP⟩
@[instance] theorem Ar : jU Tryz.prog 34 9 20 := ⟨_, _, Tryz.underlying34, rfl, rfl, tP⟩
@[instance] theorem Au : jU Tryz.prog 44 0 0 := ⟨_, _, Tryz.underlying44, rfl, rfl, DT⟩
@[instance] theorem Av : jU Tryz.prog 44 1 1 := ⟨_, _, Tryz.underlying44, rfl, rfl, sX⟩
@[instance] theorem Aw : jU Tryz.prog 44 2 2 := ⟨_, _, Tryz.underlying44, rfl, rfl, sX⟩
@[instance] theorem Ax : jU Tryz.prog 44 3 3 := ⟨_, _, Tryz.underlying44, rfl, rfl, tP⟩
@[instance] theorem Ay : jU Tryz.prog 55 0 0 := ⟨_, _, Tryz.underlying55, rfl, rfl, wY⟩
@[instance] theorem Az : jU Tryz.prog 55 1 1 := ⟨_, _, Tryz.underlying55, rfl, rfl, Bg⟩
@[instance] theorem AA : jU Tryz.prog 55 2 4 := ⟨_, _, Tryz.underlying55, rfl, rfl, DT⟩
@[instance] theorem AB : jU Tryz.prog 55 3 5 := ⟨_, _, Tryz.underlying55, rfl, rfl, wZ⟩
@[instance] theorem AC : jU Tryz.prog 84 0 0 := ⟨_, _, Tryz.underlying84, rfl, rfl, Bh⟩
@[reducible,instance] def zw := (⟨xg⟩ : vE Tryz.prog 151 _)
@[reducible,instance] def AF := (⟨yG⟩ : vE Tryz.prog 26 _)
@[reducible,instance] def AG := (⟨yH⟩ : vE Tryz.prog 28 _)
@[reducible,instance] def AH := (⟨yI⟩ : vE Tryz.prog 31 _)
@[reducible,instance] def AI := (⟨yJ⟩ : vE Tryz.prog 34 _)
@[reducible,instance] def AJ := (⟨yK⟩ : vE Tryz.prog 55 _)
@[reducible,instance] def AK := (⟨yL⟩ : vE Tryz.prog 84 _)
@[reducible,instance] def AL := (⟨qz⟩ : nH Tryz.prog 138 _)
@[reducible,instance] def Da := (⟨iB⟩ : nH Tryz.prog 21 _)
@[reducible,instance] def Db := (⟨Br⟩ : nH Tryz.prog 24 _)
@[reducible,instance] def Dc := (⟨uw⟩ : nH Tryz.prog 26 _)
@[reducible,instance] def De := (⟨mf⟩ : nH Tryz.prog 28 _)
@[reducible,instance] def Df := (⟨Bt⟩ : nH Tryz.prog 29 _)
@[reducible,instance] def Gm := (⟨jl⟩ : nH Tryz.prog 3 _)
@[reducible,instance] def Dg := (⟨yY⟩ : nH Tryz.prog 31 _)
@[reducible,instance] def Dh := (⟨Bu⟩ : nH Tryz.prog 32 _)
@[reducible,instance] def Di := (⟨rC⟩ : nH Tryz.prog 34 _)
@[reducible,instance] def Gn := (⟨GX⟩ : nH Tryz.prog 4 _)
@[reducible,instance] def Dj := (⟨Bv⟩ : nH Tryz.prog 44 _)
@[reducible,instance] def Gp := (⟨GY⟩ : nH Tryz.prog 5 _)
@[reducible,instance] def Dk := (⟨Bw⟩ : nH Tryz.prog 53 _)
@[reducible,instance] def Dl := (⟨cl⟩ : nH Tryz.prog 55 _)
@[reducible,instance] def Dm := (⟨Bx⟩ : nH Tryz.prog 84 _)
@[reducible,instance] def Dn := (⟨Tryz.underlying116⟩ : mo Tryz.prog 116 _)
@[reducible,instance] def Do := (⟨Tryz.underlying138⟩ : mo Tryz.prog 138 _)
@[reducible,instance] def Dp := (⟨Tryz.underlying139⟩ : mo Tryz.prog 139 _)
@[reducible,instance] def Dq := (⟨Tryz.underlying141⟩ : mo Tryz.prog 141 _)
@[reducible,instance] def Dr := (⟨Tryz.underlying151⟩ : mo Tryz.prog 151 _)
@[reducible,instance] def Gq := (⟨Tryz.underlying21⟩ : mo Tryz.prog 21 _)
@[reducible,instance] def Gs := (⟨Tryz.underlying24⟩ : mo Tryz.prog 24 _)
@[reducible,instance] def Gt := (⟨Tryz.underlying26⟩ : mo Tryz.prog 26 _)
@[reducible,instance] def Gu := (⟨Tryz.underlying28⟩ : mo Tryz.prog 28 _)
@[reducible,instance] def Gv := (⟨Tryz.underlying29⟩ : mo Tryz.prog 29 _)
@[reducible,instance] def Hc := (⟨Tryz.underlying3⟩ : mo Tryz.prog 3 _)
@[reducible,instance] def Gw := (⟨Tryz.underlying31⟩ : mo Tryz.prog 31 _)
@[reducible,instance] def Gx := (⟨Tryz.underlying32⟩ : mo Tryz.prog 32 _)
@[reducible,instance] def Gy := (⟨Tryz.underlying34⟩ : mo Tryz.prog 34 _)
@[reducible,instance] def Hd := (⟨Tryz.underlying4⟩ : mo Tryz.prog 4 _)
@[reducible,instance] def Gz := (⟨Tryz.underlying44⟩ : mo Tryz.prog 44 _)
@[reducible,instance] def He := (⟨Tryz.underlying5⟩ : mo Tryz.prog 5 _)
@[reducible,instance] def GA := (⟨Tryz.underlying53⟩ : mo Tryz.prog 53 _)
@[reducible,instance] def GB := (⟨Tryz.underlying55⟩ : mo Tryz.prog 55 _)
@[reducible,instance] def GC := (⟨Tryz.underlying78⟩ : mo Tryz.prog 78 _)
@[reducible,instance] def GD := (⟨Tryz.underlying82⟩ : mo Tryz.prog 82 _)
@[reducible,instance] def GE := (⟨Tryz.underlying84⟩ : mo Tryz.prog 84 _)
@[reducible,instance] def yd := (⟨vA⟩ : qH Tryz.prog 138 _)
@[reducible,instance] def ye := (⟨vB⟩ : qH Tryz.prog 139 _)
@[reducible,instance] def yf := (⟨vC⟩ : qH Tryz.prog 141 _)
@[reducible,instance] def yg := (⟨pB⟩ : qH Tryz.prog 151 _)
@[reducible,instance] def zx := (⟨xu⟩ : qH Tryz.prog 26 _)
@[reducible,instance] def zy := (⟨xv⟩ : qH Tryz.prog 28 _)
@[reducible,instance] def zA := (⟨xw⟩ : qH Tryz.prog 31 _)
@[reducible,instance] def zB := (⟨pC⟩ : qH Tryz.prog 34 _)
@[reducible,instance] def zC := (⟨xx⟩ : qH Tryz.prog 53 _)
@[reducible,instance] def zD := (⟨jD⟩ : qH Tryz.prog 55 _)
@[reducible,instance] def zE := (⟨xy⟩ : qH Tryz.prog 78 _)
@[reducible,instance] def zF := (⟨xz⟩ : qH Tryz.prog 84 _)
end Go.Proofs.YtckilbegmbaeeaaGreat.Z6

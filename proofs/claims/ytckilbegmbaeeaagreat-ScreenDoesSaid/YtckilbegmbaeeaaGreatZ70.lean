/- What the texts of the functions use: types, kinds, facts of the program. -/
import Derived.Test.YtckilbegmbaeeaaGreatProg
import Derived.Test.YtckilbegmbaeeaaGreatZ7S1
namespace Go.Proofs.YtckilbegmbaeeaaGreat.Z7
open Go Go.RowKit Go.Proofs.YtckilbegmbaeeaaGreat.SL
set_option linter.unusedVariables false
set_option linter.unusedSimpArgs false
attribute [local irreducible] IntKind.wrap dm fE iD md lW rn lM fG ma rd sub bytesOf jD dv
structure BW where
  f0 : Int
  f1 : Int
  deriving Inhabited, DecidableEq
structure fX where
  f0 : Int
  f1 : Int
  f2 : Int
  deriving Inhabited, DecidableEq
structure cN where
  f0 : Int
  f1 : Int
  f2 : Bool
  f3 : Bool
  f4 : Bool
  f5 : Bool
  f6 : Bool
  f7 : Bool
  f8 : Bool
  f9 : Bool
  deriving Inhabited, DecidableEq
structure ba where
  f0 : Int
  f1 : fX
  f2 : Int
  f3 : cN
  deriving Inhabited, DecidableEq
structure bJ where
  f0 : Int
  f1 : Int
  f2 : (List ba)
  deriving Inhabited, DecidableEq
structure dH where
  f0 : Int
  f1 : Int
  f2 : Bool
  f3 : Bool
  f4 : cN
  deriving Inhabited, DecidableEq
structure aJ where
  f0 : bJ
  f1 : Int
  f2 : Int
  f3 : Bool
  f4 : cN
  f5 : Int
  f6 : Int
  f7 : (List Int)
  f8 : Bool
  f9 : Bool
  f10 : Bool
  f11 : Bool
  f12 : Bool
  f13 : Bool
  f14 : dH
  f15 : Bool
  f16 : bJ
  f17 : (List Int)
  deriving Inhabited, DecidableEq
structure qI where
  f0 : Int
  f1 : Int
  f2 : Int
  f3 : Bool
  deriving Inhabited, DecidableEq
structure bc where
  f0 : Int
  f1 : Int
  deriving Inhabited, DecidableEq
structure bZ where
  f0 : Int
  f1 : Int
  deriving Inhabited, DecidableEq
abbrev bF (x : cN) : List Value := [.int .i64 x.f0, .int .i64 x.f1, .bool x.f2, .bool x.f3, .bool x.f4, .bool x.f5, .bool x.f6, .bool x.f7, .bool x.f8, .bool x.f9]
abbrev bW (x : ba) : List Value := (.int .i32 x.f0 :: .int .i32 x.f1.f0 :: .int .i32 x.f1.f1 :: .int .i32 x.f1.f2 :: .int .u8 x.f2 :: .int .i64 x.f3.f0 :: .int .i64 x.f3.f1 :: .bool x.f3.f2 :: .bool x.f3.f3 :: .bool x.f3.f4 :: .bool x.f3.f5 :: .bool x.f3.f6 :: .bool x.f3.f7 :: .bool x.f3.f8 :: .bool x.f3.f9 :: [])
abbrev gM (x : dH) : List Value := (.int .i64 x.f0 :: .int .i64 x.f1 :: .bool x.f2 :: .bool x.f3 :: .int .i64 x.f4.f0 :: .int .i64 x.f4.f1 :: .bool x.f4.f2 :: .bool x.f4.f3 :: .bool x.f4.f4 :: .bool x.f4.f5 :: .bool x.f4.f6 :: .bool x.f4.f7 :: .bool x.f4.f8 :: .bool x.f4.f9 :: [])
abbrev am (x : aJ) (A1 : Option Addr) (c2 : Nat) (A4 : Option Addr) (c5 : Nat) (A7 : Option Addr) (c8 : Nat) (A10 : Option Addr) (c11 : Nat) : List Value := (.int .i64 x.f0.f0 :: .int .i64 x.f0.f1 :: .slice A1 x.f0.f2.length c2 :: .int .i64 x.f1 :: .int .i64 x.f2 :: .bool x.f3 :: .int .i64 x.f4.f0 :: .int .i64 x.f4.f1 :: .bool x.f4.f2 :: .bool x.f4.f3 :: .bool x.f4.f4 :: .bool x.f4.f5 :: .bool x.f4.f6 :: .bool x.f4.f7 :: .bool x.f4.f8 :: .bool x.f4.f9 :: .int .i64 x.f5 :: .int .i64 x.f6 :: .slice A4 x.f7.length c5 :: .bool x.f8 :: .bool x.f9 :: .bool x.f10 :: .bool x.f11 :: .bool x.f12 :: .bool x.f13 :: .int .i64 x.f14.f0 :: .int .i64 x.f14.f1 :: .bool x.f14.f2 :: .bool x.f14.f3 :: .int .i64 x.f14.f4.f0 :: .int .i64 x.f14.f4.f1 :: .bool x.f14.f4.f2 :: .bool x.f14.f4.f3 :: .bool x.f14.f4.f4 :: .bool x.f14.f4.f5 :: .bool x.f14.f4.f6 :: .bool x.f14.f4.f7 :: .bool x.f14.f4.f8 :: .bool x.f14.f4.f9 :: .bool x.f15 :: .int .i64 x.f16.f0 :: .int .i64 x.f16.f1 :: .slice A7 x.f16.f2.length c8 :: .slice A10 x.f17.length c11 :: [])
def vT (x : BW) : List Value := [.int .i64 x.f0, .int .i64 x.f1]
def HA : Kd BW := Kd.fl 2 vT (fun _ => rfl) (fun x v h => by simp only [vT, List.mem_cons, List.not_mem_nil, or_false] at h; rcases h with rfl | rfl <;> rfl)
def vW (x : fX) : List Value := [.int .i32 x.f0, .int .i32 x.f1, .int .i32 x.f2]
def Hc : Kd fX := Kd.fl 3 vW (fun _ => rfl) (fun x v h => by simp only [vW, List.mem_cons, List.not_mem_nil, or_false] at h; rcases h with rfl | rfl | rfl <;> rfl)
def vU (x : cN) : List Value := [.int .i64 x.f0, .int .i64 x.f1, .bool x.f2, .bool x.f3, .bool x.f4, .bool x.f5, .bool x.f6, .bool x.f7, .bool x.f8, .bool x.f9]
def pG : Kd cN := Kd.fl 10 vU (fun _ => rfl) (fun x v h => by simp only [vU, List.mem_cons, List.not_mem_nil, or_false] at h; rcases h with rfl | rfl | rfl | rfl | rfl | rfl | rfl | rfl | rfl | rfl <;> rfl)
def cZ (x : ba) : List Value := (.int .i32 x.f0 :: .int .i32 x.f1.f0 :: .int .i32 x.f1.f1 :: .int .i32 x.f1.f2 :: .int .u8 x.f2 :: .int .i64 x.f3.f0 :: .int .i64 x.f3.f1 :: .bool x.f3.f2 :: .bool x.f3.f3 :: .bool x.f3.f4 :: .bool x.f3.f5 :: .bool x.f3.f6 :: .bool x.f3.f7 :: .bool x.f3.f8 :: .bool x.f3.f9 :: [])
def bI : Kd ba := Kd.fl 15 cZ (fun _ => rfl) (fun x v h => by simp only [cZ, List.mem_cons, List.not_mem_nil, or_false] at h; rcases h with rfl | rfl | rfl | rfl | rfl | rfl | rfl | rfl | rfl | rfl | rfl | rfl | rfl | rfl | rfl <;> rfl)
def Ei (x : bJ) (cs_ : List Value) (Bs_ : List bC) : Prop := ∃ (a : Option Addr) (c2 : Nat), cs_ = [.int .i64 x.f0, .int .i64 x.f1, .slice a x.f2.length c2] ∧ Bs_ = [Ro bI a c2 x.f2]
def GZ : Kd bJ := Kd.ofD 3 Ei (fun ⟨_, _, e, _⟩ => by rw [e]; rfl) (fun ⟨_, _, e, _⟩ v h => by rw [e] at h; simp only [List.mem_cons, List.not_mem_nil, or_false] at h; rcases h with rfl | rfl | rfl <;> rfl)
def tA (x : dH) : List Value := (.int .i64 x.f0 :: .int .i64 x.f1 :: .bool x.f2 :: .bool x.f3 :: .int .i64 x.f4.f0 :: .int .i64 x.f4.f1 :: .bool x.f4.f2 :: .bool x.f4.f3 :: .bool x.f4.f4 :: .bool x.f4.f5 :: .bool x.f4.f6 :: .bool x.f4.f7 :: .bool x.f4.f8 :: .bool x.f4.f9 :: [])
def xS : Kd dH := Kd.fl 14 tA (fun _ => rfl) (fun x v h => by simp only [tA, List.mem_cons, List.not_mem_nil, or_false] at h; rcases h with rfl | rfl | rfl | rfl | rfl | rfl | rfl | rfl | rfl | rfl | rfl | rfl | rfl | rfl <;> rfl)
def Ej (x : aJ) (cs_ : List Value) (Bs_ : List bC) : Prop := ∃ (c : Option Addr) (c2 : Nat), ∃ (d : Option Addr) (j : Nat), ∃ (h : Option Addr) (l : Nat), ∃ (a : Option Addr) (b : Nat), cs_ = (.int .i64 x.f0.f0 :: .int .i64 x.f0.f1 :: .slice c x.f0.f2.length c2 :: .int .i64 x.f1 :: .int .i64 x.f2 :: .bool x.f3 :: .int .i64 x.f4.f0 :: .int .i64 x.f4.f1 :: .bool x.f4.f2 :: .bool x.f4.f3 :: .bool x.f4.f4 :: .bool x.f4.f5 :: .bool x.f4.f6 :: .bool x.f4.f7 :: .bool x.f4.f8 :: .bool x.f4.f9 :: .int .i64 x.f5 :: .int .i64 x.f6 :: .slice d x.f7.length j :: .bool x.f8 :: .bool x.f9 :: .bool x.f10 :: .bool x.f11 :: .bool x.f12 :: .bool x.f13 :: .int .i64 x.f14.f0 :: .int .i64 x.f14.f1 :: .bool x.f14.f2 :: .bool x.f14.f3 :: .int .i64 x.f14.f4.f0 :: .int .i64 x.f14.f4.f1 :: .bool x.f14.f4.f2 :: .bool x.f14.f4.f3 :: .bool x.f14.f4.f4 :: .bool x.f14.f4.f5 :: .bool x.f14.f4.f6 :: .bool x.f14.f4.f7 :: .bool x.f14.f4.f8 :: .bool x.f14.f4.f9 :: .bool x.f15 :: .int .i64 x.f16.f0 :: .int .i64 x.f16.f1 :: .slice h x.f16.f2.length l :: .slice a x.f17.length b :: []) ∧ Bs_ = [Ro bI c c2 x.f0.f2, Ro (Kd.int .i64) d j x.f7, Ro bI h l x.f16.f2, Ro (Kd.int .i32) a b x.f17]
def Ha : Kd aJ := Kd.ofD 44 Ej (fun ⟨_, _, _, _, _, _, _, _, e, _⟩ => by rw [e]; rfl) (fun ⟨_, _, _, _, _, _, _, _, e, _⟩ v h => by rw [e] at h; simp only [List.mem_cons, List.not_mem_nil, or_false] at h; rcases h with rfl | rfl | rfl | rfl | rfl | rfl | rfl | rfl | rfl | rfl | rfl | rfl | rfl | rfl | rfl | rfl | rfl | rfl | rfl | rfl | rfl | rfl | rfl | rfl | rfl | rfl | rfl | rfl | rfl | rfl | rfl | rfl | rfl | rfl | rfl | rfl | rfl | rfl | rfl | rfl | rfl | rfl | rfl | rfl <;> rfl)
def vV (x : qI) : List Value := [.int .u8 x.f0, .int .i64 x.f1, .int .i64 x.f2, .bool x.f3]
def Hb : Kd qI := Kd.fl 4 vV (fun _ => rfl) (fun x v h => by simp only [vV, List.mem_cons, List.not_mem_nil, or_false] at h; rcases h with rfl | rfl | rfl | rfl <;> rfl)
def eW (x : bc) : List Value := [.int .i32 x.f0, .int .i32 x.f1]
def vp : Kd bc := Kd.fl 2 eW (fun _ => rfl) (fun x v h => by simp only [eW, List.mem_cons, List.not_mem_nil, or_false] at h; rcases h with rfl | rfl <;> rfl)
def mU (x : bZ) : List Value := [.int .i32 x.f0, .int .i32 x.f1]
def qn : Kd bZ := Kd.fl 2 mU (fun _ => rfl) (fun x v h => by simp only [mU, List.mem_cons, List.not_mem_nil, or_false] at h; rcases h with rfl | rfl <;> rfl)
theorem jm : (Tryz.prog.info? 3).map (·.size) = some 1 := by kernel_rfl
theorem tc : ((Tryz.prog.info? 3).map fun i => decide (i.size = 0)) = some false := by kernel_rfl
theorem Hq : (Tryz.prog.info? 4).map (·.size) = some 1 := by kernel_rfl
theorem tU : ((Tryz.prog.info? 4).map fun i => decide (i.size = 0)) = some false := by kernel_rfl
theorem Hr : (Tryz.prog.info? 5).map (·.size) = some 1 := by kernel_rfl
theorem Eh : ((Tryz.prog.info? 5).map fun i => decide (i.size = 0)) = some false := by kernel_rfl
theorem jg : (Tryz.prog.info? 21).map (·.size) = some 1 := by kernel_rfl
theorem xp : ((Tryz.prog.info? 21).map fun i => decide (i.size = 0)) = some false := by kernel_rfl
theorem BG : (Tryz.prog.info? 24).map (·.size) = some 1 := by kernel_rfl
theorem Br : ((Tryz.prog.info? 24).map fun i => decide (i.size = 0)) = some false := by kernel_rfl
theorem uA : (Tryz.prog.info? 26).map (·.size) = some 3 := by kernel_rfl
theorem yK : ((Tryz.prog.info? 26).map fun i => decide (i.size = 0)) = some false := by kernel_rfl
theorem mf : (Tryz.prog.info? 28).map (·.size) = some 10 := by kernel_rfl
theorem xq : ((Tryz.prog.info? 28).map fun i => decide (i.size = 0)) = some false := by kernel_rfl
theorem BH : (Tryz.prog.info? 29).map (·.size) = some 1 := by kernel_rfl
theorem Bt : ((Tryz.prog.info? 29).map fun i => decide (i.size = 0)) = some false := by kernel_rfl
theorem zk : (Tryz.prog.info? 31).map (·.size) = some 14 := by kernel_rfl
theorem Bu : ((Tryz.prog.info? 31).map fun i => decide (i.size = 0)) = some false := by kernel_rfl
theorem BI : (Tryz.prog.info? 32).map (·.size) = some 1 := by kernel_rfl
theorem Bv : ((Tryz.prog.info? 32).map fun i => decide (i.size = 0)) = some false := by kernel_rfl
theorem rH : (Tryz.prog.info? 34).map (·.size) = some 44 := by kernel_rfl
theorem BJ : (Tryz.prog.info? 44).map (·.size) = some 4 := by kernel_rfl
theorem BK : (Tryz.prog.info? 53).map (·.size) = some 3 := by kernel_rfl
theorem Bw : ((Tryz.prog.info? 53).map fun i => decide (i.size = 0)) = some false := by kernel_rfl
theorem ck : (Tryz.prog.info? 55).map (·.size) = some 15 := by kernel_rfl
theorem Bx : ((Tryz.prog.info? 82).map fun i => decide (i.size = 0)) = some false := by kernel_rfl
theorem BL : (Tryz.prog.info? 84).map (·.size) = some 1 := by kernel_rfl
theorem qz : (Tryz.prog.info? 138).map (·.size) = some 2 := by kernel_rfl
theorem uy : (Tryz.prog.info? 139).map (·.size) = some 74 := by kernel_rfl
theorem uz : (Tryz.prog.info? 141).map (·.size) = some 52 := by kernel_rfl
theorem ss : (Tryz.prog.info? 151).map (·.size) = some 2 := by kernel_rfl
theorem nu : (Tryz.prog.info? 3).bind (·.zero) = some (.int .i64 0) := by kernel_rfl
theorem pg : (Tryz.prog.info? 3).map (fun i => (i.zero, i.size, i.bytes)) = some (some (.int .i64 0), 1, 8) := by kernel_rfl
theorem rL : (Tryz.prog.info? 21).bind (·.zero) = some (.int .i32 0) := by kernel_rfl
theorem tN : (Tryz.prog.info? 21).map (fun i => (i.zero, i.size, i.bytes)) = some (some (.int .i32 0), 1, 4) := by kernel_rfl
theorem xI : (Tryz.prog.info? 26).bind (·.zero) = some (.agg #[.int .i64 0, .int .i64 0, .slice none 0 0]) := by kernel_rfl
theorem xJ : (Tryz.prog.info? 28).bind (·.zero) = some (.agg #[.int .i64 0, .int .i64 0, .bool false, .bool false, .bool false, .bool false, .bool false, .bool false, .bool false, .bool false]) := by kernel_rfl
theorem xK : (Tryz.prog.info? 31).bind (·.zero) = some (.agg (List.toArray (.int .i64 0 :: .int .i64 0 :: .bool false :: .bool false :: .int .i64 0 :: .int .i64 0 :: .bool false :: .bool false :: .bool false :: .bool false :: .bool false :: .bool false :: .bool false :: .bool false :: []))) := by kernel_rfl
theorem pD : (Tryz.prog.info? 34).bind (·.zero) = some (.agg (List.toArray (.int .i64 0 :: .int .i64 0 :: .slice none 0 0 :: .int .i64 0 :: .int .i64 0 :: .bool false :: .int .i64 0 :: .int .i64 0 :: .bool false :: .bool false :: .bool false :: .bool false :: .bool false :: .bool false :: .bool false :: .bool false :: .int .i64 0 :: .int .i64 0 :: .slice none 0 0 :: .bool false :: .bool false :: .bool false :: .bool false :: .bool false :: .bool false :: .int .i64 0 :: .int .i64 0 :: .bool false :: .bool false :: .int .i64 0 :: .int .i64 0 :: .bool false :: .bool false :: .bool false :: .bool false :: .bool false :: .bool false :: .bool false :: .bool false :: .bool false :: .int .i64 0 :: .int .i64 0 :: .slice none 0 0 :: .slice none 0 0 :: []))) := by kernel_rfl
theorem xL : (Tryz.prog.info? 53).bind (·.zero) = some (.agg #[.int .i32 0, .int .i32 0, .int .i32 0]) := by kernel_rfl
theorem jF : (Tryz.prog.info? 55).bind (·.zero) = some (.agg (List.toArray (.int .i32 0 :: .int .i32 0 :: .int .i32 0 :: .int .i32 0 :: .int .u8 0 :: .int .i64 0 :: .int .i64 0 :: .bool false :: .bool false :: .bool false :: .bool false :: .bool false :: .bool false :: .bool false :: .bool false :: []))) := by kernel_rfl
theorem mD : (Tryz.prog.info? 55).map (fun i => (i.zero, i.size, i.bytes)) = some (some (.agg (List.toArray (.int .i32 0 :: .int .i32 0 :: .int .i32 0 :: .int .i32 0 :: .int .u8 0 :: .int .i64 0 :: .int .i64 0 :: .bool false :: .bool false :: .bool false :: .bool false :: .bool false :: .bool false :: .bool false :: .bool false :: []))), 15, 48) := by kernel_rfl
theorem xM : (Tryz.prog.info? 78).bind (·.zero) = some (.agg (List.toArray (.int .i64 0 :: .int .i64 0 :: .bool false :: .bool false :: .int .i64 0 :: .int .i64 0 :: .bool false :: .bool false :: .bool false :: .bool false :: .bool false :: .bool false :: .bool false :: .bool false :: .int .i64 0 :: .int .i64 0 :: .bool false :: .bool false :: .int .i64 0 :: .int .i64 0 :: .bool false :: .bool false :: .bool false :: .bool false :: .bool false :: .bool false :: .bool false :: .bool false :: []))) := by kernel_rfl
theorem xN : (Tryz.prog.info? 84).bind (·.zero) = some (.agg #[.pointer none]) := by kernel_rfl
theorem vL : (Tryz.prog.info? 138).bind (·.zero) = some (.agg #[.int .i32 0, .int .i32 0]) := by kernel_rfl
theorem vM : (Tryz.prog.info? 139).bind (·.zero) = some (.agg (List.flatMap eW ((bc.mk 0 0) :: (bc.mk 0 0) :: (bc.mk 0 0) :: (bc.mk 0 0) :: (bc.mk 0 0) :: (bc.mk 0 0) :: (bc.mk 0 0) :: (bc.mk 0 0) :: (bc.mk 0 0) :: (bc.mk 0 0) :: (bc.mk 0 0) :: (bc.mk 0 0) :: (bc.mk 0 0) :: (bc.mk 0 0) :: (bc.mk 0 0) :: (bc.mk 0 0) :: (bc.mk 0 0) :: (bc.mk 0 0) :: (bc.mk 0 0) :: (bc.mk 0 0) :: (bc.mk 0 0) :: (bc.mk 0 0) :: (bc.mk 0 0) :: (bc.mk 0 0) :: (bc.mk 0 0) :: (bc.mk 0 0) :: (bc.mk 0 0) :: (bc.mk 0 0) :: (bc.mk 0 0) :: (bc.mk 0 0) :: (bc.mk 0 0) :: (bc.mk 0 0) :: (bc.mk 0 0) :: (bc.mk 0 0) :: (bc.mk 0 0) :: (bc.mk 0 0) :: (bc.mk 0 0) :: [])).toArray) := by kernel_rfl
theorem vN : (Tryz.prog.info? 141).bind (·.zero) = some (.agg (List.flatMap eW ((bc.mk 0 0) :: (bc.mk 0 0) :: (bc.mk 0 0) :: (bc.mk 0 0) :: (bc.mk 0 0) :: (bc.mk 0 0) :: (bc.mk 0 0) :: (bc.mk 0 0) :: (bc.mk 0 0) :: (bc.mk 0 0) :: (bc.mk 0 0) :: (bc.mk 0 0) :: (bc.mk 0 0) :: (bc.mk 0 0) :: (bc.mk 0 0) :: (bc.mk 0 0) :: (bc.mk 0 0) :: (bc.mk 0 0) :: (bc.mk 0 0) :: (bc.mk 0 0) :: (bc.mk 0 0) :: (bc.mk 0 0) :: (bc.mk 0 0) :: (bc.mk 0 0) :: (bc.mk 0 0) :: (bc.mk 0 0) :: [])).toArray) := by kernel_rfl
theorem pC : (Tryz.prog.info? 151).bind (·.zero) = some (.agg #[.int .i32 0, .int .i32 0]) := by kernel_rfl
theorem yS : ∀ fs, Tryz.prog.underlying 26 = some (.struct fs) → ∀ w, (fs.mapM (fun f => do pure (f.offset, ← sizeOf f.type) : Field → Sem (Nat × Nat))).run Tryz.prog w = .ok ([(0, 1), (1, 1), (2, 1)] : List (Nat × Nat)).toArray w := fun fs h w => by rw [Tryz.underlying26] at h; cases h; kernel_rfl
theorem yT : ∀ fs, Tryz.prog.underlying 28 = some (.struct fs) → ∀ w, (fs.mapM (fun f => do pure (f.offset, ← sizeOf f.type) : Field → Sem (Nat × Nat))).run Tryz.prog w = .ok ([(0, 1), (1, 1), (2, 1), (3, 1), (4, 1), (5, 1), (6, 1), (7, 1), (8, 1), (9, 1)] : List (Nat × Nat)).toArray w := fun fs h w => by rw [Tryz.underlying28] at h; cases h; kernel_rfl
theorem yU : ∀ fs, Tryz.prog.underlying 31 = some (.struct fs) → ∀ w, (fs.mapM (fun f => do pure (f.offset, ← sizeOf f.type) : Field → Sem (Nat × Nat))).run Tryz.prog w = .ok ([(0, 1), (1, 1), (2, 1), (3, 1), (4, 10)] : List (Nat × Nat)).toArray w := fun fs h w => by rw [Tryz.underlying31] at h; cases h; kernel_rfl
theorem yV : ∀ fs, Tryz.prog.underlying 34 = some (.struct fs) → ∀ w, (fs.mapM (fun f => do pure (f.offset, ← sizeOf f.type) : Field → Sem (Nat × Nat))).run Tryz.prog w = .ok (((0, 3) :: (3, 1) :: (4, 1) :: (5, 1) :: (6, 10) :: (16, 1) :: (17, 1) :: (18, 1) :: (19, 1) :: (20, 1) :: (21, 1) :: (22, 1) :: (23, 1) :: (24, 1) :: (25, 14) :: (39, 1) :: (40, 3) :: (43, 1) :: []) : List (Nat × Nat)).toArray w := fun fs h w => by rw [Tryz.underlying34] at h; cases h; kernel_rfl
theorem yW : ∀ fs, Tryz.prog.underlying 55 = some (.struct fs) → ∀ w, (fs.mapM (fun f => do pure (f.offset, ← sizeOf f.type) : Field → Sem (Nat × Nat))).run Tryz.prog w = .ok ([(0, 1), (1, 3), (4, 1), (5, 10)] : List (Nat × Nat)).toArray w := fun fs h w => by rw [Tryz.underlying55] at h; cases h; kernel_rfl
theorem yX : ∀ fs, Tryz.prog.underlying 84 = some (.struct fs) → ∀ w, (fs.mapM (fun f => do pure (f.offset, ← sizeOf f.type) : Field → Sem (Nat × Nat))).run Tryz.prog w = .ok ([(0, 1)] : List (Nat × Nat)).toArray w := fun fs h w => by rw [Tryz.underlying84] at h; cases h; kernel_rfl
theorem xx : ∀ fs, Tryz.prog.underlying 151 = some (.struct fs) → ∀ w, (fs.mapM (fun f => do pure (f.offset, ← sizeOf f.type) : Field → Sem (Nat × Nat))).run Tryz.prog w = .ok ([(0, 1), (1, 1)] : List (Nat × Nat)).toArray w := fun fs h w => by rw [Tryz.underlying151] at h; cases h; kernel_rfl
theorem lh : Tryz.prog.eqGuardType Tryz.prog.depth 28 = false := by kernel_rfl
theorem lj {x y : cN} : (((x.f0 == y.f0) && ((x.f1 == y.f1) && ((x.f2 == y.f2) && ((x.f3 == y.f3) && ((x.f4 == y.f4) && ((x.f5 == y.f5) && ((x.f6 == y.f6) && ((x.f7 == y.f7) && ((x.f8 == y.f8) && ((x.f9 == y.f9) && true)))))))))) : Bool) = decide (x = y) := by
  obtain ⟨_, _, _, _, _, _, _, _, _, _⟩ := x; obtain ⟨_, _, _, _, _, _, _, _, _, _⟩ := y; rw [Bool.eq_iff_iff]; simp [and_assoc]
theorem tB : Tryz.prog.eqGuardType Tryz.prog.depth 31 = false := by kernel_rfl
theorem tD {x y : dH} : (((x.f0 == y.f0) && ((x.f1 == y.f1) && ((x.f2 == y.f2) && ((x.f3 == y.f3) && (((x.f4.f0 == y.f4.f0) && ((x.f4.f1 == y.f4.f1) && ((x.f4.f2 == y.f4.f2) && ((x.f4.f3 == y.f4.f3) && ((x.f4.f4 == y.f4.f4) && ((x.f4.f5 == y.f4.f5) && ((x.f4.f6 == y.f4.f6) && ((x.f4.f7 == y.f4.f7) && ((x.f4.f8 == y.f4.f8) && ((x.f4.f9 == y.f4.f9) && true)))))))))) && true))))) : Bool) = decide (x = y) := by
  obtain ⟨_, _, _, _, ⟨_, _, _, _, _, _, _, _, _, _⟩⟩ := x; obtain ⟨_, _, _, _, ⟨_, _, _, _, _, _, _, _, _, _⟩⟩ := y; rw [Bool.eq_iff_iff]; simp [and_assoc]
theorem vY : Tryz.prog.eqGuardType Tryz.prog.depth 53 = false := by kernel_rfl
theorem vZ {x y : fX} : (((x.f0 == y.f0) && ((x.f1 == y.f1) && ((x.f2 == y.f2) && true))) : Bool) = decide (x = y) := by
  obtain ⟨_, _, _⟩ := x; obtain ⟨_, _, _⟩ := y; rw [Bool.eq_iff_iff]; simp [and_assoc]
theorem tC : Tryz.prog.eqGuardType Tryz.prog.depth 55 = false := by kernel_rfl
theorem tE {x y : ba} : (((x.f0 == y.f0) && (((x.f1.f0 == y.f1.f0) && ((x.f1.f1 == y.f1.f1) && ((x.f1.f2 == y.f1.f2) && true))) && ((x.f2 == y.f2) && (((x.f3.f0 == y.f3.f0) && ((x.f3.f1 == y.f3.f1) && ((x.f3.f2 == y.f3.f2) && ((x.f3.f3 == y.f3.f3) && ((x.f3.f4 == y.f3.f4) && ((x.f3.f5 == y.f3.f5) && ((x.f3.f6 == y.f3.f6) && ((x.f3.f7 == y.f3.f7) && ((x.f3.f8 == y.f3.f8) && ((x.f3.f9 == y.f3.f9) && true)))))))))) && true)))) : Bool) = decide (x = y) := by
  obtain ⟨_, ⟨_, _, _⟩, _, ⟨_, _, _, _, _, _, _, _, _, _⟩⟩ := x; obtain ⟨_, ⟨_, _, _⟩, _, ⟨_, _, _, _, _, _, _, _, _, _⟩⟩ := y; rw [Bool.eq_iff_iff]; simp [and_assoc]
theorem jx : Tryz.prog.follows .mixedOrders = true := by kernel_rfl
instance : BV Tryz.prog:=⟨jx⟩
theorem Bc : (Tryz.f61.name == "runtime.NumGoroutine") = false := by kernel_rfl
theorem Bd : (Tryz.f63.name == "runtime.NumGoroutine") = false := by kernel_rfl
theorem Be : (Tryz.f72.name == "runtime.NumGoroutine") = false := by kernel_rfl
theorem Bf : (Tryz.f74.name == "runtime.NumGoroutine") = false := by kernel_rfl
theorem Bg : (Tryz.f76.name == "runtime.NumGoroutine") = false := by kernel_rfl
theorem Bh : (Tryz.f78.name == "runtime.NumGoroutine") = false := by kernel_rfl
theorem Bi : (Tryz.f80.name == "runtime.NumGoroutine") = false := by kernel_rfl
theorem Bj : (Tryz.f82.name == "runtime.NumGoroutine") = false := by kernel_rfl
theorem Bl : (Tryz.f84.name == "runtime.NumGoroutine") = false := by kernel_rfl
theorem Bm : (Tryz.f86.name == "runtime.NumGoroutine") = false := by kernel_rfl
theorem Bn : (Tryz.f88.name == "runtime.NumGoroutine") = false := by kernel_rfl
theorem Bo : (Tryz.f90.name == "runtime.NumGoroutine") = false := by kernel_rfl
theorem Bp : (Tryz.f92.name == "runtime.NumGoroutine") = false := by kernel_rfl
theorem Bq : (Tryz.f94.name == "runtime.NumGoroutine") = false := by kernel_rfl
theorem yJ : (Tryz.f155.name == "runtime.NumGoroutine") = false := by kernel_rfl
theorem wc : (Tryz.f157.name == "runtime.NumGoroutine") = false := by kernel_rfl
abbrev bn (x : aJ) (A0 : Option Addr) (c0 : Nat) (A1 : Option Addr) (c1 : Nat) (A2 : Option Addr) (c2 : Nat) (A3 : Option Addr) (c3 : Nat) : List bC := [Buf bI 55 A0 c0 x.f0.f2, gL 3 A1 c1 x.f7, Buf bI 55 A2 c2 x.f16.f2, lZ 21 A3 c3 x.f17]
abbrev cQ (b : Nat) (x : aJ) (A0 : Option Addr) (c0 : Nat) (A1 : Option Addr) (c1 : Nat) (A2 : Option Addr) (c2 : Nat) (A3 : Option Addr) (c3 : Nat) : List bC := aL b 34 (am x A0 c0 A1 c1 A2 c2 A3 c3) :: bn x A0 c0 A1 c1 A2 c2 A3 c3
abbrev co (x : aJ) (A0 : Option Addr) (c0 : Nat) (A1 : Option Addr) (c1 : Nat) (A2 : Option Addr) (c2 : Nat) (A3 : Option Addr) (c3 : Nat) : List bC := [Ro bI A0 c0 x.f0.f2, wm A1 c1 x.f7, Ro bI A2 c2 x.f16.f2, sT A3 c3 x.f17]
abbrev eD (b : Nat) (x : aJ) (A0 : Option Addr) (c0 : Nat) (A1 : Option Addr) (c1 : Nat) (A2 : Option Addr) (c2 : Nat) (A3 : Option Addr) (c3 : Nat) : List bC := aL b 34 (am x A0 c0 A1 c1 A2 c2 A3 c3) :: co x A0 c0 A1 c1 A2 c2 A3 c3
abbrev cB : aJ := (aJ.mk (bJ.mk 0 0 ([] : (List ba))) 0 0 false (cN.mk 0 0 false false false false false false false false) 0 0 ([] : (List Int)) false false false false false false (dH.mk 0 0 false false (cN.mk 0 0 false false false false false false false false)) false (bJ.mk 0 0 ([] : (List ba))) ([] : (List Int)))
abbrev lu : ba := (ba.mk 0 (fX.mk 0 0 0) 0 (cN.mk 0 0 false false false false false false false false))
abbrev sZ : dH := (dH.mk 0 0 false false (cN.mk 0 0 false false false false false false false false))
abbrev fV : cN := (cN.mk 0 0 false false false false false false false false)
abbrev pB : bJ := (bJ.mk 0 0 ([] : (List ba)))
@[reducible,instance] def EZ := (⟨Tryz.func10, by kernel_rfl⟩ : dK Tryz.prog 10 _)
@[reducible,instance] def Cg := (⟨Tryz.func100, by kernel_rfl⟩ : dK Tryz.prog 100 _)
@[reducible,instance] def Ch := (⟨Tryz.func101, by kernel_rfl⟩ : dK Tryz.prog 101 _)
@[reducible,instance] def Ci := (⟨Tryz.func102, by kernel_rfl⟩ : dK Tryz.prog 102 _)
@[reducible,instance] def Cj := (⟨Tryz.func103, by kernel_rfl⟩ : dK Tryz.prog 103 _)
@[reducible,instance] def Ck := (⟨Tryz.func104, by kernel_rfl⟩ : dK Tryz.prog 104 _)
@[reducible,instance] def Cl := (⟨Tryz.func105, by kernel_rfl⟩ : dK Tryz.prog 105 _)
@[reducible,instance] def Cm := (⟨Tryz.func106, by kernel_rfl⟩ : dK Tryz.prog 106 _)
@[reducible,instance] def Cn := (⟨Tryz.func107, by kernel_rfl⟩ : dK Tryz.prog 107 _)
@[reducible,instance] def Co := (⟨Tryz.func108, by kernel_rfl⟩ : dK Tryz.prog 108 _)
@[reducible,instance] def Cp := (⟨Tryz.func109, by kernel_rfl⟩ : dK Tryz.prog 109 _)
@[reducible,instance] def Cq := (⟨Tryz.func110, by kernel_rfl⟩ : dK Tryz.prog 110 _)
@[reducible,instance] def Cr := (⟨Tryz.func111, by kernel_rfl⟩ : dK Tryz.prog 111 _)
@[reducible,instance] def Ct := (⟨Tryz.func112, by kernel_rfl⟩ : dK Tryz.prog 112 _)
@[reducible,instance] def Cu := (⟨Tryz.func113, by kernel_rfl⟩ : dK Tryz.prog 113 _)
@[reducible,instance] def Cv := (⟨Tryz.func114, by kernel_rfl⟩ : dK Tryz.prog 114 _)
@[reducible,instance] def Cw := (⟨Tryz.func115, by kernel_rfl⟩ : dK Tryz.prog 115 _)
@[reducible,instance] def Cx := (⟨Tryz.func116, by kernel_rfl⟩ : dK Tryz.prog 116 _)
@[reducible,instance] def Cy := (⟨Tryz.func117, by kernel_rfl⟩ : dK Tryz.prog 117 _)
@[reducible,instance] def Cz := (⟨Tryz.func118, by kernel_rfl⟩ : dK Tryz.prog 118 _)
@[reducible,instance] def CB := (⟨Tryz.func119, by kernel_rfl⟩ : dK Tryz.prog 119 _)
@[reducible,instance] def Fa := (⟨Tryz.func12, by kernel_rfl⟩ : dK Tryz.prog 12 _)
@[reducible,instance] def CC := (⟨Tryz.func120, by kernel_rfl⟩ : dK Tryz.prog 120 _)
@[reducible,instance] def CE := (⟨Tryz.func121, by kernel_rfl⟩ : dK Tryz.prog 121 _)
@[reducible,instance] def CF := (⟨Tryz.func122, by kernel_rfl⟩ : dK Tryz.prog 122 _)
@[reducible,instance] def CG := (⟨Tryz.func123, by kernel_rfl⟩ : dK Tryz.prog 123 _)
@[reducible,instance] def CH := (⟨Tryz.func124, by kernel_rfl⟩ : dK Tryz.prog 124 _)
@[reducible,instance] def CI := (⟨Tryz.func125, by kernel_rfl⟩ : dK Tryz.prog 125 _)
@[reducible,instance] def CJ := (⟨Tryz.func126, by kernel_rfl⟩ : dK Tryz.prog 126 _)
@[reducible,instance] def CK := (⟨Tryz.func127, by kernel_rfl⟩ : dK Tryz.prog 127 _)
@[reducible,instance] def CL := (⟨Tryz.func128, by kernel_rfl⟩ : dK Tryz.prog 128 _)
@[reducible,instance] def CM := (⟨Tryz.func129, by kernel_rfl⟩ : dK Tryz.prog 129 _)
@[reducible,instance] def Fb := (⟨Tryz.func13, by kernel_rfl⟩ : dK Tryz.prog 13 _)
@[reducible,instance] def CN := (⟨Tryz.func130, by kernel_rfl⟩ : dK Tryz.prog 130 _)
@[reducible,instance] def CO := (⟨Tryz.func131, by kernel_rfl⟩ : dK Tryz.prog 131 _)
@[reducible,instance] def CP := (⟨Tryz.func132, by kernel_rfl⟩ : dK Tryz.prog 132 _)
@[reducible,instance] def CQ := (⟨Tryz.func133, by kernel_rfl⟩ : dK Tryz.prog 133 _)
@[reducible,instance] def CR := (⟨Tryz.func134, by kernel_rfl⟩ : dK Tryz.prog 134 _)
@[reducible,instance] def CS := (⟨Tryz.func135, by kernel_rfl⟩ : dK Tryz.prog 135 _)
@[reducible,instance] def CU := (⟨Tryz.func136, by kernel_rfl⟩ : dK Tryz.prog 136 _)
@[reducible,instance] def CV := (⟨Tryz.func137, by kernel_rfl⟩ : dK Tryz.prog 137 _)
@[reducible,instance] def CW := (⟨Tryz.func138, by kernel_rfl⟩ : dK Tryz.prog 138 _)
@[reducible,instance] def CX := (⟨Tryz.func139, by kernel_rfl⟩ : dK Tryz.prog 139 _)
@[reducible,instance] def Fc := (⟨Tryz.func14, by kernel_rfl⟩ : dK Tryz.prog 14 _)
@[reducible,instance] def CY := (⟨Tryz.func140, by kernel_rfl⟩ : dK Tryz.prog 140 _)
@[reducible,instance] def CZ := (⟨Tryz.func141, by kernel_rfl⟩ : dK Tryz.prog 141 _)
@[reducible,instance] def Da := (⟨Tryz.func142, by kernel_rfl⟩ : dK Tryz.prog 142 _)
@[reducible,instance] def Db := (⟨Tryz.func143, by kernel_rfl⟩ : dK Tryz.prog 143 _)
@[reducible,instance] def Dc := (⟨Tryz.func144, by kernel_rfl⟩ : dK Tryz.prog 144 _)
@[reducible,instance] def De := (⟨Tryz.func145, by kernel_rfl⟩ : dK Tryz.prog 145 _)
@[reducible,instance] def Df := (⟨Tryz.func146, by kernel_rfl⟩ : dK Tryz.prog 146 _)
@[reducible,instance] def Dg := (⟨Tryz.func147, by kernel_rfl⟩ : dK Tryz.prog 147 _)
@[reducible,instance] def Dh := (⟨Tryz.func148, by kernel_rfl⟩ : dK Tryz.prog 148 _)
@[reducible,instance] def Di := (⟨Tryz.func149, by kernel_rfl⟩ : dK Tryz.prog 149 _)
@[reducible,instance] def Fe := (⟨Tryz.func15, by kernel_rfl⟩ : dK Tryz.prog 15 _)
@[reducible,instance] def Dj := (⟨Tryz.func150, by kernel_rfl⟩ : dK Tryz.prog 150 _)
@[reducible,instance] def Dk := (⟨Tryz.func151, by kernel_rfl⟩ : dK Tryz.prog 151 _)
@[reducible,instance] def Dl := (⟨Tryz.func152, by kernel_rfl⟩ : dK Tryz.prog 152 _)
@[reducible,instance] def Dm := (⟨Tryz.func153, by kernel_rfl⟩ : dK Tryz.prog 153 _)
@[reducible,instance] def Dn := (⟨Tryz.func154, by kernel_rfl⟩ : dK Tryz.prog 154 _)
@[reducible,instance] def Do := (⟨Tryz.func158, by kernel_rfl⟩ : dK Tryz.prog 158 _)
@[reducible,instance] def Dp := (⟨Tryz.func159, by kernel_rfl⟩ : dK Tryz.prog 159 _)
@[reducible,instance] def Ff := (⟨Tryz.func16, by kernel_rfl⟩ : dK Tryz.prog 16 _)
@[reducible,instance] def Fg := (⟨Tryz.func17, by kernel_rfl⟩ : dK Tryz.prog 17 _)
@[reducible,instance] def Fh := (⟨Tryz.func18, by kernel_rfl⟩ : dK Tryz.prog 18 _)
@[reducible,instance] def Fi := (⟨Tryz.func19, by kernel_rfl⟩ : dK Tryz.prog 19 _)
@[reducible,instance] def Fj := (⟨Tryz.func20, by kernel_rfl⟩ : dK Tryz.prog 20 _)
@[reducible,instance] def Fl := (⟨Tryz.func21, by kernel_rfl⟩ : dK Tryz.prog 21 _)
@[reducible,instance] def Fo := (⟨Tryz.func22, by kernel_rfl⟩ : dK Tryz.prog 22 _)
@[reducible,instance] def Fp := (⟨Tryz.func23, by kernel_rfl⟩ : dK Tryz.prog 23 _)
@[reducible,instance] def Fq := (⟨Tryz.func24, by kernel_rfl⟩ : dK Tryz.prog 24 _)
@[reducible,instance] def Fs := (⟨Tryz.func25, by kernel_rfl⟩ : dK Tryz.prog 25 _)
@[reducible,instance] def Ft := (⟨Tryz.func26, by kernel_rfl⟩ : dK Tryz.prog 26 _)
@[reducible,instance] def Fu := (⟨Tryz.func27, by kernel_rfl⟩ : dK Tryz.prog 27 _)
@[reducible,instance] def Fv := (⟨Tryz.func28, by kernel_rfl⟩ : dK Tryz.prog 28 _)
@[reducible,instance] def Fw := (⟨Tryz.func29, by kernel_rfl⟩ : dK Tryz.prog 29 _)
@[reducible,instance] def Fx := (⟨Tryz.func30, by kernel_rfl⟩ : dK Tryz.prog 30 _)
@[reducible,instance] def Fy := (⟨Tryz.func31, by kernel_rfl⟩ : dK Tryz.prog 31 _)
@[reducible,instance] def FA := (⟨Tryz.func32, by kernel_rfl⟩ : dK Tryz.prog 32 _)
@[reducible,instance] def FB := (⟨Tryz.func33, by kernel_rfl⟩ : dK Tryz.prog 33 _)
@[reducible,instance] def FD := (⟨Tryz.func34, by kernel_rfl⟩ : dK Tryz.prog 34 _)
@[reducible,instance] def FE := (⟨Tryz.func35, by kernel_rfl⟩ : dK Tryz.prog 35 _)
@[reducible,instance] def FF := (⟨Tryz.func36, by kernel_rfl⟩ : dK Tryz.prog 36 _)
@[reducible,instance] def FG := (⟨Tryz.func37, by kernel_rfl⟩ : dK Tryz.prog 37 _)
@[reducible,instance] def FH := (⟨Tryz.func38, by kernel_rfl⟩ : dK Tryz.prog 38 _)
@[reducible,instance] def FI := (⟨Tryz.func39, by kernel_rfl⟩ : dK Tryz.prog 39 _)
@[reducible,instance] def FJ := (⟨Tryz.func40, by kernel_rfl⟩ : dK Tryz.prog 40 _)
@[reducible,instance] def FK := (⟨Tryz.func41, by kernel_rfl⟩ : dK Tryz.prog 41 _)
@[reducible,instance] def FL := (⟨Tryz.func42, by kernel_rfl⟩ : dK Tryz.prog 42 _)
@[reducible,instance] def FM := (⟨Tryz.func43, by kernel_rfl⟩ : dK Tryz.prog 43 _)
@[reducible,instance] def FN := (⟨Tryz.func44, by kernel_rfl⟩ : dK Tryz.prog 44 _)
@[reducible,instance] def FO := (⟨Tryz.func45, by kernel_rfl⟩ : dK Tryz.prog 45 _)
@[reducible,instance] def FP := (⟨Tryz.func46, by kernel_rfl⟩ : dK Tryz.prog 46 _)
@[reducible,instance] def FQ := (⟨Tryz.func47, by kernel_rfl⟩ : dK Tryz.prog 47 _)
@[reducible,instance] def FR := (⟨Tryz.func48, by kernel_rfl⟩ : dK Tryz.prog 48 _)
@[reducible,instance] def FS := (⟨Tryz.func49, by kernel_rfl⟩ : dK Tryz.prog 49 _)
@[reducible,instance] def FT := (⟨Tryz.func50, by kernel_rfl⟩ : dK Tryz.prog 50 _)
@[reducible,instance] def FU := (⟨Tryz.func51, by kernel_rfl⟩ : dK Tryz.prog 51 _)
@[reducible,instance] def FV := (⟨Tryz.func52, by kernel_rfl⟩ : dK Tryz.prog 52 _)
@[reducible,instance] def FW := (⟨Tryz.func53, by kernel_rfl⟩ : dK Tryz.prog 53 _)
@[reducible,instance] def FX := (⟨Tryz.func54, by kernel_rfl⟩ : dK Tryz.prog 54 _)
@[reducible,instance] def FY := (⟨Tryz.func55, by kernel_rfl⟩ : dK Tryz.prog 55 _)
@[reducible,instance] def FZ := (⟨Tryz.func56, by kernel_rfl⟩ : dK Tryz.prog 56 _)
@[reducible,instance] def Ga := (⟨Tryz.func57, by kernel_rfl⟩ : dK Tryz.prog 57 _)
@[reducible,instance] def Gb := (⟨Tryz.func58, by kernel_rfl⟩ : dK Tryz.prog 58 _)
@[reducible,instance] def Gc := (⟨Tryz.func59, by kernel_rfl⟩ : dK Tryz.prog 59 _)
@[reducible,instance] def Gd := (⟨Tryz.func60, by kernel_rfl⟩ : dK Tryz.prog 60 _)
@[reducible,instance] def Ge := (⟨Tryz.func62, by kernel_rfl⟩ : dK Tryz.prog 62 _)
@[reducible,instance] def Gf := (⟨Tryz.func64, by kernel_rfl⟩ : dK Tryz.prog 64 _)
@[reducible,instance] def Gg := (⟨Tryz.func65, by kernel_rfl⟩ : dK Tryz.prog 65 _)
@[reducible,instance] def Gi := (⟨Tryz.func66, by kernel_rfl⟩ : dK Tryz.prog 66 _)
@[reducible,instance] def Gj := (⟨Tryz.func67, by kernel_rfl⟩ : dK Tryz.prog 67 _)
@[reducible,instance] def Gk := (⟨Tryz.func68, by kernel_rfl⟩ : dK Tryz.prog 68 _)
@[reducible,instance] def Gl := (⟨Tryz.func69, by kernel_rfl⟩ : dK Tryz.prog 69 _)
@[reducible,instance] def Gm := (⟨Tryz.func70, by kernel_rfl⟩ : dK Tryz.prog 70 _)
@[reducible,instance] def Gn := (⟨Tryz.func71, by kernel_rfl⟩ : dK Tryz.prog 71 _)
@[reducible,instance] def Gp := (⟨Tryz.func73, by kernel_rfl⟩ : dK Tryz.prog 73 _)
@[reducible,instance] def Gq := (⟨Tryz.func75, by kernel_rfl⟩ : dK Tryz.prog 75 _)
@[reducible,instance] def Gs := (⟨Tryz.func77, by kernel_rfl⟩ : dK Tryz.prog 77 _)
@[reducible,instance] def Gt := (⟨Tryz.func79, by kernel_rfl⟩ : dK Tryz.prog 79 _)
@[reducible,instance] def Hv := (⟨Tryz.func8, by kernel_rfl⟩ : dK Tryz.prog 8 _)
@[reducible,instance] def Gu := (⟨Tryz.func81, by kernel_rfl⟩ : dK Tryz.prog 81 _)
@[reducible,instance] def Gv := (⟨Tryz.func83, by kernel_rfl⟩ : dK Tryz.prog 83 _)
@[reducible,instance] def Gw := (⟨Tryz.func85, by kernel_rfl⟩ : dK Tryz.prog 85 _)
@[reducible,instance] def Gx := (⟨Tryz.func87, by kernel_rfl⟩ : dK Tryz.prog 87 _)
@[reducible,instance] def Gy := (⟨Tryz.func89, by kernel_rfl⟩ : dK Tryz.prog 89 _)
@[reducible,instance] def Gz := (⟨Tryz.func91, by kernel_rfl⟩ : dK Tryz.prog 91 _)
@[reducible,instance] def GA := (⟨Tryz.func93, by kernel_rfl⟩ : dK Tryz.prog 93 _)
@[reducible,instance] def GB := (⟨Tryz.func95, by kernel_rfl⟩ : dK Tryz.prog 95 _)
@[reducible,instance] def GC := (⟨Tryz.func96, by kernel_rfl⟩ : dK Tryz.prog 96 _)
@[reducible,instance] def GD := (⟨Tryz.func97, by kernel_rfl⟩ : dK Tryz.prog 97 _)
@[reducible,instance] def GE := (⟨Tryz.func98, by kernel_rfl⟩ : dK Tryz.prog 98 _)
@[reducible,instance] def GF := (⟨Tryz.func99, by kernel_rfl⟩ : dK Tryz.prog 99 _)
@[instance] theorem zy : jX Tryz.prog 151 0 0 := ⟨_, _, Tryz.underlying151, rfl, rfl, xp⟩
@[instance] theorem zA : jX Tryz.prog 151 1 1 := ⟨_, _, Tryz.underlying151, rfl, rfl, xp⟩
@[instance] theorem Am : jX Tryz.prog 26 0 0 := ⟨_, _, Tryz.underlying26, rfl, rfl, tc⟩
@[instance] theorem An : jX Tryz.prog 26 1 1 := ⟨_, _, Tryz.underlying26, rfl, rfl, tc⟩
@[instance] theorem Ao : jX Tryz.prog 26 2 2 := ⟨_, _, Tryz.underlying26, rfl, rfl, Br⟩
@[instance] theorem Ap : jX Tryz.prog 28 0 0 := ⟨_, _, Tryz.underlying28, rfl, rfl, tc⟩
@[instance] theorem Aq : jX Tryz.prog 28 1 1 := ⟨_, _, Tryz.underlying28, rfl, rfl, tc⟩
@[instance] theorem Ar : jX Tryz.prog 31 0 0 := ⟨_, _, Tryz.underlying31, rfl, rfl, tc⟩
@[instance] theorem Au : jX Tryz.prog 31 1 1 := ⟨_, _, Tryz.underlying31, rfl, rfl, tc⟩
@[instance] theorem Av : jX Tryz.prog 31 2 2 := ⟨_, _, Tryz.underlying31, rfl, rfl, tU⟩
@[instance] theorem Aw : jX Tryz.prog 31 3 3 := ⟨_, _, Tryz.underlying31, rfl, rfl, tU⟩
@[instance] theorem Ax : jX Tryz.prog 31 4 4 := ⟨_, _, Tryz.underlying31, rfl, rfl, xq⟩
@[instance] theorem Ay : jX Tryz.prog 34 0 0 := ⟨_, _, Tryz.underlying34, rfl, rfl, yK⟩
@[instance] theorem zB : jX Tryz.prog 34 10 21 := ⟨_, _, Tryz.underlying34, rfl, rfl, tU⟩
@[instance] theorem zC : jX Tryz.prog 34 11 22 := ⟨_, _, Tryz.underlying34, rfl, rfl, tU⟩
@[instance] theorem zD : jX Tryz.prog 34 12 23 := ⟨_, _, Tryz.underlying34, rfl, rfl, tU⟩
@[instance] theorem zE : jX Tryz.prog 34 13 24 := ⟨_, _, Tryz.underlying34, rfl, rfl, tU⟩
@[instance] theorem zF : jX Tryz.prog 34 14 25 := ⟨_, _, Tryz.underlying34, rfl, rfl, Bu⟩
@[instance] theorem zG : jX Tryz.prog 34 15 39 := ⟨_, _, Tryz.underlying34, rfl, rfl, tU⟩
@[instance] theorem zH : jX Tryz.prog 34 16 40 := ⟨_, _, Tryz.underlying34, rfl, rfl, yK⟩
@[instance] theorem zI : jX Tryz.prog 34 17 43 := ⟨_, _, Tryz.underlying34, rfl, rfl, Bv⟩
@[instance] theorem Az : jX Tryz.prog 34 1 3 := ⟨_, _, Tryz.underlying34, rfl, rfl, tc⟩
@[instance] theorem AA : jX Tryz.prog 34 2 4 := ⟨_, _, Tryz.underlying34, rfl, rfl, tc⟩
@[instance] theorem AB : jX Tryz.prog 34 3 5 := ⟨_, _, Tryz.underlying34, rfl, rfl, tU⟩
@[instance] theorem AC : jX Tryz.prog 34 4 6 := ⟨_, _, Tryz.underlying34, rfl, rfl, xq⟩
@[instance] theorem AD : jX Tryz.prog 34 5 16 := ⟨_, _, Tryz.underlying34, rfl, rfl, tc⟩
@[instance] theorem AE : jX Tryz.prog 34 6 17 := ⟨_, _, Tryz.underlying34, rfl, rfl, tc⟩
@[instance] theorem AF : jX Tryz.prog 34 7 18 := ⟨_, _, Tryz.underlying34, rfl, rfl, Bt⟩
@[instance] theorem AG : jX Tryz.prog 34 8 19 := ⟨_, _, Tryz.underlying34, rfl, rfl, tU⟩
@[instance] theorem AH : jX Tryz.prog 34 9 20 := ⟨_, _, Tryz.underlying34, rfl, rfl, tU⟩
@[instance] theorem AI : jX Tryz.prog 44 0 0 := ⟨_, _, Tryz.underlying44, rfl, rfl, Eh⟩
@[instance] theorem AJ : jX Tryz.prog 44 1 1 := ⟨_, _, Tryz.underlying44, rfl, rfl, tc⟩
@[instance] theorem AK : jX Tryz.prog 44 2 2 := ⟨_, _, Tryz.underlying44, rfl, rfl, tc⟩
@[instance] theorem AL : jX Tryz.prog 44 3 3 := ⟨_, _, Tryz.underlying44, rfl, rfl, tU⟩
@[instance] theorem AM : jX Tryz.prog 55 0 0 := ⟨_, _, Tryz.underlying55, rfl, rfl, xp⟩
@[instance] theorem AN : jX Tryz.prog 55 1 1 := ⟨_, _, Tryz.underlying55, rfl, rfl, Bw⟩
@[instance] theorem AO : jX Tryz.prog 55 2 4 := ⟨_, _, Tryz.underlying55, rfl, rfl, Eh⟩
@[instance] theorem AP : jX Tryz.prog 55 3 5 := ⟨_, _, Tryz.underlying55, rfl, rfl, xq⟩
@[instance] theorem AQ : jX Tryz.prog 84 0 0 := ⟨_, _, Tryz.underlying84, rfl, rfl, Bx⟩
@[reducible,instance] def zJ := (⟨xx⟩ : vP Tryz.prog 151 _)
@[reducible,instance] def AT := (⟨yS⟩ : vP Tryz.prog 26 _)
@[reducible,instance] def AU := (⟨yT⟩ : vP Tryz.prog 28 _)
@[reducible,instance] def AV := (⟨yU⟩ : vP Tryz.prog 31 _)
@[reducible,instance] def AW := (⟨yV⟩ : vP Tryz.prog 34 _)
@[reducible,instance] def AX := (⟨yW⟩ : vP Tryz.prog 55 _)
@[reducible,instance] def AY := (⟨yX⟩ : vP Tryz.prog 84 _)
@[reducible,instance] def AZ := (⟨qz⟩ : nL Tryz.prog 138 _)
@[reducible,instance] def Dq := (⟨jg⟩ : nL Tryz.prog 21 _)
@[reducible,instance] def Dr := (⟨BG⟩ : nL Tryz.prog 24 _)
@[reducible,instance] def Ds := (⟨uA⟩ : nL Tryz.prog 26 _)
@[reducible,instance] def Dt := (⟨mf⟩ : nL Tryz.prog 28 _)
@[reducible,instance] def Du := (⟨BH⟩ : nL Tryz.prog 29 _)
@[reducible,instance] def GG := (⟨jm⟩ : nL Tryz.prog 3 _)
@[reducible,instance] def Dv := (⟨zk⟩ : nL Tryz.prog 31 _)
@[reducible,instance] def Dw := (⟨BI⟩ : nL Tryz.prog 32 _)
@[reducible,instance] def Dx := (⟨rH⟩ : nL Tryz.prog 34 _)
@[reducible,instance] def GH := (⟨Hq⟩ : nL Tryz.prog 4 _)
@[reducible,instance] def Dy := (⟨BJ⟩ : nL Tryz.prog 44 _)
@[reducible,instance] def GI := (⟨Hr⟩ : nL Tryz.prog 5 _)
@[reducible,instance] def Dz := (⟨BK⟩ : nL Tryz.prog 53 _)
@[reducible,instance] def DC := (⟨ck⟩ : nL Tryz.prog 55 _)
@[reducible,instance] def DD := (⟨BL⟩ : nL Tryz.prog 84 _)
@[reducible,instance] def DF := (⟨Tryz.underlying116⟩ : mq Tryz.prog 116 _)
@[reducible,instance] def DG := (⟨Tryz.underlying138⟩ : mq Tryz.prog 138 _)
@[reducible,instance] def DI := (⟨Tryz.underlying139⟩ : mq Tryz.prog 139 _)
@[reducible,instance] def DJ := (⟨Tryz.underlying141⟩ : mq Tryz.prog 141 _)
@[reducible,instance] def DK := (⟨Tryz.underlying151⟩ : mq Tryz.prog 151 _)
@[reducible,instance] def GJ := (⟨Tryz.underlying21⟩ : mq Tryz.prog 21 _)
@[reducible,instance] def GK := (⟨Tryz.underlying24⟩ : mq Tryz.prog 24 _)
@[reducible,instance] def GL := (⟨Tryz.underlying26⟩ : mq Tryz.prog 26 _)
@[reducible,instance] def GM := (⟨Tryz.underlying28⟩ : mq Tryz.prog 28 _)
@[reducible,instance] def GN := (⟨Tryz.underlying29⟩ : mq Tryz.prog 29 _)
@[reducible,instance] def Hw := (⟨Tryz.underlying3⟩ : mq Tryz.prog 3 _)
@[reducible,instance] def GO := (⟨Tryz.underlying31⟩ : mq Tryz.prog 31 _)
@[reducible,instance] def GQ := (⟨Tryz.underlying32⟩ : mq Tryz.prog 32 _)
@[reducible,instance] def GR := (⟨Tryz.underlying34⟩ : mq Tryz.prog 34 _)
@[reducible,instance] def Hy := (⟨Tryz.underlying4⟩ : mq Tryz.prog 4 _)
@[reducible,instance] def GT := (⟨Tryz.underlying44⟩ : mq Tryz.prog 44 _)
@[reducible,instance] def Hz := (⟨Tryz.underlying5⟩ : mq Tryz.prog 5 _)
@[reducible,instance] def GU := (⟨Tryz.underlying53⟩ : mq Tryz.prog 53 _)
@[reducible,instance] def GV := (⟨Tryz.underlying55⟩ : mq Tryz.prog 55 _)
@[reducible,instance] def GW := (⟨Tryz.underlying78⟩ : mq Tryz.prog 78 _)
@[reducible,instance] def GX := (⟨Tryz.underlying82⟩ : mq Tryz.prog 82 _)
@[reducible,instance] def GY := (⟨Tryz.underlying84⟩ : mq Tryz.prog 84 _)
@[reducible,instance] def yr := (⟨vL⟩ : qJ Tryz.prog 138 _)
@[reducible,instance] def yt := (⟨vM⟩ : qJ Tryz.prog 139 _)
@[reducible,instance] def yu := (⟨vN⟩ : qJ Tryz.prog 141 _)
@[reducible,instance] def yv := (⟨pC⟩ : qJ Tryz.prog 151 _)
@[reducible,instance] def zK := (⟨xI⟩ : qJ Tryz.prog 26 _)
@[reducible,instance] def zL := (⟨xJ⟩ : qJ Tryz.prog 28 _)
@[reducible,instance] def zM := (⟨xK⟩ : qJ Tryz.prog 31 _)
@[reducible,instance] def zN := (⟨pD⟩ : qJ Tryz.prog 34 _)
@[reducible,instance] def zO := (⟨xL⟩ : qJ Tryz.prog 53 _)
@[reducible,instance] def zP := (⟨jF⟩ : qJ Tryz.prog 55 _)
@[reducible,instance] def zQ := (⟨xM⟩ : qJ Tryz.prog 78 _)
@[reducible,instance] def zR := (⟨xN⟩ : qJ Tryz.prog 84 _)
end Go.Proofs.YtckilbegmbaeeaaGreat.Z7

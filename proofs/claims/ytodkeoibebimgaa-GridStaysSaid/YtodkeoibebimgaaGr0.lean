/- What the texts of the functions use: types, kinds, facts of the program. -/
import Derived.Test.YtodkeoibebimgaaProg
import Derived.Test.YtodkeoibebimgaaSlW
namespace Go.Proofs.Ytodkeoibebimgaa.Gr
open Go Go.RowKit Go.Proofs.Ytodkeoibebimgaa.SL
set_option linter.unusedVariables false
set_option linter.unusedSimpArgs false
attribute [local irreducible] IntKind.wrap minI maxI shrI shlI andI orI xorI andNotI cplI rd sub bytesOf strOf slA
structure S74 where
  f0 : Int
  f1 : Int
  f2 : Int
  deriving Inhabited, DecidableEq
structure S70 where
  f0 : Int
  f1 : Int
  f2 : Bool
  f3 : Bool
  f4 : Bool
  f5 : Bool
  f6 : Bool
  f7 : Bool
  f8 : Bool
  f9 : Bool
  deriving Inhabited, DecidableEq
structure S76 where
  f0 : Int
  f1 : S74
  f2 : Int
  f3 : S70
  deriving Inhabited, DecidableEq
structure S67 where
  f0 : Int
  f1 : Int
  f2 : (List S76)
  deriving Inhabited, DecidableEq
structure S90 where
  f0 : Int
  f1 : Int
  f2 : Int
  f3 : Int
  f4 : S70
  f5 : (List S76)
  deriving Inhabited, DecidableEq
structure S190 where
  f0 : Int
  f1 : Int
  deriving Inhabited, DecidableEq
structure S198 where
  f0 : Int
  f1 : Int
  deriving Inhabited, DecidableEq
def enc74 (x : S74) : List Value := [.int .i32 x.f0, .int .i32 x.f1, .int .i32 x.f2]
def k74 : Kd S74 := Kd.fl 3 enc74 (fun _ => rfl) (fun x v h => by simp only [enc74, List.mem_cons, List.not_mem_nil, or_false] at h; rcases h with rfl | rfl | rfl <;> rfl)
def enc70 (x : S70) : List Value := [.int .i64 x.f0, .int .i64 x.f1, .bool x.f2, .bool x.f3, .bool x.f4, .bool x.f5, .bool x.f6, .bool x.f7, .bool x.f8, .bool x.f9]
def k70 : Kd S70 := Kd.fl 10 enc70 (fun _ => rfl) (fun x v h => by simp only [enc70, List.mem_cons, List.not_mem_nil, or_false] at h; rcases h with rfl | rfl | rfl | rfl | rfl | rfl | rfl | rfl | rfl | rfl <;> rfl)
def enc76 (x : S76) : List Value := (.int .i32 x.f0 :: .int .i32 x.f1.f0 :: .int .i32 x.f1.f1 :: .int .i32 x.f1.f2 :: .int .u8 x.f2 :: .int .i64 x.f3.f0 :: .int .i64 x.f3.f1 :: .bool x.f3.f2 :: .bool x.f3.f3 :: .bool x.f3.f4 :: .bool x.f3.f5 :: .bool x.f3.f6 :: .bool x.f3.f7 :: .bool x.f3.f8 :: .bool x.f3.f9 :: [])
def k76 : Kd S76 := Kd.fl 15 enc76 (fun _ => rfl) (fun x v h => by simp only [enc76, List.mem_cons, List.not_mem_nil, or_false] at h; rcases h with rfl | rfl | rfl | rfl | rfl | rfl | rfl | rfl | rfl | rfl | rfl | rfl | rfl | rfl | rfl <;> rfl)
def D67 (x : S67) (cs_ : List Value) (Bs_ : List Asrt) : Prop := ∃ (A1 : Option Addr) (c2 : Nat), cs_ = [.int .i64 x.f0, .int .i64 x.f1, .slice A1 x.f2.length c2] ∧ Bs_ = [Ro k76 A1 c2 x.f2]
def k67 : Kd S67 := Kd.ofD 3 D67 (fun ⟨_, _, e, _⟩ => by rw [e]; rfl) (fun ⟨_, _, e, _⟩ v h => by rw [e] at h; simp only [List.mem_cons, List.not_mem_nil, or_false] at h; rcases h with rfl | rfl | rfl <;> rfl)
def D90 (x : S90) (cs_ : List Value) (Bs_ : List Asrt) : Prop := ∃ (A1 : Option Addr) (c2 : Nat), cs_ = (.int .i64 x.f0 :: .int .i64 x.f1 :: .int .i64 x.f2 :: .int .i64 x.f3 :: .int .i64 x.f4.f0 :: .int .i64 x.f4.f1 :: .bool x.f4.f2 :: .bool x.f4.f3 :: .bool x.f4.f4 :: .bool x.f4.f5 :: .bool x.f4.f6 :: .bool x.f4.f7 :: .bool x.f4.f8 :: .bool x.f4.f9 :: .slice A1 x.f5.length c2 :: []) ∧ Bs_ = [Ro k76 A1 c2 x.f5]
def k90 : Kd S90 := Kd.ofD 15 D90 (fun ⟨_, _, e, _⟩ => by rw [e]; rfl) (fun ⟨_, _, e, _⟩ v h => by rw [e] at h; simp only [List.mem_cons, List.not_mem_nil, or_false] at h; rcases h with rfl | rfl | rfl | rfl | rfl | rfl | rfl | rfl | rfl | rfl | rfl | rfl | rfl | rfl | rfl <;> rfl)
def enc190 (x : S190) : List Value := [.int .i32 x.f0, .int .i32 x.f1]
def k190 : Kd S190 := Kd.fl 2 enc190 (fun _ => rfl) (fun x v h => by simp only [enc190, List.mem_cons, List.not_mem_nil, or_false] at h; rcases h with rfl | rfl <;> rfl)
def enc198 (x : S198) : List Value := [.int .i32 x.f0, .int .i32 x.f1]
def k198 : Kd S198 := Kd.fl 2 enc198 (fun _ => rfl) (fun x v h => by simp only [enc198, List.mem_cons, List.not_mem_nil, or_false] at h; rcases h with rfl | rfl <;> rfl)
theorem sz3 : (Try.prog.info? 3).map (·.size) = some 1 := by kernel_rfl
theorem nz3 : ((Try.prog.info? 3).map fun i => decide (i.size = 0)) = some false := by kernel_rfl
theorem sz5 : (Try.prog.info? 5).map (·.size) = some 1 := by kernel_rfl
theorem nz5 : ((Try.prog.info? 5).map fun i => decide (i.size = 0)) = some false := by kernel_rfl
theorem sz21 : (Try.prog.info? 21).map (·.size) = some 1 := by kernel_rfl
theorem nz21 : ((Try.prog.info? 21).map fun i => decide (i.size = 0)) = some false := by kernel_rfl
theorem sz65 : (Try.prog.info? 65).map (·.size) = some 1 := by kernel_rfl
theorem nz65 : ((Try.prog.info? 65).map fun i => decide (i.size = 0)) = some false := by kernel_rfl
theorem sz67 : (Try.prog.info? 67).map (·.size) = some 3 := by kernel_rfl
theorem nz67 : ((Try.prog.info? 67).map fun i => decide (i.size = 0)) = some false := by kernel_rfl
theorem sz70 : (Try.prog.info? 70).map (·.size) = some 10 := by kernel_rfl
theorem nz70 : ((Try.prog.info? 70).map fun i => decide (i.size = 0)) = some false := by kernel_rfl
theorem sz74 : (Try.prog.info? 74).map (·.size) = some 3 := by kernel_rfl
theorem nz74 : ((Try.prog.info? 74).map fun i => decide (i.size = 0)) = some false := by kernel_rfl
theorem sz76 : (Try.prog.info? 76).map (·.size) = some 15 := by kernel_rfl
theorem nz76 : ((Try.prog.info? 76).map fun i => decide (i.size = 0)) = some false := by kernel_rfl
theorem sz90 : (Try.prog.info? 90).map (·.size) = some 15 := by kernel_rfl
theorem nz90 : ((Try.prog.info? 90).map fun i => decide (i.size = 0)) = some false := by kernel_rfl
theorem sz148 : (Try.prog.info? 148).map (·.size) = some 1 := by kernel_rfl
theorem nz148 : ((Try.prog.info? 148).map fun i => decide (i.size = 0)) = some false := by kernel_rfl
theorem sz190 : (Try.prog.info? 190).map (·.size) = some 2 := by kernel_rfl
theorem nz190 : ((Try.prog.info? 190).map fun i => decide (i.size = 0)) = some false := by kernel_rfl
theorem sz191 : (Try.prog.info? 191).map (·.size) = some 74 := by kernel_rfl
theorem nz191 : ((Try.prog.info? 191).map fun i => decide (i.size = 0)) = some false := by kernel_rfl
theorem sz193 : (Try.prog.info? 193).map (·.size) = some 52 := by kernel_rfl
theorem nz193 : ((Try.prog.info? 193).map fun i => decide (i.size = 0)) = some false := by kernel_rfl
theorem sz198 : (Try.prog.info? 198).map (·.size) = some 2 := by kernel_rfl
theorem nz198 : ((Try.prog.info? 198).map fun i => decide (i.size = 0)) = some false := by kernel_rfl
theorem zero67 : (Try.prog.info? 67).bind (·.zero) = some (.agg #[.int .i64 0, .int .i64 0, .slice none 0 0]) := by kernel_rfl
theorem inf67 : (Try.prog.info? 67).map (fun i => (i.zero, i.size, i.bytes)) = some (some (.agg #[.int .i64 0, .int .i64 0, .slice none 0 0]), 3, 40) := by kernel_rfl
theorem zero70 : (Try.prog.info? 70).bind (·.zero) = some (.agg #[.int .i64 0, .int .i64 0, .bool false, .bool false, .bool false, .bool false, .bool false, .bool false, .bool false, .bool false]) := by kernel_rfl
theorem inf70 : (Try.prog.info? 70).map (fun i => (i.zero, i.size, i.bytes)) = some (some (.agg #[.int .i64 0, .int .i64 0, .bool false, .bool false, .bool false, .bool false, .bool false, .bool false, .bool false, .bool false]), 10, 24) := by kernel_rfl
theorem zero74 : (Try.prog.info? 74).bind (·.zero) = some (.agg #[.int .i32 0, .int .i32 0, .int .i32 0]) := by kernel_rfl
theorem inf74 : (Try.prog.info? 74).map (fun i => (i.zero, i.size, i.bytes)) = some (some (.agg #[.int .i32 0, .int .i32 0, .int .i32 0]), 3, 12) := by kernel_rfl
theorem zero76 : (Try.prog.info? 76).bind (·.zero) = some (.agg (List.toArray (.int .i32 0 :: .int .i32 0 :: .int .i32 0 :: .int .i32 0 :: .int .u8 0 :: .int .i64 0 :: .int .i64 0 :: .bool false :: .bool false :: .bool false :: .bool false :: .bool false :: .bool false :: .bool false :: .bool false :: []))) := by kernel_rfl
theorem inf76 : (Try.prog.info? 76).map (fun i => (i.zero, i.size, i.bytes)) = some (some (.agg (List.toArray (.int .i32 0 :: .int .i32 0 :: .int .i32 0 :: .int .i32 0 :: .int .u8 0 :: .int .i64 0 :: .int .i64 0 :: .bool false :: .bool false :: .bool false :: .bool false :: .bool false :: .bool false :: .bool false :: .bool false :: []))), 15, 48) := by kernel_rfl
theorem zero90 : (Try.prog.info? 90).bind (·.zero) = some (.agg (List.toArray (.int .i64 0 :: .int .i64 0 :: .int .i64 0 :: .int .i64 0 :: .int .i64 0 :: .int .i64 0 :: .bool false :: .bool false :: .bool false :: .bool false :: .bool false :: .bool false :: .bool false :: .bool false :: .slice none 0 0 :: []))) := by kernel_rfl
theorem inf90 : (Try.prog.info? 90).map (fun i => (i.zero, i.size, i.bytes)) = some (some (.agg (List.toArray (.int .i64 0 :: .int .i64 0 :: .int .i64 0 :: .int .i64 0 :: .int .i64 0 :: .int .i64 0 :: .bool false :: .bool false :: .bool false :: .bool false :: .bool false :: .bool false :: .bool false :: .bool false :: .slice none 0 0 :: []))), 15, 80) := by kernel_rfl
theorem zero190 : (Try.prog.info? 190).bind (·.zero) = some (.agg #[.int .i32 0, .int .i32 0]) := by kernel_rfl
theorem inf190 : (Try.prog.info? 190).map (fun i => (i.zero, i.size, i.bytes)) = some (some (.agg #[.int .i32 0, .int .i32 0]), 2, 8) := by kernel_rfl
theorem zero191 : (Try.prog.info? 191).bind (·.zero) = some (.agg (List.flatMap enc190 ((S190.mk 0 0) :: (S190.mk 0 0) :: (S190.mk 0 0) :: (S190.mk 0 0) :: (S190.mk 0 0) :: (S190.mk 0 0) :: (S190.mk 0 0) :: (S190.mk 0 0) :: (S190.mk 0 0) :: (S190.mk 0 0) :: (S190.mk 0 0) :: (S190.mk 0 0) :: (S190.mk 0 0) :: (S190.mk 0 0) :: (S190.mk 0 0) :: (S190.mk 0 0) :: (S190.mk 0 0) :: (S190.mk 0 0) :: (S190.mk 0 0) :: (S190.mk 0 0) :: (S190.mk 0 0) :: (S190.mk 0 0) :: (S190.mk 0 0) :: (S190.mk 0 0) :: (S190.mk 0 0) :: (S190.mk 0 0) :: (S190.mk 0 0) :: (S190.mk 0 0) :: (S190.mk 0 0) :: (S190.mk 0 0) :: (S190.mk 0 0) :: (S190.mk 0 0) :: (S190.mk 0 0) :: (S190.mk 0 0) :: (S190.mk 0 0) :: (S190.mk 0 0) :: (S190.mk 0 0) :: [])).toArray) := by kernel_rfl
theorem inf191 : (Try.prog.info? 191).map (fun i => (i.zero, i.size, i.bytes)) = some (some (.agg (List.flatMap enc190 ((S190.mk 0 0) :: (S190.mk 0 0) :: (S190.mk 0 0) :: (S190.mk 0 0) :: (S190.mk 0 0) :: (S190.mk 0 0) :: (S190.mk 0 0) :: (S190.mk 0 0) :: (S190.mk 0 0) :: (S190.mk 0 0) :: (S190.mk 0 0) :: (S190.mk 0 0) :: (S190.mk 0 0) :: (S190.mk 0 0) :: (S190.mk 0 0) :: (S190.mk 0 0) :: (S190.mk 0 0) :: (S190.mk 0 0) :: (S190.mk 0 0) :: (S190.mk 0 0) :: (S190.mk 0 0) :: (S190.mk 0 0) :: (S190.mk 0 0) :: (S190.mk 0 0) :: (S190.mk 0 0) :: (S190.mk 0 0) :: (S190.mk 0 0) :: (S190.mk 0 0) :: (S190.mk 0 0) :: (S190.mk 0 0) :: (S190.mk 0 0) :: (S190.mk 0 0) :: (S190.mk 0 0) :: (S190.mk 0 0) :: (S190.mk 0 0) :: (S190.mk 0 0) :: (S190.mk 0 0) :: [])).toArray), 74, 296) := by kernel_rfl
theorem zero193 : (Try.prog.info? 193).bind (·.zero) = some (.agg (List.flatMap enc190 ((S190.mk 0 0) :: (S190.mk 0 0) :: (S190.mk 0 0) :: (S190.mk 0 0) :: (S190.mk 0 0) :: (S190.mk 0 0) :: (S190.mk 0 0) :: (S190.mk 0 0) :: (S190.mk 0 0) :: (S190.mk 0 0) :: (S190.mk 0 0) :: (S190.mk 0 0) :: (S190.mk 0 0) :: (S190.mk 0 0) :: (S190.mk 0 0) :: (S190.mk 0 0) :: (S190.mk 0 0) :: (S190.mk 0 0) :: (S190.mk 0 0) :: (S190.mk 0 0) :: (S190.mk 0 0) :: (S190.mk 0 0) :: (S190.mk 0 0) :: (S190.mk 0 0) :: (S190.mk 0 0) :: (S190.mk 0 0) :: [])).toArray) := by kernel_rfl
theorem inf193 : (Try.prog.info? 193).map (fun i => (i.zero, i.size, i.bytes)) = some (some (.agg (List.flatMap enc190 ((S190.mk 0 0) :: (S190.mk 0 0) :: (S190.mk 0 0) :: (S190.mk 0 0) :: (S190.mk 0 0) :: (S190.mk 0 0) :: (S190.mk 0 0) :: (S190.mk 0 0) :: (S190.mk 0 0) :: (S190.mk 0 0) :: (S190.mk 0 0) :: (S190.mk 0 0) :: (S190.mk 0 0) :: (S190.mk 0 0) :: (S190.mk 0 0) :: (S190.mk 0 0) :: (S190.mk 0 0) :: (S190.mk 0 0) :: (S190.mk 0 0) :: (S190.mk 0 0) :: (S190.mk 0 0) :: (S190.mk 0 0) :: (S190.mk 0 0) :: (S190.mk 0 0) :: (S190.mk 0 0) :: (S190.mk 0 0) :: [])).toArray), 52, 208) := by kernel_rfl
theorem zero198 : (Try.prog.info? 198).bind (·.zero) = some (.agg #[.int .i32 0, .int .i32 0]) := by kernel_rfl
theorem inf198 : (Try.prog.info? 198).map (fun i => (i.zero, i.size, i.bytes)) = some (some (.agg #[.int .i32 0, .int .i32 0]), 2, 8) := by kernel_rfl
theorem plc67 : ∀ fs, Try.prog.underlying 67 = some (.struct fs) → ∀ w, (fs.mapM (fun f => do pure (f.offset, ← sizeOf f.type) : Field → Sem (Nat × Nat))).run Try.prog w = .ok ([(0, 1), (1, 1), (2, 1)] : List (Nat × Nat)).toArray w := fun fs h w => by rw [Try.underlying67] at h; cases h; kernel_rfl
theorem plc70 : ∀ fs, Try.prog.underlying 70 = some (.struct fs) → ∀ w, (fs.mapM (fun f => do pure (f.offset, ← sizeOf f.type) : Field → Sem (Nat × Nat))).run Try.prog w = .ok ([(0, 1), (1, 1), (2, 1), (3, 1), (4, 1), (5, 1), (6, 1), (7, 1), (8, 1), (9, 1)] : List (Nat × Nat)).toArray w := fun fs h w => by rw [Try.underlying70] at h; cases h; kernel_rfl
theorem plc76 : ∀ fs, Try.prog.underlying 76 = some (.struct fs) → ∀ w, (fs.mapM (fun f => do pure (f.offset, ← sizeOf f.type) : Field → Sem (Nat × Nat))).run Try.prog w = .ok ([(0, 1), (1, 3), (4, 1), (5, 10)] : List (Nat × Nat)).toArray w := fun fs h w => by rw [Try.underlying76] at h; cases h; kernel_rfl
theorem plc198 : ∀ fs, Try.prog.underlying 198 = some (.struct fs) → ∀ w, (fs.mapM (fun f => do pure (f.offset, ← sizeOf f.type) : Field → Sem (Nat × Nat))).run Try.prog w = .ok ([(0, 1), (1, 1)] : List (Nat × Nat)).toArray w := fun fs h w => by rw [Try.underlying198] at h; cases h; kernel_rfl
theorem eqg70 : Try.prog.eqGuardType Try.prog.depth 70 = false := by kernel_rfl
theorem eqv70 {x y : S70} : (((x.f0 == y.f0) && ((x.f1 == y.f1) && ((x.f2 == y.f2) && ((x.f3 == y.f3) && ((x.f4 == y.f4) && ((x.f5 == y.f5) && ((x.f6 == y.f6) && ((x.f7 == y.f7) && ((x.f8 == y.f8) && ((x.f9 == y.f9) && true)))))))))) : Bool) = decide (x = y) := by
  obtain ⟨_, _, _, _, _, _, _, _, _, _⟩ := x; obtain ⟨_, _, _, _, _, _, _, _, _, _⟩ := y; rw [Bool.eq_iff_iff]; simp [and_assoc]
theorem eqg74 : Try.prog.eqGuardType Try.prog.depth 74 = false := by kernel_rfl
theorem eqv74 {x y : S74} : (((x.f0 == y.f0) && ((x.f1 == y.f1) && ((x.f2 == y.f2) && true))) : Bool) = decide (x = y) := by
  obtain ⟨_, _, _⟩ := x; obtain ⟨_, _, _⟩ := y; rw [Bool.eq_iff_iff]; simp [and_assoc]
theorem eqg76 : Try.prog.eqGuardType Try.prog.depth 76 = false := by kernel_rfl
theorem eqv76 {x y : S76} : (((x.f0 == y.f0) && (((x.f1.f0 == y.f1.f0) && ((x.f1.f1 == y.f1.f1) && ((x.f1.f2 == y.f1.f2) && true))) && ((x.f2 == y.f2) && (((x.f3.f0 == y.f3.f0) && ((x.f3.f1 == y.f3.f1) && ((x.f3.f2 == y.f3.f2) && ((x.f3.f3 == y.f3.f3) && ((x.f3.f4 == y.f3.f4) && ((x.f3.f5 == y.f3.f5) && ((x.f3.f6 == y.f3.f6) && ((x.f3.f7 == y.f3.f7) && ((x.f3.f8 == y.f3.f8) && ((x.f3.f9 == y.f3.f9) && true)))))))))) && true)))) : Bool) = decide (x = y) := by
  obtain ⟨_, ⟨_, _, _⟩, _, ⟨_, _, _, _, _, _, _, _, _, _⟩⟩ := x; obtain ⟨_, ⟨_, _, _⟩, _, ⟨_, _, _, _, _, _, _, _, _, _⟩⟩ := y; rw [Bool.eq_iff_iff]; simp [and_assoc]
theorem mixed : Try.prog.follows .mixedOrders = true := by kernel_rfl
theorem nm30 : (Try.f30.name == "runtime.NumGoroutine") = false := by kernel_rfl
theorem nm31 : (Try.f31.name == "runtime.NumGoroutine") = false := by kernel_rfl
theorem nm32 : (Try.f32.name == "runtime.NumGoroutine") = false := by kernel_rfl
theorem nm33 : (Try.f33.name == "runtime.NumGoroutine") = false := by kernel_rfl
theorem nm36 : (Try.f36.name == "runtime.NumGoroutine") = false := by kernel_rfl
theorem nm37 : (Try.f37.name == "runtime.NumGoroutine") = false := by kernel_rfl
theorem nm38 : (Try.f38.name == "runtime.NumGoroutine") = false := by kernel_rfl
theorem nm39 : (Try.f39.name == "runtime.NumGoroutine") = false := by kernel_rfl
theorem nm40 : (Try.f40.name == "runtime.NumGoroutine") = false := by kernel_rfl
theorem nm41 : (Try.f41.name == "runtime.NumGoroutine") = false := by kernel_rfl
theorem nm42 : (Try.f42.name == "runtime.NumGoroutine") = false := by kernel_rfl
theorem nm43 : (Try.f43.name == "runtime.NumGoroutine") = false := by kernel_rfl
theorem nm44 : (Try.f44.name == "runtime.NumGoroutine") = false := by kernel_rfl
theorem nm45 : (Try.f45.name == "runtime.NumGoroutine") = false := by kernel_rfl
theorem nm46 : (Try.f46.name == "runtime.NumGoroutine") = false := by kernel_rfl
theorem nm47 : (Try.f47.name == "runtime.NumGoroutine") = false := by kernel_rfl
theorem nm48 : (Try.f48.name == "runtime.NumGoroutine") = false := by kernel_rfl
theorem nm49 : (Try.f49.name == "runtime.NumGoroutine") = false := by kernel_rfl
theorem nm50 : (Try.f50.name == "runtime.NumGoroutine") = false := by kernel_rfl
theorem nm67 : (Try.f67.name == "runtime.NumGoroutine") = false := by kernel_rfl
theorem nm68 : (Try.f68.name == "runtime.NumGoroutine") = false := by kernel_rfl
theorem nm69 : (Try.f69.name == "runtime.NumGoroutine") = false := by kernel_rfl
theorem nm70 : (Try.f70.name == "runtime.NumGoroutine") = false := by kernel_rfl
theorem nm71 : (Try.f71.name == "runtime.NumGoroutine") = false := by kernel_rfl
theorem nm72 : (Try.f72.name == "runtime.NumGoroutine") = false := by kernel_rfl
theorem nm73 : (Try.f73.name == "runtime.NumGoroutine") = false := by kernel_rfl
theorem nm76 : (Try.f76.name == "runtime.NumGoroutine") = false := by kernel_rfl
theorem nm77 : (Try.f77.name == "runtime.NumGoroutine") = false := by kernel_rfl
theorem nm78 : (Try.f78.name == "runtime.NumGoroutine") = false := by kernel_rfl
theorem nm79 : (Try.f79.name == "runtime.NumGoroutine") = false := by kernel_rfl
theorem nm80 : (Try.f80.name == "runtime.NumGoroutine") = false := by kernel_rfl
theorem nm81 : (Try.f81.name == "runtime.NumGoroutine") = false := by kernel_rfl
theorem nm82 : (Try.f82.name == "runtime.NumGoroutine") = false := by kernel_rfl
theorem nm83 : (Try.f83.name == "runtime.NumGoroutine") = false := by kernel_rfl
theorem nm84 : (Try.f84.name == "runtime.NumGoroutine") = false := by kernel_rfl
theorem nm85 : (Try.f85.name == "runtime.NumGoroutine") = false := by kernel_rfl
theorem nm86 : (Try.f86.name == "runtime.NumGoroutine") = false := by kernel_rfl
theorem nm87 : (Try.f87.name == "runtime.NumGoroutine") = false := by kernel_rfl
theorem nm88 : (Try.f88.name == "runtime.NumGoroutine") = false := by kernel_rfl
theorem nm89 : (Try.f89.name == "runtime.NumGoroutine") = false := by kernel_rfl
theorem nm90 : (Try.f90.name == "runtime.NumGoroutine") = false := by kernel_rfl
theorem nm91 : (Try.f91.name == "runtime.NumGoroutine") = false := by kernel_rfl
theorem nm102 : (Try.f102.name == "runtime.NumGoroutine") = false := by kernel_rfl
theorem nm103 : (Try.f103.name == "runtime.NumGoroutine") = false := by kernel_rfl
theorem nm104 : (Try.f104.name == "runtime.NumGoroutine") = false := by kernel_rfl
theorem nm105 : (Try.f105.name == "runtime.NumGoroutine") = false := by kernel_rfl
theorem nm109 : (Try.f109.name == "runtime.NumGoroutine") = false := by kernel_rfl
theorem nm110 : (Try.f110.name == "runtime.NumGoroutine") = false := by kernel_rfl
theorem nm111 : (Try.f111.name == "runtime.NumGoroutine") = false := by kernel_rfl
theorem nm112 : (Try.f112.name == "runtime.NumGoroutine") = false := by kernel_rfl
theorem nm113 : (Try.f113.name == "runtime.NumGoroutine") = false := by kernel_rfl
theorem nm116 : (Try.f116.name == "runtime.NumGoroutine") = false := by kernel_rfl
theorem nm117 : (Try.f117.name == "runtime.NumGoroutine") = false := by kernel_rfl
theorem nm118 : (Try.f118.name == "runtime.NumGoroutine") = false := by kernel_rfl
theorem nm120 : (Try.f120.name == "runtime.NumGoroutine") = false := by kernel_rfl
theorem nm121 : (Try.f121.name == "runtime.NumGoroutine") = false := by kernel_rfl
theorem nm122 : (Try.f122.name == "runtime.NumGoroutine") = false := by kernel_rfl
theorem nm123 : (Try.f123.name == "runtime.NumGoroutine") = false := by kernel_rfl
end Go.Proofs.Ytodkeoibebimgaa.Gr

/- What the texts of the functions use: types, kinds, facts of the program. -/
import Derived.Test.YtocjoegcfojjhaaProg
import Derived.Test.YtocjoegcfojjhaaSlM
namespace Go.Proofs.Ytocjoegcfojjhaa.Hd
open Go Go.RowKit Go.Proofs.Ytocjoegcfojjhaa.SL
set_option linter.unusedVariables false
set_option linter.unusedSimpArgs false
attribute [local irreducible] IntKind.wrap minI maxI shrI shlI andI orI xorI andNotI cplI rd sub bytesOf strOf slA
structure S52 where
  f0 : Int
  f1 : Int
  deriving Inhabited, DecidableEq
structure S88 where
  f0 : Int
  f1 : Int
  deriving Inhabited, DecidableEq
structure S136 where
  f0 : (List (S88 × Int))
  f1 : Int
  deriving Inhabited, DecidableEq
def enc52 (x : S52) : List Value := [.int .u64 x.f0, .int .i64 x.f1]
def k52 : Kd S52 := Kd.fl 2 enc52 (fun _ => rfl) (fun x v h => by simp only [enc52, List.mem_cons, List.not_mem_nil, or_false] at h; rcases h with rfl | rfl <;> rfl)
def enc88 (x : S88) : List Value := [.int .i64 x.f0, .int .u64 x.f1]
def k88 : Kd S88 := Kd.fl 2 enc88 (fun _ => rfl) (fun x v h => by simp only [enc88, List.mem_cons, List.not_mem_nil, or_false] at h; rcases h with rfl | rfl <;> rfl)
theorem sz3 : (Try.prog.info? 3).map (·.size) = some 1 := by kernel_rfl
theorem nz3 : ((Try.prog.info? 3).map fun i => decide (i.size = 0)) = some false := by kernel_rfl
theorem sz5 : (Try.prog.info? 5).map (·.size) = some 1 := by kernel_rfl
theorem nz5 : ((Try.prog.info? 5).map fun i => decide (i.size = 0)) = some false := by kernel_rfl
theorem sz50 : (Try.prog.info? 50).map (·.size) = some 1 := by kernel_rfl
theorem nz50 : ((Try.prog.info? 50).map fun i => decide (i.size = 0)) = some false := by kernel_rfl
theorem sz52 : (Try.prog.info? 52).map (·.size) = some 2 := by kernel_rfl
theorem nz52 : ((Try.prog.info? 52).map fun i => decide (i.size = 0)) = some false := by kernel_rfl
theorem sz88 : (Try.prog.info? 88).map (·.size) = some 2 := by kernel_rfl
theorem nz88 : ((Try.prog.info? 88).map fun i => decide (i.size = 0)) = some false := by kernel_rfl
theorem sz134 : (Try.prog.info? 134).map (·.size) = some 1 := by kernel_rfl
theorem nz134 : ((Try.prog.info? 134).map fun i => decide (i.size = 0)) = some false := by kernel_rfl
theorem sz136 : (Try.prog.info? 136).map (·.size) = some 2 := by kernel_rfl
theorem nz136 : ((Try.prog.info? 136).map fun i => decide (i.size = 0)) = some false := by kernel_rfl
theorem zero3 : (Try.prog.info? 3).bind (·.zero) = some (.int .i64 0) := by kernel_rfl
theorem inf3 : (Try.prog.info? 3).map (fun i => (i.zero, i.size, i.bytes)) = some (some (.int .i64 0), 1, 8) := by kernel_rfl
theorem zero5 : (Try.prog.info? 5).bind (·.zero) = some (.int .u8 0) := by kernel_rfl
theorem inf5 : (Try.prog.info? 5).map (fun i => (i.zero, i.size, i.bytes)) = some (some (.int .u8 0), 1, 1) := by kernel_rfl
theorem zero52 : (Try.prog.info? 52).bind (·.zero) = some (.agg #[.int .u64 0, .int .i64 0]) := by kernel_rfl
theorem inf52 : (Try.prog.info? 52).map (fun i => (i.zero, i.size, i.bytes)) = some (some (.agg #[.int .u64 0, .int .i64 0]), 2, 16) := by kernel_rfl
theorem zero88 : (Try.prog.info? 88).bind (·.zero) = some (.agg #[.int .i64 0, .int .u64 0]) := by kernel_rfl
theorem inf88 : (Try.prog.info? 88).map (fun i => (i.zero, i.size, i.bytes)) = some (some (.agg #[.int .i64 0, .int .u64 0]), 2, 16) := by kernel_rfl
theorem zero136 : (Try.prog.info? 136).bind (·.zero) = some (.agg #[.map none, .int .u64 0]) := by kernel_rfl
theorem inf136 : (Try.prog.info? 136).map (fun i => (i.zero, i.size, i.bytes)) = some (some (.agg #[.map none, .int .u64 0]), 2, 16) := by kernel_rfl
theorem plc52 : ∀ fs, Try.prog.underlying 52 = some (.struct fs) → ∀ w, (fs.mapM (fun f => do pure (f.offset, ← sizeOf f.type) : Field → Sem (Nat × Nat))).run Try.prog w = .ok ([(0, 1), (1, 1)] : List (Nat × Nat)).toArray w := fun fs h w => by rw [Try.underlying52] at h; cases h; kernel_rfl
theorem plc88 : ∀ fs, Try.prog.underlying 88 = some (.struct fs) → ∀ w, (fs.mapM (fun f => do pure (f.offset, ← sizeOf f.type) : Field → Sem (Nat × Nat))).run Try.prog w = .ok ([(0, 1), (1, 1)] : List (Nat × Nat)).toArray w := fun fs h w => by rw [Try.underlying88] at h; cases h; kernel_rfl
theorem plc136 : ∀ fs, Try.prog.underlying 136 = some (.struct fs) → ∀ w, (fs.mapM (fun f => do pure (f.offset, ← sizeOf f.type) : Field → Sem (Nat × Nat))).run Try.prog w = .ok ([(0, 1), (1, 1)] : List (Nat × Nat)).toArray w := fun fs h w => by rw [Try.underlying136] at h; cases h; kernel_rfl
theorem eqg52 : Try.prog.eqGuardType Try.prog.depth 52 = false := by kernel_rfl
theorem eqv52 {x y : S52} : (((x.f0 == y.f0) && ((x.f1 == y.f1) && true)) : Bool) = decide (x = y) := by
  obtain ⟨_, _⟩ := x; obtain ⟨_, _⟩ := y; rw [Bool.eq_iff_iff]; simp [and_assoc]
theorem eqg88 : Try.prog.eqGuardType Try.prog.depth 88 = false := by kernel_rfl
theorem eqv88 {x y : S88} : (((x.f0 == y.f0) && ((x.f1 == y.f1) && true)) : Bool) = decide (x = y) := by
  obtain ⟨_, _⟩ := x; obtain ⟨_, _⟩ := y; rw [Bool.eq_iff_iff]; simp [and_assoc]
def ek88 (x : S88) : Value := .agg #[.int .i64 x.f0, .int .u64 x.f1]
theorem ko88 : KeyOk Try.prog 88 ek88 := ⟨fun x y w => eqC_run 100 (r := decide (x = y)) (by rw [← eqv88]; kernel_rfl) 9900 w, ⟨_, Try.underlying88, fun _ _ => rfl⟩, fun em x w => (by cases em <;> kernel_rfl), fun x => (by simp [ek88, Instr.sameBits])⟩
theorem mixed : Try.prog.follows .mixedOrders = true := by kernel_rfl
theorem nm20 : (Try.f20.name == "runtime.NumGoroutine") = false := by kernel_rfl
theorem nm21 : (Try.f21.name == "runtime.NumGoroutine") = false := by kernel_rfl
theorem nm22 : (Try.f22.name == "runtime.NumGoroutine") = false := by kernel_rfl
theorem nm23 : (Try.f23.name == "runtime.NumGoroutine") = false := by kernel_rfl
theorem nm24 : (Try.f24.name == "runtime.NumGoroutine") = false := by kernel_rfl
theorem nm25 : (Try.f25.name == "runtime.NumGoroutine") = false := by kernel_rfl
theorem nm26 : (Try.f26.name == "runtime.NumGoroutine") = false := by kernel_rfl
theorem nm27 : (Try.f27.name == "runtime.NumGoroutine") = false := by kernel_rfl
theorem nm43 : (Try.f43.name == "runtime.NumGoroutine") = false := by kernel_rfl
theorem nm47 : (Try.f47.name == "runtime.NumGoroutine") = false := by kernel_rfl
theorem nm48 : (Try.f48.name == "runtime.NumGoroutine") = false := by kernel_rfl
theorem nm49 : (Try.f49.name == "runtime.NumGoroutine") = false := by kernel_rfl
theorem nm50 : (Try.f50.name == "runtime.NumGoroutine") = false := by kernel_rfl
theorem nm51 : (Try.f51.name == "runtime.NumGoroutine") = false := by kernel_rfl
theorem nm52 : (Try.f52.name == "runtime.NumGoroutine") = false := by kernel_rfl
theorem nm53 : (Try.f53.name == "runtime.NumGoroutine") = false := by kernel_rfl
theorem nm54 : (Try.f54.name == "runtime.NumGoroutine") = false := by kernel_rfl
theorem nm55 : (Try.f55.name == "runtime.NumGoroutine") = false := by kernel_rfl
theorem nm56 : (Try.f56.name == "runtime.NumGoroutine") = false := by kernel_rfl
theorem nm79 : (Try.f79.name == "runtime.NumGoroutine") = false := by kernel_rfl
theorem nm80 : (Try.f80.name == "runtime.NumGoroutine") = false := by kernel_rfl
theorem nm81 : (Try.f81.name == "runtime.NumGoroutine") = false := by kernel_rfl
theorem nm82 : (Try.f82.name == "runtime.NumGoroutine") = false := by kernel_rfl
theorem nm96 : (Try.f96.name == "runtime.NumGoroutine") = false := by kernel_rfl
end Go.Proofs.Ytocjoegcfojjhaa.Hd

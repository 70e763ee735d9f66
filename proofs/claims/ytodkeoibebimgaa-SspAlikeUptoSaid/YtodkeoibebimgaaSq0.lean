/- What the texts of the functions use: types, kinds, facts of the program. -/
import Derived.Test.YtodkeoibebimgaaProg
import Derived.Test.YtodkeoibebimgaaSlI
namespace Go.Proofs.Ytodkeoibebimgaa.Sq
open Go Go.RowKit Go.Proofs.Ytodkeoibebimgaa.SL
set_option linter.unusedVariables false
set_option linter.unusedSimpArgs false
attribute [local irreducible] IntKind.wrap minI maxI shrI shlI andI orI xorI andNotI cplI rd sub bytesOf strOf slA
structure S41 where
  f0 : ByteArray
  deriving Inhabited, DecidableEq
structure S46 where
  f0 : Int
  f1 : Int
  f2 : Int
  f3 : Int
  f4 : ByteArray
  deriving Inhabited, DecidableEq
structure S63 where
  f0 : Int
  f1 : ByteArray
  f2 : Int
  deriving Inhabited, DecidableEq
structure S49 where
  f0 : ByteArray
  f1 : (List S63)
  f2 : Bool
  f3 : Int
  f4 : Int
  deriving Inhabited, DecidableEq
structure S54 where
  f0 : Int
  f1 : Int
  f2 : Int
  f3 : Int
  f4 : (List Int)
  deriving Inhabited, DecidableEq
structure S121 where
  f0 : (List S63)
  deriving Inhabited, DecidableEq
structure S128 where
  f0 : Int
  f1 : S41
  f2 : Int
  deriving Inhabited, DecidableEq
structure S131 where
  f0 : (List S128)
  f1 : S41
  f2 : Int
  f3 : Bool
  f4 : Int
  deriving Inhabited, DecidableEq
structure S162 where
  f0 : (List S128)
  deriving Inhabited, DecidableEq
def enc41 (x : S41) : List Value := [.string x.f0]
def k41 : Kd S41 := Kd.fl 1 enc41 (fun _ => rfl) (fun x v h => by simp only [enc41, List.mem_cons, List.not_mem_nil, or_false] at h; rcases h with rfl <;> rfl)
def enc46 (x : S46) : List Value := [.int .u8 x.f0, .int .u64 x.f1, .int .i64 x.f2, .int .i64 x.f3, .string x.f4]
def k46 : Kd S46 := Kd.fl 5 enc46 (fun _ => rfl) (fun x v h => by simp only [enc46, List.mem_cons, List.not_mem_nil, or_false] at h; rcases h with rfl | rfl | rfl | rfl | rfl <;> rfl)
def enc63 (x : S63) : List Value := [.int .u64 x.f0, .string x.f1, .int .u64 x.f2]
def k63 : Kd S63 := Kd.fl 3 enc63 (fun _ => rfl) (fun x v h => by simp only [enc63, List.mem_cons, List.not_mem_nil, or_false] at h; rcases h with rfl | rfl | rfl <;> rfl)
def D54 (x : S54) (cs_ : List Value) (Bs_ : List Asrt) : Prop := ∃ (A1 : Option Addr) (c2 : Nat), cs_ = [.int .u64 x.f0, .int .u64 x.f1, .int .u64 x.f2, .int .u64 x.f3, .slice A1 x.f4.length c2] ∧ Bs_ = [Ro (Kd.int .u8) A1 c2 x.f4]
def k54 : Kd S54 := Kd.ofD 5 D54 (fun ⟨_, _, e, _⟩ => by rw [e]; rfl) (fun ⟨_, _, e, _⟩ v h => by rw [e] at h; simp only [List.mem_cons, List.not_mem_nil, or_false] at h; rcases h with rfl | rfl | rfl | rfl | rfl <;> rfl)
def enc128 (x : S128) : List Value := [.int .u64 x.f0, .string x.f1.f0, .int .u64 x.f2]
def k128 : Kd S128 := Kd.fl 3 enc128 (fun _ => rfl) (fun x v h => by simp only [enc128, List.mem_cons, List.not_mem_nil, or_false] at h; rcases h with rfl | rfl | rfl <;> rfl)
theorem sz3 : (Try.prog.info? 3).map (·.size) = some 1 := by kernel_rfl
theorem nz3 : ((Try.prog.info? 3).map fun i => decide (i.size = 0)) = some false := by kernel_rfl
theorem sz4 : (Try.prog.info? 4).map (·.size) = some 1 := by kernel_rfl
theorem nz4 : ((Try.prog.info? 4).map fun i => decide (i.size = 0)) = some false := by kernel_rfl
theorem sz5 : (Try.prog.info? 5).map (·.size) = some 1 := by kernel_rfl
theorem nz5 : ((Try.prog.info? 5).map fun i => decide (i.size = 0)) = some false := by kernel_rfl
theorem sz9 : (Try.prog.info? 9).map (·.size) = some 1 := by kernel_rfl
theorem nz9 : ((Try.prog.info? 9).map fun i => decide (i.size = 0)) = some false := by kernel_rfl
theorem sz23 : (Try.prog.info? 23).map (·.size) = some 1 := by kernel_rfl
theorem nz23 : ((Try.prog.info? 23).map fun i => decide (i.size = 0)) = some false := by kernel_rfl
theorem sz41 : (Try.prog.info? 41).map (·.size) = some 1 := by kernel_rfl
theorem nz41 : ((Try.prog.info? 41).map fun i => decide (i.size = 0)) = some false := by kernel_rfl
theorem sz44 : (Try.prog.info? 44).map (·.size) = some 1 := by kernel_rfl
theorem nz44 : ((Try.prog.info? 44).map fun i => decide (i.size = 0)) = some false := by kernel_rfl
theorem sz46 : (Try.prog.info? 46).map (·.size) = some 5 := by kernel_rfl
theorem nz46 : ((Try.prog.info? 46).map fun i => decide (i.size = 0)) = some false := by kernel_rfl
theorem sz47 : (Try.prog.info? 47).map (·.size) = some 1 := by kernel_rfl
theorem nz47 : ((Try.prog.info? 47).map fun i => decide (i.size = 0)) = some false := by kernel_rfl
theorem sz49 : (Try.prog.info? 49).map (·.size) = some 5 := by kernel_rfl
theorem nz49 : ((Try.prog.info? 49).map fun i => decide (i.size = 0)) = some false := by kernel_rfl
theorem sz54 : (Try.prog.info? 54).map (·.size) = some 5 := by kernel_rfl
theorem nz54 : ((Try.prog.info? 54).map fun i => decide (i.size = 0)) = some false := by kernel_rfl
theorem sz63 : (Try.prog.info? 63).map (·.size) = some 3 := by kernel_rfl
theorem nz63 : ((Try.prog.info? 63).map fun i => decide (i.size = 0)) = some false := by kernel_rfl
theorem sz121 : (Try.prog.info? 121).map (·.size) = some 1 := by kernel_rfl
theorem nz121 : ((Try.prog.info? 121).map fun i => decide (i.size = 0)) = some false := by kernel_rfl
theorem sz128 : (Try.prog.info? 128).map (·.size) = some 3 := by kernel_rfl
theorem nz128 : ((Try.prog.info? 128).map fun i => decide (i.size = 0)) = some false := by kernel_rfl
theorem sz129 : (Try.prog.info? 129).map (·.size) = some 1 := by kernel_rfl
theorem nz129 : ((Try.prog.info? 129).map fun i => decide (i.size = 0)) = some false := by kernel_rfl
theorem sz131 : (Try.prog.info? 131).map (·.size) = some 5 := by kernel_rfl
theorem nz131 : ((Try.prog.info? 131).map fun i => decide (i.size = 0)) = some false := by kernel_rfl
theorem sz162 : (Try.prog.info? 162).map (·.size) = some 1 := by kernel_rfl
theorem nz162 : ((Try.prog.info? 162).map fun i => decide (i.size = 0)) = some false := by kernel_rfl
theorem zero5 : (Try.prog.info? 5).bind (·.zero) = some (.int .u8 0) := by kernel_rfl
theorem inf5 : (Try.prog.info? 5).map (fun i => (i.zero, i.size, i.bytes)) = some (some (.int .u8 0), 1, 1) := by kernel_rfl
theorem zero9 : (Try.prog.info? 9).bind (·.zero) = some (.string ByteArray.empty) := by kernel_rfl
theorem inf9 : (Try.prog.info? 9).map (fun i => (i.zero, i.size, i.bytes)) = some (some (.string ByteArray.empty), 1, 16) := by kernel_rfl
theorem zero41 : (Try.prog.info? 41).bind (·.zero) = some (.agg #[.string ByteArray.empty]) := by kernel_rfl
theorem inf41 : (Try.prog.info? 41).map (fun i => (i.zero, i.size, i.bytes)) = some (some (.agg #[.string ByteArray.empty]), 1, 16) := by kernel_rfl
theorem zero44 : (Try.prog.info? 44).bind (·.zero) = some (.int .u64 0) := by kernel_rfl
theorem inf44 : (Try.prog.info? 44).map (fun i => (i.zero, i.size, i.bytes)) = some (some (.int .u64 0), 1, 8) := by kernel_rfl
theorem zero46 : (Try.prog.info? 46).bind (·.zero) = some (.agg #[.int .u8 0, .int .u64 0, .int .i64 0, .int .i64 0, .string ByteArray.empty]) := by kernel_rfl
theorem inf46 : (Try.prog.info? 46).map (fun i => (i.zero, i.size, i.bytes)) = some (some (.agg #[.int .u8 0, .int .u64 0, .int .i64 0, .int .i64 0, .string ByteArray.empty]), 5, 48) := by kernel_rfl
theorem zero49 : (Try.prog.info? 49).bind (·.zero) = some (.agg #[.string ByteArray.empty, .slice none 0 0, .bool false, .int .u64 0, .int .u64 0]) := by kernel_rfl
theorem inf49 : (Try.prog.info? 49).map (fun i => (i.zero, i.size, i.bytes)) = some (some (.agg #[.string ByteArray.empty, .slice none 0 0, .bool false, .int .u64 0, .int .u64 0]), 5, 64) := by kernel_rfl
theorem zero54 : (Try.prog.info? 54).bind (·.zero) = some (.agg #[.int .u64 0, .int .u64 0, .int .u64 0, .int .u64 0, .slice none 0 0]) := by kernel_rfl
theorem inf54 : (Try.prog.info? 54).map (fun i => (i.zero, i.size, i.bytes)) = some (some (.agg #[.int .u64 0, .int .u64 0, .int .u64 0, .int .u64 0, .slice none 0 0]), 5, 56) := by kernel_rfl
theorem zero63 : (Try.prog.info? 63).bind (·.zero) = some (.agg #[.int .u64 0, .string ByteArray.empty, .int .u64 0]) := by kernel_rfl
theorem inf63 : (Try.prog.info? 63).map (fun i => (i.zero, i.size, i.bytes)) = some (some (.agg #[.int .u64 0, .string ByteArray.empty, .int .u64 0]), 3, 32) := by kernel_rfl
theorem zero121 : (Try.prog.info? 121).bind (·.zero) = some (.agg #[.slice none 0 0]) := by kernel_rfl
theorem inf121 : (Try.prog.info? 121).map (fun i => (i.zero, i.size, i.bytes)) = some (some (.agg #[.slice none 0 0]), 1, 24) := by kernel_rfl
theorem zero128 : (Try.prog.info? 128).bind (·.zero) = some (.agg #[.int .u64 0, .string ByteArray.empty, .int .u64 0]) := by kernel_rfl
theorem inf128 : (Try.prog.info? 128).map (fun i => (i.zero, i.size, i.bytes)) = some (some (.agg #[.int .u64 0, .string ByteArray.empty, .int .u64 0]), 3, 32) := by kernel_rfl
theorem zero131 : (Try.prog.info? 131).bind (·.zero) = some (.agg #[.slice none 0 0, .string ByteArray.empty, .int .u64 0, .bool false, .int .u64 0]) := by kernel_rfl
theorem inf131 : (Try.prog.info? 131).map (fun i => (i.zero, i.size, i.bytes)) = some (some (.agg #[.slice none 0 0, .string ByteArray.empty, .int .u64 0, .bool false, .int .u64 0]), 5, 64) := by kernel_rfl
theorem zero162 : (Try.prog.info? 162).bind (·.zero) = some (.agg #[.slice none 0 0]) := by kernel_rfl
theorem inf162 : (Try.prog.info? 162).map (fun i => (i.zero, i.size, i.bytes)) = some (some (.agg #[.slice none 0 0]), 1, 24) := by kernel_rfl
theorem plc41 : ∀ fs, Try.prog.underlying 41 = some (.struct fs) → ∀ w, (fs.mapM (fun f => do pure (f.offset, ← sizeOf f.type) : Field → Sem (Nat × Nat))).run Try.prog w = .ok ([(0, 1)] : List (Nat × Nat)).toArray w := fun fs h w => by rw [Try.underlying41] at h; cases h; kernel_rfl
theorem plc49 : ∀ fs, Try.prog.underlying 49 = some (.struct fs) → ∀ w, (fs.mapM (fun f => do pure (f.offset, ← sizeOf f.type) : Field → Sem (Nat × Nat))).run Try.prog w = .ok ([(0, 1), (1, 1), (2, 1), (3, 1), (4, 1)] : List (Nat × Nat)).toArray w := fun fs h w => by rw [Try.underlying49] at h; cases h; kernel_rfl
theorem plc54 : ∀ fs, Try.prog.underlying 54 = some (.struct fs) → ∀ w, (fs.mapM (fun f => do pure (f.offset, ← sizeOf f.type) : Field → Sem (Nat × Nat))).run Try.prog w = .ok ([(0, 1), (1, 1), (2, 1), (3, 1), (4, 1)] : List (Nat × Nat)).toArray w := fun fs h w => by rw [Try.underlying54] at h; cases h; kernel_rfl
theorem plc63 : ∀ fs, Try.prog.underlying 63 = some (.struct fs) → ∀ w, (fs.mapM (fun f => do pure (f.offset, ← sizeOf f.type) : Field → Sem (Nat × Nat))).run Try.prog w = .ok ([(0, 1), (1, 1), (2, 1)] : List (Nat × Nat)).toArray w := fun fs h w => by rw [Try.underlying63] at h; cases h; kernel_rfl
theorem plc121 : ∀ fs, Try.prog.underlying 121 = some (.struct fs) → ∀ w, (fs.mapM (fun f => do pure (f.offset, ← sizeOf f.type) : Field → Sem (Nat × Nat))).run Try.prog w = .ok ([(0, 1)] : List (Nat × Nat)).toArray w := fun fs h w => by rw [Try.underlying121] at h; cases h; kernel_rfl
theorem plc128 : ∀ fs, Try.prog.underlying 128 = some (.struct fs) → ∀ w, (fs.mapM (fun f => do pure (f.offset, ← sizeOf f.type) : Field → Sem (Nat × Nat))).run Try.prog w = .ok ([(0, 1), (1, 1), (2, 1)] : List (Nat × Nat)).toArray w := fun fs h w => by rw [Try.underlying128] at h; cases h; kernel_rfl
theorem plc131 : ∀ fs, Try.prog.underlying 131 = some (.struct fs) → ∀ w, (fs.mapM (fun f => do pure (f.offset, ← sizeOf f.type) : Field → Sem (Nat × Nat))).run Try.prog w = .ok ([(0, 1), (1, 1), (2, 1), (3, 1), (4, 1)] : List (Nat × Nat)).toArray w := fun fs h w => by rw [Try.underlying131] at h; cases h; kernel_rfl
theorem plc162 : ∀ fs, Try.prog.underlying 162 = some (.struct fs) → ∀ w, (fs.mapM (fun f => do pure (f.offset, ← sizeOf f.type) : Field → Sem (Nat × Nat))).run Try.prog w = .ok ([(0, 1)] : List (Nat × Nat)).toArray w := fun fs h w => by rw [Try.underlying162] at h; cases h; kernel_rfl
theorem mixed : Try.prog.follows .mixedOrders = true := by kernel_rfl
theorem con41 : Try.prog.concrete 41 = true := by kernel_rfl
theorem met41_142 {v : Value} : ∀ w, (method (Try.prog.types.size + Made.depth) 41 v "Apply").run Try.prog w = .ok (142, v) w := fun w => by kernel_rfl
theorem met41_143 {v : Value} : ∀ w, (method (Try.prog.types.size + Made.depth) 41 v "Copy").run Try.prog w = .ok (143, v) w := fun w => by kernel_rfl
theorem met41_144 {v : Value} : ∀ w, (method (Try.prog.types.size + Made.depth) 41 v "Diff").run Try.prog w = .ok (144, v) w := fun w => by kernel_rfl
theorem met41_145 {v : Value} : ∀ w, (method (Try.prog.types.size + Made.depth) 41 v "Same").run Try.prog w = .ok (145, v) w := fun w => by kernel_rfl
theorem nm16 : (Try.f16.name == "runtime.NumGoroutine") = false := by kernel_rfl
theorem nm20 : (Try.f20.name == "runtime.NumGoroutine") = false := by kernel_rfl
theorem nm21 : (Try.f21.name == "runtime.NumGoroutine") = false := by kernel_rfl
theorem nm22 : (Try.f22.name == "runtime.NumGoroutine") = false := by kernel_rfl
theorem nm23 : (Try.f23.name == "runtime.NumGoroutine") = false := by kernel_rfl
theorem nm24 : (Try.f24.name == "runtime.NumGoroutine") = false := by kernel_rfl
theorem nm25 : (Try.f25.name == "runtime.NumGoroutine") = false := by kernel_rfl
theorem nm26 : (Try.f26.name == "runtime.NumGoroutine") = false := by kernel_rfl
theorem nm27 : (Try.f27.name == "runtime.NumGoroutine") = false := by kernel_rfl
theorem nm28 : (Try.f28.name == "runtime.NumGoroutine") = false := by kernel_rfl
theorem nm29 : (Try.f29.name == "runtime.NumGoroutine") = false := by kernel_rfl
theorem nm51 : (Try.f51.name == "runtime.NumGoroutine") = false := by kernel_rfl
theorem nm52 : (Try.f52.name == "runtime.NumGoroutine") = false := by kernel_rfl
theorem nm53 : (Try.f53.name == "runtime.NumGoroutine") = false := by kernel_rfl
theorem nm54 : (Try.f54.name == "runtime.NumGoroutine") = false := by kernel_rfl
theorem nm55 : (Try.f55.name == "runtime.NumGoroutine") = false := by kernel_rfl
theorem nm56 : (Try.f56.name == "runtime.NumGoroutine") = false := by kernel_rfl
theorem nm60 : (Try.f60.name == "runtime.NumGoroutine") = false := by kernel_rfl
theorem nm61 : (Try.f61.name == "runtime.NumGoroutine") = false := by kernel_rfl
theorem nm62 : (Try.f62.name == "runtime.NumGoroutine") = false := by kernel_rfl
theorem nm63 : (Try.f63.name == "runtime.NumGoroutine") = false := by kernel_rfl
theorem nm64 : (Try.f64.name == "runtime.NumGoroutine") = false := by kernel_rfl
theorem nm65 : (Try.f65.name == "runtime.NumGoroutine") = false := by kernel_rfl
theorem nm66 : (Try.f66.name == "runtime.NumGoroutine") = false := by kernel_rfl
theorem nm92 : (Try.f92.name == "runtime.NumGoroutine") = false := by kernel_rfl
theorem nm93 : (Try.f93.name == "runtime.NumGoroutine") = false := by kernel_rfl
theorem nm94 : (Try.f94.name == "runtime.NumGoroutine") = false := by kernel_rfl
theorem nm95 : (Try.f95.name == "runtime.NumGoroutine") = false := by kernel_rfl
theorem nm96 : (Try.f96.name == "runtime.NumGoroutine") = false := by kernel_rfl
theorem nm97 : (Try.f97.name == "runtime.NumGoroutine") = false := by kernel_rfl
theorem nm98 : (Try.f98.name == "runtime.NumGoroutine") = false := by kernel_rfl
theorem nm99 : (Try.f99.name == "runtime.NumGoroutine") = false := by kernel_rfl
theorem nm100 : (Try.f100.name == "runtime.NumGoroutine") = false := by kernel_rfl
theorem nm101 : (Try.f101.name == "runtime.NumGoroutine") = false := by kernel_rfl
theorem nm114 : (Try.f114.name == "runtime.NumGoroutine") = false := by kernel_rfl
theorem nm142 : (Try.f142.name == "runtime.NumGoroutine") = false := by kernel_rfl
theorem nm143 : (Try.f143.name == "runtime.NumGoroutine") = false := by kernel_rfl
theorem nm144 : (Try.f144.name == "runtime.NumGoroutine") = false := by kernel_rfl
theorem nm145 : (Try.f145.name == "runtime.NumGoroutine") = false := by kernel_rfl
end Go.Proofs.Ytodkeoibebimgaa.Sq

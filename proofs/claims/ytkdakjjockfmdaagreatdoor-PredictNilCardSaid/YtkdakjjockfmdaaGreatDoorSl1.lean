/- What operations tell that look at no memory. -/
import Derived.Test.YtkdakjjockfmdaaGreatDoorSl0
import Derived.Laws.Small
import Derived.Laws.Slices
import Derived.Laws.Strings
import Derived.Laws.Strings2
import Derived.Laws.Strings3
import Derived.Laws.StructEq
import Derived.WideLaws
namespace Go.Proofs.YtkdakjjockfmdaaGreatDoor.SL
open Go Go.RowKit
set_option linter.unusedVariables false
set_option linter.unusedSimpArgs false

/-- 'o tells v, in whatever world'. -/
abbrev V (P : Program) (e : Env) (o : Oper) (v : Value) : Prop := ∀ w, (execOp (ev e) o).run P w = .ok (.value v) w

def andI (k : IntKind) (x y : Int) : Int := k.wrap (BitVec.ofInt k.bits x &&& BitVec.ofInt k.bits y).toNat
def orI (k : IntKind) (x y : Int) : Int := k.wrap (BitVec.ofInt k.bits x ||| BitVec.ofInt k.bits y).toNat
def xorI (k : IntKind) (x y : Int) : Int := k.wrap (BitVec.ofInt k.bits x ^^^ BitVec.ofInt k.bits y).toNat
def andNotI (k : IntKind) (x y : Int) : Int := k.wrap (BitVec.ofInt k.bits x &&& ~~~BitVec.ofInt k.bits y).toNat
def shlI (k : IntKind) (x y : Int) : Int := k.wrap (x * 2 ^ (min y.toNat k.bits))
def shrI (k : IntKind) (x y : Int) : Int := x.fdiv (2 ^ (min y.toNat k.bits))
def cplI (k : IntKind) (x : Int) : Int := xorI k (if k.signed then -1 else k.max) x
def minI (x y : Int) : Int := if y < x then y else x
def maxI (x y : Int) : Int := if y > x then y else x

section
variable {P : Program} {n : Nat} {e : Env} {d : Option Nat} {ty T T' : TypeId} {pos : String} {aft : Array Edge} {g : Option (Nat × Bool)} {x y c : Operand} {k k' : IntKind} {a b : Int}

theorem V_move {v : Value} (hx : ev e x = v) : V P e ⟨d, .move x, ty, pos, aft, g⟩ v := fun w => by subst hx; rfl
theorem V_assign {v : Value} (hx : ev e x = v) : V P e ⟨d, .assign x, ty, pos, aft, g⟩ v := fun w => by subst hx; rfl
theorem V_pick {p : Bool} {u v : Value} (hc : ev e c = .bool p) (hx : ev e x = u) (hy : ev e y = v) : V P e ⟨d, .pick c x y, ty, pos, aft, g⟩ (if p then u else v) := fun w => by
  subst hx; subst hy; simp [execOp, hc, asBool]

theorem V_add (hx : ev e x = .int k a) (hy : ev e y = .int k b) : V P e ⟨d, .binOp .add T x y T', ty, pos, aft, g⟩ (.int k (k.wrap (a + b))) := fun w => by
  simp [execOp, hx, hy, eqGuard, binOp, Op.intArith]
theorem V_sub (hx : ev e x = .int k a) (hy : ev e y = .int k b) : V P e ⟨d, .binOp .sub T x y T', ty, pos, aft, g⟩ (.int k (k.wrap (a - b))) := fun w => by
  simp [execOp, hx, hy, eqGuard, binOp, Op.intArith]
theorem V_mul (hx : ev e x = .int k a) (hy : ev e y = .int k b) : V P e ⟨d, .binOp .mul T x y T', ty, pos, aft, g⟩ (.int k (k.wrap (a * b))) := fun w => by
  simp [execOp, hx, hy, eqGuard, binOp, Op.intArith]
theorem V_quo (hx : ev e x = .int k a) (hy : ev e y = .int k b) (h0 : b ≠ 0) : V P e ⟨d, .binOp .quo T x y T', ty, pos, aft, g⟩ (.int k (k.wrap (a.tdiv b))) := fun w => by
  simp [execOp, hx, hy, eqGuard, binOp, Op.intDiv, h0]
theorem V_rem (hx : ev e x = .int k a) (hy : ev e y = .int k b) (h0 : b ≠ 0) : V P e ⟨d, .binOp .rem T x y T', ty, pos, aft, g⟩ (.int k (a.tmod b)) := fun w => by
  simp [execOp, hx, hy, eqGuard, binOp, Op.intDiv, h0]
theorem V_and (hx : ev e x = .int k a) (hy : ev e y = .int k b) : V P e ⟨d, .binOp .and T x y T', ty, pos, aft, g⟩ (.int k (andI k a b)) := fun w => by
  simp [execOp, hx, hy, eqGuard, binOp, Op.intBits, andI]
theorem V_or (hx : ev e x = .int k a) (hy : ev e y = .int k b) : V P e ⟨d, .binOp .or T x y T', ty, pos, aft, g⟩ (.int k (orI k a b)) := fun w => by
  simp [execOp, hx, hy, eqGuard, binOp, Op.intBits, orI]
theorem V_xor (hx : ev e x = .int k a) (hy : ev e y = .int k b) : V P e ⟨d, .binOp .xor T x y T', ty, pos, aft, g⟩ (.int k (xorI k a b)) := fun w => by
  simp [execOp, hx, hy, eqGuard, binOp, Op.intBits, xorI]
theorem V_andNot (hx : ev e x = .int k a) (hy : ev e y = .int k b) : V P e ⟨d, .binOp .andNot T x y T', ty, pos, aft, g⟩ (.int k (andNotI k a b)) := fun w => by
  simp [execOp, hx, hy, eqGuard, binOp, Op.intBits, andNotI]
theorem V_shl (hx : ev e x = .int k a) (hy : ev e y = .int k' b) (h0 : 0 ≤ b) : V P e ⟨d, .binOp .shl T x y T', ty, pos, aft, g⟩ (.int k (shlI k a b)) := fun w => by
  have : ¬ b < 0 := by omega
  simp [execOp, hx, hy, eqGuard, binOp, Op.shift, shlI, this]
theorem V_shr (hx : ev e x = .int k a) (hy : ev e y = .int k' b) (h0 : 0 ≤ b) : V P e ⟨d, .binOp .shr T x y T', ty, pos, aft, g⟩ (.int k (shrI k a b)) := fun w => by
  have : ¬ b < 0 := by omega
  simp [execOp, hx, hy, eqGuard, binOp, Op.shift, shrI, this]
theorem V_lss (hx : ev e x = .int k a) (hy : ev e y = .int k b) : V P e ⟨d, .binOp .lss T x y T', ty, pos, aft, g⟩ (.bool (decide (a < b))) := fun w => by
  simp [execOp, hx, hy, eqGuard, binOp, Op.intCmp]
theorem V_leq (hx : ev e x = .int k a) (hy : ev e y = .int k b) : V P e ⟨d, .binOp .leq T x y T', ty, pos, aft, g⟩ (.bool (decide (a ≤ b))) := fun w => by
  simp [execOp, hx, hy, eqGuard, binOp, Op.intCmp]
theorem V_gtr (hx : ev e x = .int k a) (hy : ev e y = .int k b) : V P e ⟨d, .binOp .gtr T x y T', ty, pos, aft, g⟩ (.bool (decide (a > b))) := fun w => by
  simp [execOp, hx, hy, eqGuard, binOp, Op.intCmp]
theorem V_geq (hx : ev e x = .int k a) (hy : ev e y = .int k b) : V P e ⟨d, .binOp .geq T x y T', ty, pos, aft, g⟩ (.bool (decide (a ≥ b))) := fun w => by
  simp [execOp, hx, hy, eqGuard, binOp, Op.intCmp]
theorem V_eql (hx : ev e x = .int k a) (hy : ev e y = .int k b) : V P e ⟨d, .binOp .eql T x y T', ty, pos, aft, g⟩ (.bool (decide (a = b))) := fun w => by
  simp [execOp, hx, hy, eqGuard_at_int, binOp, Op.intCmp]
  by_cases h : a = b <;> simp [h]
theorem V_neq (hx : ev e x = .int k a) (hy : ev e y = .int k b) : V P e ⟨d, .binOp .neq T x y T', ty, pos, aft, g⟩ (.bool (decide (a ≠ b))) := fun w => by
  simp [execOp, hx, hy, eqGuard_at_int, binOp, Op.intCmp]
  by_cases h : a = b <;> simp [h]
theorem run_equal_bool (hu : P.underlying T = some .bool) (p q : Bool) (w : World) : (Op.equal T (.bool p) (.bool q)).run P w = .ok (p == q) w := by
  show (Op.equalIn (9999 + 1) T (.bool p) (.bool q)).run P w = _
  generalize 9999 = m
  simp [Op.equalIn, run_underlying hu]
theorem V_eqlB {p q : Bool} (hu : P.underlying T = some .bool) (hx : ev e x = .bool p) (hy : ev e y = .bool q) : V P e ⟨d, .binOp .eql T x y T', ty, pos, aft, g⟩ (.bool (decide (p = q))) := fun w => by
  have h : (binOp .eql T (.bool p) (.bool q)).run P w = .ok (.bool (p == q)) w := by
    show (do pure (.bool (← Op.equal T (.bool p) (.bool q))) : Sem Value).run P w = _
    simp [run_equal_bool hu]
  simp only [execOp, hx, hy, eqGuard_at_bool, Sem.run_bind, Sem.run_pure, Result.andThen_ok, h]
  cases p <;> cases q <;> rfl
theorem V_neqB {p q : Bool} (hu : P.underlying T = some .bool) (hx : ev e x = .bool p) (hy : ev e y = .bool q) : V P e ⟨d, .binOp .neq T x y T', ty, pos, aft, g⟩ (.bool (decide (p ≠ q))) := fun w => by
  have h : (binOp .neq T (.bool p) (.bool q)).run P w = .ok (.bool (!(p == q))) w := by
    show (do pure (.bool (!(← Op.equal T (.bool p) (.bool q)))) : Sem Value).run P w = _
    simp [run_equal_bool hu]
  simp only [execOp, hx, hy, eqGuard_at_bool, Sem.run_bind, Sem.run_pure, Result.andThen_ok, h]
  cases p <;> cases q <;> rfl
theorem toList_inj {s t : ByteArray} : s.toList = t.toList ↔ s = t := by
  constructor
  · intro h
    rw [ByteArray.toList_eq, ByteArray.toList_eq] at h
    cases s; cases t
    simpa using h
  · rintro rfl; rfl
theorem V_eqlS {s t : ByteArray} (hx : ev e x = .string s) (hy : ev e y = .string t) : V P e ⟨d, .binOp .eql T x y T', ty, pos, aft, g⟩ (.bool (decide (s = t))) := fun w => by
  simp only [execOp, hx, hy, eqGuard_at_string, Sem.run_bind, Sem.run_pure, Result.andThen_ok, binOp, Op.stringOp]
  by_cases h : s = t
  · subst h; simp
  · have : ¬ s.toList = t.toList := fun q => h (toList_inj.1 q)
    simp [h, this]
theorem V_neqS {s t : ByteArray} (hx : ev e x = .string s) (hy : ev e y = .string t) : V P e ⟨d, .binOp .neq T x y T', ty, pos, aft, g⟩ (.bool (decide (s ≠ t))) := fun w => by
  simp only [execOp, hx, hy, eqGuard_at_string, Sem.run_bind, Sem.run_pure, Result.andThen_ok, binOp, Op.stringOp]
  by_cases h : s = t
  · subst h; simp
  · have : ¬ s.toList = t.toList := fun q => h (toList_inj.1 q)
    simp [h, this]

theorem V_not {p : Bool} (hx : ev e x = .bool p) : V P e ⟨d, .unOp .not T x, ty, pos, aft, g⟩ (.bool (!p)) := fun w => by
  simp [execOp, hx, Op.unary]
theorem V_neg (hx : ev e x = .int k a) : V P e ⟨d, .unOp .neg T x, ty, pos, aft, g⟩ (.int k (k.wrap (0 - a))) := fun w => by
  simp [execOp, hx, Op.unary, Op.intArith]
theorem V_cpl (hx : ev e x = .int k a) : V P e ⟨d, .unOp .xor T x, ty, pos, aft, g⟩ (.int k (cplI k a)) := fun w => by
  simp [execOp, hx, Op.unary, Op.intBits, cplI, xorI]
theorem V_conv (hs : (P.underlying T).isSome = true) (hu : P.underlying T' = some (.int k')) (hx : ev e x = .int k a) : V P e ⟨d, .convert T T' x, ty, pos, aft, g⟩ (.int k' (k'.wrap a)) := fun w => by
  have := run_convert_int (P := P) (w := w) T T' k a
  cases h : P.underlying T with
  | none => simp [h] at hs
  | some ds => simp [execOp, hx, convert, run_underlying h, run_underlying hu, Conv.intToInt]
theorem V_len {A : Option Addr} {l cp : Nat} {E : TypeId} (hu : P.underlying T = some (.slice E)) (hx : ev e x = .slice A l cp) : V P e ⟨d, .call { callee := .builtin .len, args := #[x], argTypes := #[T] }, ty, pos, aft, g⟩ (.int .i64 (l : Int)) := fun w => by
  simp [execOp, resolve, invoke, builtin, hx, Builtin.len_, run_underlying hu, goInt]
theorem V_cap {A : Option Addr} {l cp : Nat} {E : TypeId} (hu : P.underlying T = some (.slice E)) (hx : ev e x = .slice A l cp) : V P e ⟨d, .call { callee := .builtin .cap, args := #[x], argTypes := #[T] }, ty, pos, aft, g⟩ (.int .i64 (cp : Int)) := fun w => by
  simp [execOp, resolve, invoke, builtin, hx, Builtin.cap_, run_underlying hu, goInt]
theorem V_lenS {s : ByteArray} (hu : P.underlying T = some .string) (hx : ev e x = .string s) : V P e ⟨d, .call { callee := .builtin .len, args := #[x], argTypes := #[T] }, ty, pos, aft, g⟩ (.int .i64 (s.size : Int)) := fun w => by
  simp [execOp, resolve, invoke, builtin, hx, Builtin.len_, run_underlying hu, goInt]
theorem V_min {ts : Array TypeId} (hx : ev e x = .int k a) (hy : ev e y = .int k b) : V P e ⟨d, .call { callee := .builtin .min, args := #[x, y], argTypes := ts }, ty, pos, aft, g⟩ (.int k (minI a b)) := fun w => by
  simp [execOp, resolve, invoke, builtin, hx, hy, Builtin.min_, Builtin.min2, minI]
theorem V_max {ts : Array TypeId} (hx : ev e x = .int k a) (hy : ev e y = .int k b) : V P e ⟨d, .call { callee := .builtin .max, args := #[x, y], argTypes := ts }, ty, pos, aft, g⟩ (.int k (maxI a b)) := fun w => by
  simp [execOp, resolve, invoke, builtin, hx, hy, Builtin.max_, Builtin.max2, maxI]
theorem V_extract {vs : Array Value} {i : Nat} {v : Value} (hx : ev e x = .tuple vs) (hv : vs[i]? = some v) : V P e ⟨d, .extract x i, ty, pos, aft, g⟩ v := fun w => by
  simp [execOp, hx, Instr.extract, hv]
theorem V_nilCheck {A : Addr} (hx : ev e x = .pointer (some A)) : V P e ⟨d, .nilCheck x, ty, pos, aft, g⟩ (.pointer (some A)) := fun w => by
  simp [execOp, hx]
theorem V_fieldAddr {fs : Array Field} {f : Field} {i : Nat} {A : Addr} (hu : P.underlying T = some (.struct fs)) (hf : fs[i]? = some f) (hz : ((P.info? f.type).map fun i => decide (i.size = 0)) = some false) (hx : ev e x = .pointer (some A)) :
    V P e ⟨d, .fieldAddr T x i, ty, pos, aft, g⟩ (.pointer (some (A.add f.offset))) := fun w => by
  cases h : P.info? f.type with
  | none => simp [h] at hz
  | some q =>
    have : ¬ q.size = 0 := by simpa [h] using hz
    simp [execOp, hx, Instr.fieldAt, run_underlying hu, hf, Instr.sureAddr, fieldPlace, sizeOf, typeInfo, h, this]
theorem V_makeFunc {fn : Fn} {first captured : Array Operand} {vs us : Array Value} (h1 : first.map (ev e) = vs) (h2 : captured.map (ev e) = us) : V P e ⟨d, .makeFunc fn first captured, ty, pos, aft, g⟩ (.func fn vs us) := fun w => by
  simp [execOp, Instr.makeFunc, h1, h2]
theorem V_makeInterface {v : Value} (hx : ev e x = v) (hr : ∀ w, (Instr.makeInterface T v).run P w = .ok (.iface T v) w) : V P e ⟨d, .makeInterface T x, ty, pos, aft, g⟩ (.iface T v) := fun w => by
  simp [execOp, hx, hr]
end
end Go.Proofs.YtkdakjjockfmdaaGreatDoor.SL

/- Small arrays and structs compared, addresses in arrays, pointers compared with nil. -/
import Derived.Test.YtkdakjjockfmdaaGreatDoorSl8
import Derived.ChangeKeysEq
import Derived.Laws.StructEq
namespace Go.Proofs.YtkdakjjockfmdaaGreatDoor.SL
open Go Go.RowKit
set_option linter.unusedVariables false
set_option linter.unusedSimpArgs false

section
variable {P : Program} {n : Nat} {Q : PostT} {e : Env} {ds : List Deferred} {As As' : List Asrt} {d : Option Nat} {ty T T' E tx : TypeId} {pos : String} {aft : Array Edge} {g : Option (Nat × Bool)} {x y z : Operand} {K : Env → List Deferred → List Asrt → Prop}

/-! ### structs and small arrays compared, cell by cell -/
def partC (P : Program) (t : TypeId) (xs : Array Value) (off : Nat) : Option Value := match P.underlying t with
  | some (.struct _) => (P.info? t).map fun i => .agg (xs.extract off (off + i.size))
  | some (.array _ _) => (P.info? t).map fun i => .agg (xs.extract off (off + i.size))
  | some _ => xs[off]?
  | none => none
def andC (l : List (Option Bool)) : Option Bool := match l with
  | [] => some true
  | x :: l => x.bind fun a => (andC l).map fun b => a && b
def eqC (P : Program) : Nat → TypeId → Value → Value → Option Bool
  | 0, _, _, _ => none
  | d + 1, t, x, y => match P.underlying t with
    | some .bool => match x, y with | .bool a, .bool b => some (a == b) | _, _ => none
    | some (.int _) => match x, y with | .int k a, .int k' b => if k = k' then some (a == b) else none | _, _ => none
    | some .string => match x, y with | .string a, .string b => some (decide (a = b)) | _, _ => none
    | some (.struct fs) => match x, y with
      | .agg xs, .agg ys => if P.stoodInHeld t = true then none else if fs.all (·.name != "_") = true then andC (fs.toList.map fun f => (partC P f.type xs f.offset).bind fun a => (partC P f.type ys f.offset).bind fun b => eqC P d f.type a b) else none
      | _, _ => none
    | some (.array n e) => match x, y with
      | .agg xs, .agg ys => (P.info? e).bind fun i => andC ((List.range n).map fun j => (partC P e xs (j * i.size)).bind fun a => (partC P e ys (j * i.size)).bind fun b => eqC P d e a b)
      | _, _ => none
    | _ => none

theorem run_partC {t : TypeId} {xs : Array Value} {off : Nat} {a : Value} (h : partC P t xs off = some a) (w : World) : (part t xs off).run P w = .ok a w := by
  unfold partC at h
  cases hu : P.underlying t with
  | none => simp [hu] at h
  | some td =>
    have agg : ∀ {b : Bool}, (isAgg t).run P w = .ok b w → (b = true → (P.info? t).map (fun i => Value.agg (xs.extract off (off + i.size))) = some a) → (b = false → xs[off]? = some a) → (part t xs off).run P w = .ok a w := fun {b} hb h1 h2 => by
      unfold part
      cases b
      · simp [hb, h2 rfl]
      · have := h1 rfl
        cases hi : P.info? t with
        | none => simp [hi] at this
        | some i => simp [hi] at this; simp [hb, sizeOf, typeInfo, hi, this]
    cases td <;> simp only [hu] at h <;> first
      | exact agg (b := true) (by simp [isAgg, run_underlying hu]) (fun _ => h) (fun q => by cases q)
      | exact agg (b := false) (by simp [isAgg, run_underlying hu]) (fun q => by cases q) (fun _ => h)

theorem eqC_run : ∀ (d : Nat) {t : TypeId} {x y : Value} {r : Bool}, eqC P d t x y = some r → ∀ (dd : Nat) (w : World), (Op.equalIn (dd + d) t x y).run P w = .ok r w
  | 0, _, _, _, _, h, _, _ => by simp [eqC] at h
  | d + 1, t, x, y, r, h, dd, w => by
    have IH := fun {t : TypeId} {x y : Value} {r : Bool} (h : eqC P d t x y = some r) (w : World) => eqC_run d h dd w
    show (Op.equalIn ((dd + d) + 1) t x y).run P w = _
    unfold eqC at h
    cases hu : P.underlying t with
    | none => simp [hu] at h
    | some td =>
      cases td <;> simp only [hu] at h <;> try (cases h; done)
      case bool =>
        cases x <;> (try simp only at h) <;> try (cases h; done)
        cases y <;> (try simp only at h) <;> try (cases h; done)
        cases h
        simp [Op.equalIn, run_underlying hu]
      case int k0 =>
        cases x <;> (try simp only at h) <;> try (cases h; done)
        cases y <;> (try simp only at h) <;> try (cases h; done)
        split at h
        · rename_i hk; cases h; simp [Op.equalIn, run_underlying hu, hk]
        · cases h
      case string =>
        cases x <;> (try simp only at h) <;> try (cases h; done)
        cases y <;> (try simp only at h) <;> try (cases h; done)
        rename_i a b
        cases h
        have e1 : (a == b) = decide (a = b) := by
          rw [beq_toListBytes]
          by_cases q : a = b
          · subst q; simp
          · have : ¬ a.toList = b.toList := fun z => q (toList_inj.1 z)
            simp [q, this]
        simp [Op.equalIn, run_underlying hu, e1]
      case struct fs =>
        cases x <;> (try simp only at h) <;> try (cases h; done)
        cases y <;> (try simp only at h) <;> try (cases h; done)
        rename_i xs ys
        split at h
        · cases h
        rename_i hst
        split at h
        case isFalse => cases h
        rename_i hall
        have hfs : P.fieldsOf t = fs := by simp [Program.fieldsOf, hu]
        rw [run_equalIn_struct w (dd + d) t xs ys (by rw [hfs]; exact hu) (by simpa using hst), hfs]
        have hall' : ∀ f ∈ fs.toList, f.name ≠ "_" := fun f hf => by
          have := Array.all_eq_true_iff_forall_mem.1 hall f (Array.mem_toList_iff.1 hf)
          simpa using this
        clear hall hfs hu
        generalize fs.toList = l at h hall'
        induction l generalizing r w with
        | nil => simp [andC] at h; subst h; simp [Op.eqFields]
        | cons f l ih =>
          simp only [List.map_cons, andC, Option.bind_eq_some_iff, Option.map_eq_some_iff] at h
          obtain ⟨a1, ⟨va, h1, vb, h2, h3⟩, b1, h4, rfl⟩ := h
          have hn := hall' f (by simp)
          simp only [Op.eqFields, hn, ne_eq, not_false_eq_true, if_true, Sem.run_bind, run_partC h1, run_partC h2, IH h3, Result.andThen_ok]
          cases a1
          · simp
          · simpa using ih _ w h4 (fun g hg => hall' g (by simp [hg]))
      case array m e =>
        cases x <;> (try simp only at h) <;> try (cases h; done)
        cases y <;> (try simp only at h) <;> try (cases h; done)
        rename_i xs ys
        simp only [Option.bind_eq_some_iff] at h
        obtain ⟨i, hi, h⟩ := h
        rw [run_equalIn_array w (dd + d) xs ys hu hi]
        have hc : P.cellsOf e = i.size := by simp [Program.cellsOf, hi]
        rw [hc]
        clear hu
        generalize List.range m = l at h
        induction l generalizing r w with
        | nil => simp [andC] at h; subst h; simp [Op.eqItems]
        | cons j l ih =>
          simp only [List.map_cons, andC, Option.bind_eq_some_iff, Option.map_eq_some_iff] at h
          obtain ⟨a1, ⟨va, h1, vb, h2, h3⟩, b1, h4, rfl⟩ := h
          simp only [Op.eqItems, Sem.run_bind, run_partC h1, run_partC h2, IH h3, Result.andThen_ok]
          cases a1
          · simp
          · simpa using ih _ w h4

theorem V_eqlD {xs ys : List Value} {r : Bool} {p : Prop} [Decidable p] (hg : P.eqGuardType P.depth T = false) (hx : ev e x = .agg xs.toArray) (hy : ev e y = .agg ys.toArray) (hr : eqC P 100 T (.agg xs.toArray) (.agg ys.toArray) = some r) (hp : r = decide p) : V P e ⟨d, .binOp .eql T x y T', ty, pos, aft, g⟩ (.bool (decide p)) := fun w => by
  have h1 : (Op.equalIn 10000 T (.agg xs.toArray) (.agg ys.toArray)).run P w = .ok r w := eqC_run 100 hr 9900 w
  simp only [execOp, hx, hy, Sem.run_bind, run_eqGuard_agg w .eql T x y xs.toArray ys.toArray hg, Result.andThen_ok, run_eql_struct, h1, hp, Sem.run_pure]
theorem V_neqD {xs ys : List Value} {r : Bool} {p : Prop} [Decidable p] (hg : P.eqGuardType P.depth T = false) (hx : ev e x = .agg xs.toArray) (hy : ev e y = .agg ys.toArray) (hr : eqC P 100 T (.agg xs.toArray) (.agg ys.toArray) = some r) (hp : r = decide p) : V P e ⟨d, .binOp .neq T x y T', ty, pos, aft, g⟩ (.bool (decide ¬p)) := fun w => by
  have h1 : (Op.equalIn 10000 T (.agg xs.toArray) (.agg ys.toArray)).run P w = .ok r w := eqC_run 100 hr 9900 w
  simp only [execOp, hx, hy, Sem.run_bind, run_eqGuard_agg w .neq T x y xs.toArray ys.toArray hg, Result.andThen_ok, run_neq_struct, h1, hp, Sem.run_pure, decide_not]

/-- An address in an array. -/
theorem V_indexArr {N m o sz : Nat} {B : Addr} {k : IntKind} {i : Int} (hu : P.underlying T = some (.array N E)) (hz : (P.info? E).map (·.size) = some sz) (hx : ev e x = .pointer (some (B.add m))) (hy : ev e y = .int k i) (h0 : 0 ≤ i) (h1 : i < (N : Int)) (ho : m + i.toNat * sz = o) :
    V P e ⟨d, .indexAddr T x y, ty, pos, aft, g⟩ (.pointer (some (B.add o))) := fun w => by
  cases hq : P.info? E with
  | none => simp [hq] at hz
  | some q =>
    have hz' : q.size = sz := by simpa [hq] using hz
    simp [execOp, hx, hy, Instr.indexAt, asIntOf, run_underlying hu, Instr.sureAddr, h0, h1, sizeOf, typeInfo, hq, hz', add_add, ho]
/-! ### nil -/
theorem run_eqNilS {A : Option Addr} {l c : Nat} (hu : P.underlying T = some (.slice E)) (w : World) : (Op.equalIn Op.maxDepth T (.slice A l c) (.slice none 0 0)).run P w = .ok A.isNone w := by
  show (Op.equalIn (9999 + 1) T (.slice A l c) (.slice none 0 0)).run P w = _
  unfold Op.equalIn
  cases A <;> simp [run_underlying hu]
theorem run_eqNilP {a : Addr} (hu : P.underlying T = some (.pointer E)) (w : World) : (Op.equalIn Op.maxDepth T (.pointer (some a)) (.pointer none)).run P w = .ok false w := by
  show (Op.equalIn (9999 + 1) T (.pointer (some a)) (.pointer none)).run P w = _
  unfold Op.equalIn
  simp [run_underlying hu]
theorem V_eqlNil {A : Option Addr} {l c : Nat} (hu : P.underlying T = some (.slice E)) (hx : ev e x = .slice A l c) (hy : ev e y = .slice none 0 0) : V P e ⟨d, .binOp .eql T x y T', ty, pos, aft, g⟩ (.bool A.isNone) := fun w => by
  simp [execOp, hx, hy, eqGuard, binOp, Op.equal, run_eqNilS hu]
theorem V_neqNil {A : Option Addr} {l c : Nat} (hu : P.underlying T = some (.slice E)) (hx : ev e x = .slice A l c) (hy : ev e y = .slice none 0 0) : V P e ⟨d, .binOp .neq T x y T', ty, pos, aft, g⟩ (.bool (!A.isNone)) := fun w => by
  simp [execOp, hx, hy, eqGuard, binOp, Op.equal, run_eqNilS hu]
theorem V_eqlPN {a : Addr} (hu : P.underlying T = some (.pointer E)) (hx : ev e x = .pointer (some a)) (hy : ev e y = .pointer none) : V P e ⟨d, .binOp .eql T x y T', ty, pos, aft, g⟩ (.bool false) := fun w => by
  simp [execOp, hx, hy, eqGuard, binOp, Op.equal, run_eqNilP hu]
theorem V_neqPN {a : Addr} (hu : P.underlying T = some (.pointer E)) (hx : ev e x = .pointer (some a)) (hy : ev e y = .pointer none) : V P e ⟨d, .binOp .neq T x y T', ty, pos, aft, g⟩ (.bool true) := fun w => by
  simp [execOp, hx, hy, eqGuard, binOp, Op.equal, run_eqNilP hu]
/-- A slice at no address has no element. -/
theorem SA_nilRo {α : Type} {kd : Kd α} {k cc : Nat} {xs : List α} {c : Code} (hk : As[k]? = some (Ro kd none cc xs)) (h : xs = [] → SA P n c Q e ds As) : SA P n c Q e ds As := fun I hh a w s r f => by
  obtain ⟨_, _, ⟨_, cs, hr, hx⟩, _⟩ := sepL_at hk s
  rcases hx with hx | ⟨_, _, _, _, _, hx, _⟩
  · exact h hx I hh a w s r f
  · cases hx
end
end Go.Proofs.YtkdakjjockfmdaaGreatDoor.SL

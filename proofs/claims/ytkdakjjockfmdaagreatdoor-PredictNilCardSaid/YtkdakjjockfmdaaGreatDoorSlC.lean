/- Strings put together, interface values of one type, append where there is no room. -/
import Derived.Test.YtkdakjjockfmdaaGreatDoorSlW
import Derived.Laws.Concat
import Derived.Laws.IdiomStrings
namespace Go.Proofs.YtkdakjjockfmdaaGreatDoor.SL
open Go Go.RowKit
set_option linter.unusedVariables false
set_option linter.unusedSimpArgs false
section
variable {P : Program} {n : Nat} {Q : PostT} {e : Env} {ds : List Deferred} {As : List Asrt} {d : Option Nat} {ty T T' E tx : TypeId} {pos : String} {aft : Array Edge} {g : Option (Nat × Bool)} {x y z : Operand} {K : Env → List Deferred → List Asrt → Prop}

theorem V_addS {s t : ByteArray} (hx : ev e x = .string s) (hy : ev e y = .string t) (h : s.size + t.size ≤ 9223372036854775807) : SL.V P e ⟨d, .binOp .add T x y T', ty, pos, aft, g⟩ (.string (s ++ t)) := fun w => by
  have := run_string_add_sum (P := P) w s t h
  simp [execOp, hx, hy, eqGuard, binOp, this]
theorem run_eqNN (hu : P.underlying T = some (.pointer E)) (w : World) : (Op.equalIn Op.maxDepth T (.pointer none) (.pointer none)).run P w = .ok true w := by
  show (Op.equalIn (9999 + 1) T (.pointer none) (.pointer none)).run P w = _
  unfold Op.equalIn
  simp [run_underlying hu]
theorem V_eqlNN (hu : P.underlying T = some (.pointer E)) (hx : ev e x = .pointer none) (hy : ev e y = .pointer none) : SL.V P e ⟨d, .binOp .eql T x y T', ty, pos, aft, g⟩ (.bool true) := fun w => by
  simp [execOp, hx, hy, eqGuard, binOp, Op.equal, run_eqNN hu]
theorem V_neqNN (hu : P.underlying T = some (.pointer E)) (hx : ev e x = .pointer none) (hy : ev e y = .pointer none) : SL.V P e ⟨d, .binOp .neq T x y T', ty, pos, aft, g⟩ (.bool false) := fun w => by
  simp [execOp, hx, hy, eqGuard, binOp, Op.equal, run_eqNN hu]
theorem V_notF (hx : ev e x = .bool false) : SL.V P e ⟨d, .unOp .not T x, ty, pos, aft, g⟩ (.bool true) := V_not hx
theorem V_notT (hx : ev e x = .bool true) : SL.V P e ⟨d, .unOp .not T x, ty, pos, aft, g⟩ (.bool false) := V_not hx
theorem V_iface {v : Value} (hc : P.concrete T = true) (hx : ev e x = v) : SL.V P e ⟨d, .makeInterface T x, ty, pos, aft, g⟩ (.iface T v) := fun w => by
  simp [execOp, hx, run_makeInterface w T v hc]
theorem X_inv {t : Nat} {f : FuncId} {fn : Func} {c : Code} {args : List Operand} {ts : Array TypeId} {vs : List Value} {v v' : Value} {nm : String} (ht : e t = .iface T v) (hm : ∀ w, (method (P.types.size + Made.depth) T v nm).run P w = .ok (f, v') w) (hf : P.funcs[f]? = some fn) (hn : (fn.name == "runtime.NumGoroutine") = false) (hb : fn.body = some c) (ha : args.map (ev e) = vs) (w : World) :
    (execOp (ev e) ⟨d, .call { callee := .invoke (.tmp t) nm, args := args.toArray, argTypes := ts }, ty, pos, aft, g⟩).run P w = .ok (.enter f (v' :: vs).toArray) w := by
  have h2 := run_enter hf hn hb (v' :: vs).toArray w
  have e1 : (#[v'] ++ vs.toArray : Array Value) = (v' :: vs).toArray := by simp
  simp [execOp, resolve, ev, ht, invoke, ha, callMethod, hm w, e1, h2]

/-- append onto what can be read, where there is no room: a new row. -/
theorem OA_appG {α : Type} {kd : Kd α} {V : Option Addr} {m vc k bytes sz : Nat} {xs ys : List α} {v zv : Value} (zs : List α) (hzs : zs = xs ++ ys) (hd : okDst d n = true) (hu : P.underlying T = some (.slice E)) (hi : (P.info? E).map (fun i => (i.zero, i.size, i.bytes)) = some (some zv, sz, bytes)) (hsz : kd.sz = sz) (hz1 : zv.cells.size = sz)
    (hk : As[k]? = some (Buf kd E none 0 ([] : List α))) (hx : ev e x = .slice V m vc) (h0 : SL.Src kd V xs As) (hm : m = xs.length) (hy : ev e y = v) (hs : Yld P kd tx v ys As) (hlt : vc < xs.length + ys.length) (h63 : xs.length + ys.length ≤ 9223372036854775807) (hb : (xs.length + ys.length) * bytes ≤ 140737488355328)
    (h : ∀ A' c', K (put e d (.slice A' zs.length c')) ds (As.set k (Buf kd E A' c' zs))) : OA P n ⟨d, .call { callee := .builtin .append, args := #[x, y], argTypes := #[T, tx] }, ty, pos, aft, g⟩ K Q e ds As := by
  subst hzs; subst hm
  intro I h' a w s r f
  obtain ⟨g1, l, _, ff⟩ := sepL_at hk s
  obtain ⟨cs, hr, hc⟩ := h0 I h' w s f.sees
  obtain ⟨es, hre, src⟩ := hs I h' w s f.sees
  have hlr : (xs ++ ys).length = xs.length + ys.length := List.length_append
  have hrall := hr.app hre
  have hlen := hr.len
  have helen := hre.len
  cases hq : P.info? E with
  | none => simp [hq] at hi
  | some q =>
    simp only [hq, Option.map_some, Option.some.injEq, Prod.mk.injEq] at hi
    obtain ⟨i1, i2, i3⟩ := hi
    have i2' : kd.sz = q.size := hsz.trans i2.symm
    rw [i2'] at src hlen helen
    have hexec : ∀ {v' : Value} {w' : World}, (Builtin.append_ #[T, tx] ty #[.slice V xs.length vc, v]).run P w = .ok v' w' → (execOp (ev e) ⟨d, .call { callee := .builtin .append, args := #[x, y], argTypes := #[T, tx] }, ty, pos, aft, g⟩).run P w = .ok (.value v') w' := fun {v' w'} hh => by
      simp [execOp, resolve, invoke, builtin, hx, hy, hh]
    have hold : (Builtin.firstCells q.size xs.length (.slice V xs.length vc)).run P w.drew = .ok cs.toArray w.drew := by
      rcases hc with hc | ⟨b, off, hA, hv⟩
      · subst hc
        simp only [RL] at hr; subst hr
        cases V with
        | none => exact run_firstCells_none w.drew q.size 0 0 vc
        | some a => exact run_firstCells_some w.drew q.size 0 a 0 vc [] (by simp) (by simp)
      · subst hA
        refine run_firstCells_some w.drew q.size xs.length ⟨b, off, none⟩ xs.length vc cs hlen fun j u hu' => ?_
        rw [Addr.add_lit]
        exact hv j u hu'
    have hrun := run_append_grow_src w T tx ty E q zv hu hq i1 V xs.length vc cs hold v ys.length es src hlt (by omega) (growslice_fits (by omega) (by rw [i3]; exact hb))
    have hge := grownCap_ge w (xs.length + ys.length) vc E
    have hcm : grownCap w (xs.length + ys.length) vc E ≤ maxLen := grownCap_le_maxLen w (xs.length + ys.length) vc E (by unfold maxLen; omega)
    generalize grownCap w (xs.length + ys.length) vc E = nc at *
    have gd := Goes.drew f
    obtain ⟨ga, _⟩ := Goes.alloc gd.fits (.cells ((cs ++ es).toArray ++ Builtin.zeroCells zv.cells (nc - (xs.length + ys.length))) E)
    unfold Oper.wp
    rw [r.eval, hexec hrun]
    refine ⟨_, ds, _, I, _, r.put hd _, new_block ff (A' := Buf kd E (some ⟨w.heap.size, 0, none⟩) nc (xs ++ ys)) (fresh_own f).1 ⟨cs ++ es, hrall, .inr ⟨w.heap.size, _, rfl, ⟨(0, 0), if_pos rfl, Fzd.zero⟩, by rw [hlr]; exact hge, hcm, ?_, ?_⟩⟩, gd.trans ga, ?_⟩
    · rw [Array.size_append, zeroCells_size, hz1, List.size_toArray, List.length_append, hlen, helen, ← i2, i2', ← Nat.add_mul, ← Nat.add_mul]
      congr 1; omega
    · rw [Array.toList_append, i2', hlr, Nat.add_mul, ← hlen, ← helen, ← List.length_append]
      exact List.take_left
    · have := h (some ⟨w.heap.size, 0, none⟩) nc
      rw [hlr] at this
      exact this
/-- The bytes of a string, in new memory. -/
theorem OA_bytesS {s : ByteArray} (zs : List Int) (hzs : zs = bytesOf s) (hd : okDst d n = true) (hT : P.underlying T = some .string) (hT' : P.underlying T' = some (.slice E)) (hE : P.underlying E = some (.int .u8)) (hx : ev e x = .string s) (hl : s.size ≤ 9223372036854775807)
    (h : ∀ b c, K (put e d (.slice (some ⟨b, 0, none⟩) zs.length c)) ds (As ++ [Buf (Kd.int .u8) E (some ⟨b, 0, none⟩) c zs])) : OA P n ⟨d, .convert T T' x, ty, pos, aft, g⟩ K Q e ds As := by
  subst hzs
  intro I h' a w s' r f
  have hlen : (bytesOf s).length = s.size := by simp only [bytesOf, List.length_map, Array.length_toList]; rfl
  have hrun := run_bytes_of_string (P := P) w T T' E s hT hT' hE
  have hge := grownCap_ge w s.size 0 E
  have hcm : grownCap w s.size 0 E ≤ maxLen := grownCap_le_maxLen w s.size 0 E (by unfold maxLen; omega)
  generalize grownCap w s.size 0 E = nc at *
  have gd := Goes.drew f
  obtain ⟨ga, sp⟩ := Goes.alloc gd.fits (.cells (bytesRow s nc) E ((bytesRow s nc).size, (bytesRow s nc).size + 1))
  have hexec : (execOp (ev e) ⟨d, .convert T T' x, ty, pos, aft, g⟩).run P w = .ok (.value (.slice (some ⟨w.heap.size, 0, none⟩) s.size nc)) (w.drew.alloc (.cells (bytesRow s nc) E ((bytesRow s nc).size, (bytesRow s nc).size + 1))) := by
    simp [execOp, hx, hrun]
  have hsz : (bytesRow s nc).size = nc := by
    have : s.data.size = s.size := rfl
    simp [bytesRow, this]; omega
  have hB : (Buf (Kd.int .u8) E (some ⟨w.heap.size, 0, none⟩) nc (bytesOf s)).P I (single w.heap.size (.cells (bytesRow s nc) E ((bytesRow s nc).size, (bytesRow s nc).size + 1))) := by
    refine ⟨byteCells s, RL_bytes I s, .inr ⟨w.heap.size, _, rfl, ⟨_, if_pos rfl, .inr (Nat.le_refl _), fun q => by cases q⟩, by rw [hlen]; exact hge, hcm, by rw [hsz]; exact (Nat.mul_one nc).symm, ?_⟩⟩
    rw [hlen, show (Kd.int .u8).sz = 1 from rfl, Nat.mul_one]
    unfold bytesRow byteCells
    rw [Array.toList_append, Array.toList_map]
    exact List.take_left' (by rw [List.length_map, Array.length_toList]; rfl)
  unfold Oper.wp
  rw [r.eval, hexec]
  refine ⟨_, ds, _, I, _, r.put hd _, sepL_append ⟨sp.2.1, sp.1, fun b u e => ?_⟩ s' (show sepL [Buf (Kd.int .u8) E (some ⟨w.heap.size, 0, none⟩) nc (bytesOf s)] I _ from ⟨_, fun _ => none, ⟨Le.refl _, (fun _ _ e => by cases e), fun _ _ _ => rfl⟩, hB, trivial⟩), gd.trans ga, ?_⟩
  · cases q : single w.heap.size (.cells (bytesRow s nc) E ((bytesRow s nc).size, (bytesRow s nc).size + 1)) b with
    | none => rfl
    | some u' => have := sp.2.2 b u' q; rw [this] at e; cases e
  · have := h w.heap.size nc
    rw [hlen] at this
    exact this
end
end Go.Proofs.YtkdakjjockfmdaaGreatDoor.SL

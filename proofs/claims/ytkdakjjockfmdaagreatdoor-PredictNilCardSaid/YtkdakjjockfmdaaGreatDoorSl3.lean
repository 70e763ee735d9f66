/- Stores, make, append, copy, slicing. -/
import Derived.Test.YtkdakjjockfmdaaGreatDoorSl2
import Derived.Deep.AppendSrc
namespace Go.Proofs.YtkdakjjockfmdaaGreatDoor.SL
open Go Go.RowKit
set_option linter.unusedVariables false
set_option linter.unusedSimpArgs false

def bytesOf (s : ByteArray) : List Int := s.data.toList.map fun b => (b.toNat : Int)

/-- What a second argument of append, a source of copy, yields. -/
def Yld {α : Type} (P : Program) (kd : Kd α) (tx : TypeId) (v : Value) (ys : List α) (As : List Asrt) : Prop :=
  ∀ I h w, sepL As I h → Sees I h w → ∃ cs, RL kd I cs ys ∧ Go.Src P kd.sz tx v ys.length cs w

theorem Yld.slice {α : Type} {P : Program} {kd : Kd α} {tx e' : TypeId} {A : Option Addr} {c : Nat} {ys : List α} {As : List Asrt} (hk : P.underlying tx = some (.slice e')) (hs : Src kd A ys As) : Yld P kd tx (.slice A ys.length c) ys As := by
  intro I h w s f
  obtain ⟨cs, hr, hc⟩ := hs I h w s f
  refine ⟨cs, hr, ?_⟩
  cases A with
  | none =>
    rcases hc with rfl | ⟨b, off, e, _⟩
    · simp only [RL] at hr; subst hr; exact Go.Src.ofNil w hk c
    · cases e
  | some a =>
    rcases hc with rfl | ⟨b, off, e, hc⟩
    · simp only [RL] at hr; subst hr; exact Go.Src.ofSlice w hk a 0 c [] (by simp) (by simp) (by simp)
    · obtain rfl := Option.some.inj e
      exact Go.Src.ofSlice w hk _ _ c cs hr.len (fun j u hu => by rw [Addr.add_lit]; exact hc j u hu) hr.one

theorem RL_bytes (I : Hp) (s : ByteArray) : RL (Kd.int .u8) I (byteCells s) (bytesOf s) := by
  unfold byteCells bytesOf
  induction s.data.toList with
  | nil => rfl
  | cons b l ih => exact ⟨[.int .u8 b.toNat], _, rfl, rfl, ih⟩

theorem Yld.str {P : Program} {tx : TypeId} {s : ByteArray} {As : List Asrt} (hk : P.underlying tx = some .string) : Yld P (Kd.int .u8) tx (.string s) (bytesOf s) As := by
  intro I h w _ _
  have e : (bytesOf s).length = s.size := by simp only [bytesOf, List.length_map, Array.length_toList]; rfl
  exact ⟨byteCells s, RL_bytes I s, by rw [e]; exact Go.Src.ofString w hk s⟩

theorem Goes.setRow {I h : Hp} {w : World} (f : Fits I h w) {g : Nat} {cur cur' : Array Value} {T : TypeId} {fr : Nat × Nat} (hg : h g = some (.cells cur T fr)) :
    Goes I h w I (fun b => if b = g then some (.cells cur' T fr) else h b) (w.setRow g cur') := by
  refine ⟨⟨fun b u e => ?_, fun b u e => ?_, fun b u e => ?_⟩, Le.refl I, rfl, rfl, rfl, by simp, fun b hb e => ?_⟩
  · have : b ≠ g := by rintro rfl; rw [f.sep b _ hg] at e; cases e
    rw [setRow_other w g b _ this]; exact f.imm b u e
  · by_cases hb : b = g
    · subst hb; simp at e; rw [← e]; exact setRow_heap w b cur cur' T fr (f.own b _ hg)
    · simp [hb] at e; rw [setRow_other w g b _ hb]; exact f.own b u e
  · by_cases hb : b = g
    · subst hb; exact f.sep b _ hg
    · simp [hb] at e; exact f.sep b u e
  · have : b ≠ g := by rintro rfl; rw [hg] at e; cases e
    exact ⟨setRow_other w g b _ this, by simp [this, e], rfl⟩

section
variable {P : Program} {n : Nat} {Q : PostT} {e : Env} {ds : List Deferred} {As : List Asrt} {d : Option Nat} {ty T T' E tx : TypeId} {pos : String} {aft : Array Edge} {g : Option (Nat × Bool)} {x y z : Operand} {K : Env → List Deferred → List Asrt → Prop}

/-- An atom's block is written: the atom that holds then. -/
theorem upd_block {k : Nat} {A' : Asrt} {I h h1 : Hp} {gb : Nat} {ob ob' : Obj}
    (f : ∀ (A' : Asrt) (I' h1' h' : Hp), Le I I' → A'.P I' h1' → Le h1' h' → (∀ b o, h b = some o → h1 b = none → h' b = some o ∧ h1' b = none) → sepL (As.set k A') I' h')
    (hg : h1 gb = some ob) (hA : A'.P I (single gb ob')) : sepL (As.set k A') I (fun b => if b = gb then some ob' else h b) := by
  refine f A' I (single gb ob') _ (Le.refl I) hA (fun b u e => ?_) (fun b u e1 e2 => ?_)
  · simp only [single] at e
    split at e
    · rename_i hb; simp [hb]; exact Option.some.inj e
    · cases e
  · have : b ≠ gb := by rintro rfl; rw [hg] at e2; cases e2
    simp [this, e1, single]

/-- An atom gives way to one over a new block. -/
theorem new_block {k : Nat} {A' : Asrt} {I h h1 : Hp} {gb : Nat} {ob : Obj}
    (f : ∀ (A' : Asrt) (I' h1' h' : Hp), Le I I' → A'.P I' h1' → Le h1' h' → (∀ b o, h b = some o → h1 b = none → h' b = some o ∧ h1' b = none) → sepL (As.set k A') I' h')
    (hn : h gb = none) (hA : A'.P I (single gb ob)) : sepL (As.set k A') I (join (single gb ob) h) := by
  refine f A' I (single gb ob) _ (Le.refl I) hA join_l (fun b u e1 e2 => ?_)
  have : b ≠ gb := by rintro rfl; rw [hn] at e1; cases e1
  simp [join, single, this, e1]

def setAt (cs : List Value) (m : Nat) (vs : List Value) : List Value := cs.take m ++ vs ++ cs.drop (m + vs.length)

theorem run_storeCells_fr (g o : Nat) (t : TypeId) (fr : Nat × Nat) : ∀ (vs : List Value) (i : Nat) (cur : Array Value) (w : World), w.heap[g]? = some (.cells cur t fr) → Fz cur.size fr → o + i + vs.length ≤ cur.size → (∀ v ∈ vs, v.oneCell' = true) →
    (storeCells ⟨g, o, none⟩ vs i).run P w = .ok () (w.setRow g (cur.toList.take (o + i) ++ vs ++ cur.toList.drop (o + i + vs.length)).toArray)
  | [], i, cur, w, hg, _, _, _ => by
    simp only [storeCells, List.append_nil, List.length_nil, Nat.add_zero, List.take_append_drop, Array.toArray_toList]
    rw [setRow_self w g cur t fr hg]
    rfl
  | v :: rest, i, cur, w, hg, hz, hl, h1 => by
    have hi : o + i < cur.size := by simp at hl; omega
    have hadd : (⟨g, o, none⟩ : Addr).add i = ⟨g, o + i, none⟩ := Addr.add_lit ..
    have hcell : w.cell? ⟨g, o + i, none⟩ = some cur[o + i] := by simp [World.cell?, hg, hi]
    have hfro : w.frozen? ⟨g, o + i, none⟩ = false := by
      obtain ⟨lo, up⟩ := fr
      simp only [World.frozen?, hg]
      rcases hz with q | q
      · obtain ⟨rfl, rfl⟩ := Prod.mk.inj q; simp
      · simp only at q
        have : ¬ lo ≤ o + i := by omega
        simp [this]
    have hst : (store ((⟨g, o, none⟩ : Addr).add i) v).run P w = .ok () (w.setRow g (cur.setIfInBounds (o + i) v)) := by
      rw [hadd, run_store P w _ v _ (h1 v (by simp)), hcell]
      simp [hfro, setCell_eq_setRow w g (o + i) cur t fr v hg]
    have ih := run_storeCells_fr g o t fr rest (i + 1) (cur.setIfInBounds (o + i) v) (w.setRow g (cur.setIfInBounds (o + i) v)) (setRow_heap w g cur _ t _ hg) (by simpa using hz) (by simp at hl ⊢; omega) (fun x hx => h1 x (by simp [hx]))
    have e1 : (storeCells ⟨g, o, none⟩ (v :: rest) i).run P w = (storeCells ⟨g, o, none⟩ rest (i + 1)).run P (w.setRow g (cur.setIfInBounds (o + i) v)) := by
      simp only [storeCells, Sem.run_bind, hst, Result.andThen_ok]
    rw [e1, ih, setRow_setRow]
    congr 2
    have hlt : o + i < cur.toList.length := by simpa using hi
    simp only [Array.toList_setIfInBounds]
    have t1 : (cur.toList.set (o + i) v).take (o + (i + 1)) = cur.toList.take (o + i) ++ [v] := by
      rw [show o + (i + 1) = (o + i) + 1 from by omega, List.take_add_one, List.take_set_of_le (Nat.le_refl _), List.getElem?_set_self hlt]
      rfl
    have t2 : (cur.toList.set (o + i) v).drop (o + (i + 1) + rest.length) = cur.toList.drop (o + i + (v :: rest).length) := by
      rw [List.drop_set_of_lt (by omega)]
      congr 1; simp; omega
    rw [t1, t2]
    simp

theorem run_storeAt {w : World} {b m : Nat} {cur : Array Value} {t : TypeId} {fr : Nat × Nat} {v : Value} {vs : List Value} (hv : v.cells = vs.toArray) (h1 : ∀ u ∈ vs, u.oneCell' = true) (hz : (P.info? T).map (·.size) = some vs.length)
    (hg : w.heap[b]? = some (.cells cur t fr)) (hfz : Fz cur.size fr) (hl : m + vs.length ≤ cur.size) :
    (Instr.storeAt T (.pointer (some ⟨b, m, none⟩)) v).run P w = .ok () (w.setRow b (setAt cur.toList m vs).toArray) := by
  have hst := run_storeCells_fr (P := P) b m t fr vs 0 cur w hg hfz (by simpa using hl) h1
  simp only [Nat.add_zero] at hst
  cases hq : P.info? T with
  | none => simp [hq] at hz
  | some q =>
    have hz' : q.size = vs.length := by simpa [hq] using hz
    simp [Instr.storeAt, Instr.sureAddr, storeVar, hv, sizeOf, typeInfo, hq, hz', hst, setAt]

/-- A store into an owned block. -/
theorem OA_store {b m k : Nat} {cs vs : List Value} {v : Value} (cs' : List Value) (hd : okDst d n = true) (hk : As[k]? = some (Blk b T' cs)) (hx : ev e x = .pointer (some ((⟨b, 0, none⟩ : Addr).add m))) (hy : ev e y = v) (hv : v.cells = vs.toArray)
    (h1 : ∀ u ∈ vs, u.oneCell' = true) (hz : (P.info? T).map (·.size) = some vs.length) (hl : m + vs.length ≤ cs.length) (hc : setAt cs m vs = cs') (h : K (put e d undef) ds (As.set k (Blk b T' cs'))) : OA P n ⟨d, .store T x y, ty, pos, aft, g⟩ K Q e ds As := by
  intro I h' a w s r f
  obtain ⟨g1, l, p, ff⟩ := sepL_at hk s
  have hh : h' b = some (.cells cs.toArray T' (0, 0)) := l b _ p
  rw [Addr.add_lit, Nat.zero_add] at hx
  have hr := run_storeAt (P := P) hv h1 hz (f.own b _ hh) Fz.zero (by simpa using hl)
  unfold Oper.wp
  rw [r.eval]
  simp only [execOp, hx, hy, Sem.run_bind, hr, Result.andThen_ok, Sem.run_pure]
  subst hc
  exact ⟨_, ds, _, I, _, r.put hd undef, upd_block ff p (by simp [Blk, single]), Goes.setRow f hh, h⟩

theorem setAt_mid {A B R vs : List Value} {m : Nat} (h : m + vs.length ≤ B.length) : setAt (A ++ (B ++ R)) (A.length + m) vs = A ++ (setAt B m vs ++ R) := by
  unfold setAt
  have e1 : (A ++ (B ++ R)).take (A.length + m) = A ++ B.take m := by
    rw [List.take_length_add_append, List.take_append_of_le_length (by omega)]
  have e2 : (A ++ (B ++ R)).drop (A.length + m + vs.length) = B.drop (m + vs.length) ++ R := by
    rw [Nat.add_assoc, List.drop_length_add_append, List.drop_append_of_le_length h]
  rw [e1, e2]
  simp only [List.append_assoc]

theorem setAt_len {B vs : List Value} {m : Nat} (h : m + vs.length ≤ B.length) : (setAt B m vs).length = B.length := by
  unfold setAt
  rw [List.length_append, List.length_append, List.length_take, List.length_drop]
  omega

theorem setAt_part {cur cs c0 vs : List Value} {N o sz m : Nat} (hN : N ≤ cur.length) (hcs : cur.take N = cs) (ho : o + sz ≤ N) (hm : m + vs.length ≤ sz) (h0 : (cs.drop o).take sz = c0) :
    (setAt cur (o + m) vs).take N = cs.take o ++ setAt c0 m vs ++ cs.drop (o + sz) := by
  have hA : (cur.take o).length = o := by rw [List.length_take]; omega
  have hB : ((cur.drop o).take sz).length = sz := by rw [List.length_take, List.length_drop]; omega
  have hc0 : c0 = (cur.drop o).take sz := by
    rw [← h0, ← hcs, List.drop_take, List.take_take]
    congr 1; omega
  have hcur : cur = cur.take o ++ ((cur.drop o).take sz ++ cur.drop (o + sz)) := by
    rw [← List.drop_drop, List.take_append_drop, List.take_append_drop]
  have h1 : setAt cur (o + m) vs = cur.take o ++ (setAt c0 m vs ++ cur.drop (o + sz)) := by
    conv => lhs; rw [hcur]
    have := setAt_mid (A := cur.take o) (B := (cur.drop o).take sz) (R := cur.drop (o + sz)) (vs := vs) (m := m) (by rw [hB]; exact hm)
    rw [hA] at this
    rw [this, hc0]
  have hl : (setAt c0 m vs).length = sz := by rw [hc0, setAt_len (by rw [hB]; exact hm), hB]
  rw [h1, ← List.append_assoc, List.take_append, List.length_append, hA, hl]
  rw [List.take_of_length_le (by rw [List.length_append, hA, hl]; exact ho)]
  have e3 : cs.take o = cur.take o := by
    rw [← hcs, List.take_take]; congr 1; omega
  have e4 : cs.drop (o + sz) = (cur.drop (o + sz)).take (N - (o + sz)) := by
    rw [← hcs, List.drop_take]
  rw [e3, e4]

/-- A store of a whole element, or of a part of one, into an owned slice. -/
theorem OA_storeEl {α : Type} [Inhabited α] {kd : Kd α} {A : Option Addr} {c k j m sz : Nat} {xs : List α} {i : Int} {vs : List Value} {v : Value} (y' : α) (hd : okDst d n = true) (hk : As[k]? = some (Buf kd T' A c xs)) (hx : ev e x = .pointer (some ((el A j).add m))) (hj : j = i.toNat * sz) (hsz : kd.sz = sz) (hy : ev e y = v) (hv : v.cells = vs.toArray)
    (h1 : ∀ u ∈ vs, u.oneCell' = true) (hz : (P.info? T).map (·.size) = some vs.length) (h0 : 0 ≤ i) (hi : i < (xs.length : Int)) (hm : m + vs.length ≤ sz)
    (he : ∀ I h cs, sepL As I h → kd.R I cs (rd xs i) → kd.R I (setAt cs m vs) y') (h : K (put e d undef) ds (As.set k (Buf kd T' A c (xs.set i.toNat y')))) : OA P n ⟨d, .store T x y, ty, pos, aft, g⟩ K Q e ds As := by
  intro I h' a w s r f
  obtain ⟨g1, l, ⟨cs, hr, hc⟩, ff⟩ := sepL_at hk s
  rcases hc with ⟨_, _, hc⟩ | ⟨gb, cur, hA, ⟨fr, hg, hfz⟩, hlc, hcm, hcs, ht⟩
  · subst hc; simp at hi; omega
  · subst hA; subst hj; subst hsz
    have hh : h' gb = some (.cells cur T' fr) := l gb _ hg
    have hi' : i.toNat < xs.length := by omega
    have ea : (el (some ⟨gb, 0, none⟩) (i.toNat * kd.sz)).add m = ⟨gb, i.toNat * kd.sz + m, none⟩ := by
      simp only [el, Option.getD_some, add_add, Addr.add_lit, Nat.zero_add]
    have hmul : i.toNat * kd.sz + kd.sz ≤ xs.length * kd.sz := by rw [← Nat.succ_mul]; exact Nat.mul_le_mul_right _ hi'
    have hmul2 : xs.length * kd.sz ≤ c * kd.sz := Nat.mul_le_mul_right _ hlc
    have hrun := run_storeAt (P := P) hv h1 hz (f.own gb _ hh) hfz.1 (m := i.toNat * kd.sz + m) (by omega)
    unfold Oper.wp
    rw [r.eval]
    simp only [execOp, hx, ea, hy, Sem.run_bind, hrun, Result.andThen_ok, Sem.run_pure]
    refine ⟨_, ds, _, I, _, r.put hd undef, upd_block ff hg ?_, Goes.setRow f hh, h⟩
    obtain ⟨c0, hc0, hg0⟩ := RL.get hr (rd_get h0 hi)
    have hc1 := he I h' c0 s hc0
    have hl0 := kd.len hc0
    have hlen := hr.len
    have hset := RL.set hr hi' hc1
    have hl1 : (setAt c0 m vs).length = kd.sz := kd.len hc1
    have hpart : (cs.drop (i.toNat * kd.sz)).take kd.sz = c0 := by
      apply List.ext_getElem?
      intro q
      rw [List.getElem?_take]
      by_cases hq : q < kd.sz
      · rw [if_pos hq, List.getElem?_drop]
        have : q < c0.length := by omega
        rw [hg0 q c0[q] (List.getElem?_eq_getElem this), List.getElem?_eq_getElem this]
      · rw [if_neg hq]
        exact (List.getElem?_eq_none (by omega)).symm
    have hcl : cur.toList.length = c * kd.sz := (Array.length_toList (xs := cur)).trans hcs
    have hfz2 : ∀ l : List Value, l.length = cur.toList.length → Fzd kd l.toArray.size fr := fun l hl => by rw [List.size_toArray, hl, Array.length_toList]; exact hfz
    have hN : xs.length * kd.sz ≤ cur.toList.length := by omega
    have hfin := setAt_part (vs := vs) (m := m) hN ht hmul hm hpart
    refine ⟨_, hset, .inr ⟨gb, _, rfl, ⟨fr, if_pos rfl, hfz2 _ (setAt_len (by omega))⟩, by rw [List.length_set]; exact hlc, hcm, ?_, ?_⟩⟩
    · rw [List.size_toArray, setAt_len (by omega)]; exact hcl
    · rw [hl1, List.length_set]
      exact hfin

theorem zeros_flat (z : Array Value) : ∀ m : Nat, ((Array.range (m * z.size)).map (z[· % z.size]!)).toList = List.flatten (List.replicate m z.toList)
  | 0 => by simp
  | m + 1 => by
    have ih := zeros_flat z m
    rw [List.replicate_succ', List.flatten_append, ← ih]
    simp only [Array.toList_map, Array.toList_range, List.flatten_cons, List.flatten_nil, List.append_nil]
    rw [Nat.add_mul, Nat.one_mul, List.range_add, List.map_append, List.map_map]
    congr 1
    apply List.ext_getElem
    · simp
    · intro j h1 h2
      have hj : j < z.size := by simpa using h1
      simp only [List.getElem_map, List.getElem_range, Function.comp, Array.getElem_toList]
      rw [Nat.mul_comm m, Nat.mul_add_mod, Nat.mod_eq_of_lt hj]
      simp [hj]

/-- make: zeros. -/
theorem OA_make {α : Type} {kd : Kd α} {k k' : IntKind} {l c : Int} {bytes sz : Nat} {zv : Value} (z0 : α) (hd : okDst d n = true) (hu : P.underlying T = some (.slice E)) (hi : (P.info? E).map (fun i => (i.zero, i.size, i.bytes)) = some (some zv, sz, bytes))
    (hx : ev e x = .int k l) (hy : ev e y = .int k' c) (h0 : 0 ≤ l) (hlc : l = c) (hb : (bytes : Int) * c ≤ 281474976710656) (h63 : c ≤ 9223372036854775807) (hsz : kd.sz = sz) (hz1 : zv.cells.size = sz) (hz : ∀ I, kd.R I zv.cells.toList z0)
    (h : ∀ b, K (put e d (.slice (some ⟨b, 0, none⟩) (List.replicate l.toNat z0).length l.toNat)) ds (As ++ [Buf kd E (some ⟨b, 0, none⟩) l.toNat (List.replicate l.toNat z0)])) : OA P n ⟨d, .makeSlice T x y, ty, pos, aft, g⟩ K Q e ds As := by
  subst hlc
  cases hq : P.info? E with
  | none => simp [hq] at hi
  | some q =>
    simp only [hq, Option.map_some, Option.some.injEq, Prod.mk.injEq] at hi
    obtain ⟨i1, i2, i3⟩ := hi
    have hrun : ∀ w : World, (Instr.makeSlice T (.int k l) (.int k' l)).run P w = .ok (.slice (some ⟨w.heap.size, 0, none⟩) l.toNat l.toNat) (w.alloc (.cells (madeCells zv.cells (l.toNat * q.size)) E)) := fun w =>
      run_make w T E q zv hu hq i1 k k' l l h0 (Int.le_refl _) (by rw [i3]; exact hb) h63
    have hlr : (List.replicate l.toNat z0).length = l.toNat := by simp
    have hm : (madeCells zv.cells (l.toNat * q.size)).toList = List.flatten (List.replicate l.toNat zv.cells.toList) := by
      rw [i2, ← hz1]
      exact zeros_flat zv.cells l.toNat
    refine OA_new hd (.cells (madeCells zv.cells (l.toNat * q.size)) E) (fun b => .slice (some ⟨b, 0, none⟩) (List.replicate l.toNat z0).length l.toNat) (fun b => Buf kd E (some ⟨b, 0, none⟩) l.toNat (List.replicate l.toNat z0)) (fun b I _ _ => ?_) (fun I h' w s f => ?_) h
    · have hr := RL.rep (d := kd) (hz I) l.toNat
      refine ⟨_, hr, .inr ⟨b, madeCells zv.cells (l.toNat * q.size), rfl, ⟨(0, 0), if_pos rfl, Fzd.zero⟩, by rw [hlr]; exact Nat.le_refl _, ?_, by rw [size_madeCells, i2, hsz], ?_⟩⟩
      · unfold maxLen; omega
      · rw [← hm]
        apply List.take_of_length_le
        rw [hlr, hsz, ← i2]
        exact Nat.le_of_eq ((Array.length_toList (xs := madeCells zv.cells (l.toNat * q.size))).trans (size_madeCells _ _))
    · simp [execOp, hx, hy, hrun w]

theorem zeroCells_size (z : Array Value) (m : Nat) : (Builtin.zeroCells z m).size = m * z.size := by simp [Builtin.zeroCells]

theorem run_append_in {w : World} {ge c xl yl : Nat} {cur : Array Value} {es : List Value} {v : Value} {q : TypeInfo} (hu : P.underlying T = some (.slice E)) (hq : P.info? E = some q) (src : Go.Src P q.size tx v yl es w)
    {fr : Nat × Nat} (hg : w.heap[ge]? = some (.cells cur E fr)) (hfz : Fz cur.size fr) (hroom : xl + yl ≤ c) (hfit : xl * q.size + es.length ≤ cur.size) :
    (Builtin.append_ #[T, tx] ty #[.slice (some ⟨ge, 0, none⟩) xl c, v]).run P w = .ok (.slice (some ⟨ge, 0, none⟩) (xl + yl) c) (w.setRow ge (setAt cur.toList (xl * q.size) es).toArray) := by
  have hst := run_storeCells_fr (P := P) ge (xl * q.size) E fr es 0 cur w hg hfz (by simpa using hfit) src.one
  simp only [Nat.add_zero] at hst
  rcases src.kind with ⟨e', hk⟩ | hk <;> simp [Builtin.append_, run_underlying hu, run_underlying hk, sizeOf, typeInfo, hq, src.len, hroom, src.cells, Addr.add_lit, hst, setAt]

/-- append. -/
theorem OA_append {α : Type} {kd : Kd α} {A : Option Addr} {c k bytes sz : Nat} {xs ys : List α} {v zv : Value} (hd : okDst d n = true) (hu : P.underlying T = some (.slice E)) (hi : (P.info? E).map (fun i => (i.zero, i.size, i.bytes)) = some (some zv, sz, bytes)) (hsz : kd.sz = sz) (hz1 : zv.cells.size = sz)
    (hk : As[k]? = some (Buf kd E A c xs)) (hx : ev e x = .slice A xs.length c) (hy : ev e y = v) (hs : Yld P kd tx v ys As) (h63 : xs.length + ys.length ≤ 9223372036854775807) (hb : (xs.length + ys.length) * bytes ≤ 140737488355328)
    (h : ∀ A' c', K (put e d (.slice A' (xs ++ ys).length c')) ds (As.set k (Buf kd E A' c' (xs ++ ys)))) : OA P n ⟨d, .call { callee := .builtin .append, args := #[x, y], argTypes := #[T, tx] }, ty, pos, aft, g⟩ K Q e ds As := by
  intro I h' a w s r f
  obtain ⟨g1, l, ⟨cs, hr, hc⟩, ff⟩ := sepL_at hk s
  obtain ⟨es, hre, src⟩ := hs I h' w s f.sees
  have hlr : (xs ++ ys).length = xs.length + ys.length := List.length_append
  have hrall := hr.app hre
  have hlen := hr.len
  have helen := hre.len
  cases hq : P.info? E with
  | none => simp [hq] at hi
  | some q =>
    simp only [hq, Option.map_some, Option.some.injEq, Prod.mk.injEq] at hi
    obtain ⟨i1, i2, i3⟩ := hi
    have i2' : kd.sz = q.size := hsz.trans i2.symm
    rw [i2'] at src hlen helen
    have hexec : ∀ {v' : Value} {w' : World}, (Builtin.append_ #[T, tx] ty #[.slice A xs.length c, v]).run P w = .ok v' w' → (execOp (ev e) ⟨d, .call { callee := .builtin .append, args := #[x, y], argTypes := #[T, tx] }, ty, pos, aft, g⟩).run P w = .ok (.value v') w' := fun {v' w'} hh => by
      simp [execOp, resolve, invoke, builtin, hx, hy, hh]
    -- no room: a new row
    have grow : c < xs.length + ys.length → (Builtin.firstCells q.size xs.length (.slice A xs.length c)).run P w.drew = .ok cs.toArray w.drew →
        Oper.wp P ⟨d, .call { callee := .builtin .append, args := #[x, y], argTypes := #[T, tx] }, ty, pos, aft, g⟩ a w (fun a' w' => ∃ e' ds' As' I' h'', Rel n e' ds' a' ∧ sepL As' I' h'' ∧ Goes I h' w I' h'' w' ∧ K e' ds' As') (PostA n Q I h' w) := by
      intro hlt hold
      have hrun := run_append_grow_src w T tx ty E q zv hu hq i1 A xs.length c cs hold v ys.length es src hlt (by omega) (growslice_fits (by omega) (by rw [i3]; exact hb))
      have hge := grownCap_ge w (xs.length + ys.length) c E
      have hcm : grownCap w (xs.length + ys.length) c E ≤ maxLen := grownCap_le_maxLen w (xs.length + ys.length) c E (by unfold maxLen; omega)
      generalize grownCap w (xs.length + ys.length) c E = nc at *
      have gd := Goes.drew f
      obtain ⟨ga, _⟩ := Goes.alloc gd.fits (.cells ((cs ++ es).toArray ++ Builtin.zeroCells zv.cells (nc - (xs.length + ys.length))) E)
      unfold Oper.wp
      rw [r.eval, hexec hrun]
      refine ⟨_, ds, _, I, _, r.put hd _, new_block ff (A' := Buf kd E (some ⟨w.heap.size, 0, none⟩) nc (xs ++ ys)) (fresh_own f).1 ⟨cs ++ es, hrall, .inr ⟨w.heap.size, _, rfl, ⟨(0, 0), if_pos rfl, Fzd.zero⟩, by rw [hlr]; exact hge, hcm, ?_, ?_⟩⟩, gd.trans ga, ?_⟩
      · rw [Array.size_append, zeroCells_size, hz1, List.size_toArray, List.length_append, hlen, helen, ← i2, i2', ← Nat.add_mul, ← Nat.add_mul]
        congr 1; omega
      · rw [Array.toList_append, i2', hlr, Nat.add_mul, ← hlen, ← helen, ← List.length_append]
        exact List.take_left
      · have := h (some ⟨w.heap.size, 0, none⟩) nc
        rw [hlr] at this
        exact this
    rcases hc with ⟨hA, hc0, hx0⟩ | ⟨gb, cur, hA, ⟨fr, hg, hfz⟩, hlc, hcm, hcs, ht⟩
    · clear hA; subst hc0; subst hx0
      simp only [RL] at hr; subst hr
      by_cases hy0 : ys = []
      · subst hy0
        simp only [RL] at hre; subst hre
        have hrun : (Builtin.append_ #[T, tx] ty #[.slice A 0 0, v]).run P w = .ok (.slice A 0 0) w := by
          have sc : (Builtin.firstCells q.size 0 v).run P w = .ok #[] w := src.cells
          have sl : ∀ w', (Builtin.lenOf v).run P w' = .ok 0 w' := src.len
          rcases src.kind with ⟨e', hkk⟩ | hkk <;> cases A <;> simp [Builtin.append_, run_underlying hu, run_underlying hkk, sizeOf, typeInfo, hq, sc, sl, storeCells]
        unfold Oper.wp
        rw [r.eval, hexec hrun]
        have hset : As.set k (Buf kd E A 0 ([] : List α)) = As := by
          apply List.ext_getElem?
          intro j
          rw [List.getElem?_set]
          split
          · rename_i hj; subst hj
            have : k < As.length := by
              rcases Nat.lt_or_ge k As.length with z | z
              · exact z
              · simp [List.getElem?_eq_none z] at hk
            simp [this, ← hk]
          · rfl
        exact ⟨_, ds, As.set k (Buf kd E A 0 ([] ++ [])), I, h', r.put hd _, by rw [List.append_nil, hset]; exact s, Goes.refl f, h A 0⟩
      · have : 0 < ys.length := List.length_pos_iff.2 hy0
        refine grow (by simpa using this) ?_
        cases A with
        | none => exact run_firstCells_none w.drew q.size 0 0 0
        | some a => exact run_firstCells_some w.drew q.size 0 a 0 0 [] (by simp) (by simp)
    · subst hA
      have hh : h' gb = some (.cells cur E fr) := l gb _ hg
      have hw := f.own gb _ hh
      have hcl : cur.toList.length = c * q.size := (Array.length_toList (xs := cur)).trans (hcs.trans (by rw [i2']))
      by_cases hroom : xs.length + ys.length ≤ c
      · have hm : (xs.length + ys.length) * q.size ≤ c * q.size := Nat.mul_le_mul_right _ hroom
        rw [Nat.add_mul] at hm
        have hrun := run_append_in (P := P) (T := T) (tx := tx) (ty := ty) (xl := xs.length) (yl := ys.length) (c := c) hu hq src hw hfz.1 hroom (by rw [helen, hcs, i2']; exact hm)
        unfold Oper.wp
        rw [r.eval, hexec hrun]
        refine ⟨_, ds, _, I, _, r.put hd _, upd_block ff (A' := Buf kd E (some ⟨gb, 0, none⟩) c (xs ++ ys)) hg ⟨cs ++ es, hrall, .inr ⟨gb, _, rfl, ⟨fr, if_pos rfl, by rw [List.size_toArray, setAt_len (by omega), Array.length_toList]; exact hfz⟩, by rw [hlr]; exact hroom, hcm, ?_, ?_⟩⟩, Goes.setRow f hh, ?_⟩
        · rw [List.size_toArray, setAt_len (by omega), hcl, i2']
        · show (setAt cur.toList (xs.length * q.size) es).take ((xs ++ ys).length * kd.sz) = cs ++ es
          rw [i2'] at ht
          rw [hlr, i2', Nat.add_mul]
          unfold setAt
          rw [ht, ← hlen, ← helen, ← List.length_append]
          exact List.take_left
        · have := h (some ⟨gb, 0, none⟩) c
          rw [hlr] at this
          exact this
      · refine grow (by omega) (run_firstCells_some w.drew q.size xs.length ⟨gb, 0, none⟩ xs.length c cs hlen fun j u hu' => ?_)
        rw [Addr.add_lit, Nat.zero_add]
        show w.cell? _ = _
        rw [cell_of hw]
        have hj : j < xs.length * q.size := by
          rw [← hlen]
          rcases Nat.lt_or_ge j cs.length with z | z
          · exact z
          · simp [List.getElem?_eq_none z] at hu'
        rw [← ht, List.getElem?_take, i2', if_pos hj] at hu'
        simpa using hu'
end
end Go.Proofs.YtkdakjjockfmdaaGreatDoor.SL

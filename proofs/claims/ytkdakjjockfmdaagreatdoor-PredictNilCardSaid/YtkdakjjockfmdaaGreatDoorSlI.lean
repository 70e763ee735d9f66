/- Rows opened to their cells: what slices.Insert does in its place; append of zeros. -/
import Derived.Test.YtkdakjjockfmdaaGreatDoorSlC
import Derived.Lib.AppendZerosOnto
import Derived.Lib.Overlaps
namespace Go.Proofs.YtkdakjjockfmdaaGreatDoor.SL
open Go Go.RowKit
set_option linter.unusedVariables false
set_option linter.unusedSimpArgs false

/-- A block of c elements, cell by cell. -/
def Raw {α : Type} (d : Kd α) (T : TypeId) (b c : Nat) (cs : List Value) : Asrt := ⟨fun _ h => h b = some (.cells cs.toArray T (0, 0)) ∧ cs.length = c * d.sz ∧ c ≤ maxLen, fun _ h => h, false, fun h => by cases h⟩
/-- What cells tell. -/
def RLa {α : Type} (d : Kd α) (cs : List Value) (xs : List α) : Asrt := ⟨fun I _ => RL d I cs xs, fun hI h => h.mono hI, true, fun _ {_ _ _} h => h⟩

section
variable {P : Program} {n : Nat} {Q : PostT} {e : Env} {ds : List Deferred} {As : List Asrt} {d : Option Nat} {ty T T' E tx tn : TypeId} {pos : String} {aft : Array Edge} {g : Option (Nat × Bool)} {x y z : Operand} {K : Env → List Deferred → List Asrt → Prop}

theorem sep_pers {As : List Asrt} {A : Asrt} {I h : Hp} (hp : A.pers = true) (s : sepL As I h) (hA : ∀ h', A.P I h') : sepL (As ++ [A]) I h :=
  sepL_append (ha := h) (hb := fun _ => none) ⟨Le.refl h, (fun _ _ e => by cases e), fun _ _ _ => rfl⟩ s ⟨fun _ => none, fun _ => none, ⟨(fun _ _ e => by cases e), (fun _ _ e => by cases e), fun _ _ _ => rfl⟩, hA _, trivial⟩

theorem SA_open {α : Type} {kd : Kd α} {A : Option Addr} {c k : Nat} {xs : List α} {code : Code} (hk : As[k]? = some (Buf kd T A c xs)) (hb : kd.byt = false) (h0 : xs ≠ [] ∨ 0 < c)
    (h : ∀ b cs, A = some ⟨b, 0, none⟩ → xs.length ≤ c → cs.length = c * kd.sz → SA P n code Q e ds (As.set k (Raw kd T b c cs) ++ [RLa kd (cs.take (xs.length * kd.sz)) xs])) : SA P n code Q e ds As := by
  intro I hh a w s r f
  obtain ⟨g1, l, ⟨cs0, hr, hcs⟩, ff⟩ := sepL_at hk s
  rcases hcs with ⟨_, hc, hx⟩ | ⟨gb, cur, hA, ⟨fr, hg, hfz⟩, hlc, hcm, hsz, ht⟩
  · rcases h0 with q | q
    · exact absurd hx q
    · omega
  · obtain rfl := hfz.2 hb
    have hl : cur.toList.length = c * kd.sz := (Array.length_toList (xs := cur)).trans hsz
    have s2 : sepL (As.set k (Raw kd T gb c cur.toList)) I hh := ff (Raw kd T gb c cur.toList) I g1 hh (Le.refl I) ⟨by simpa using hg, hl, hcm⟩ l fun b o q1 q2 => ⟨q1, q2⟩
    exact h gb cur.toList hA hlc hl I hh a w (sep_pers (A := RLa kd (cur.toList.take (xs.length * kd.sz)) xs) rfl s2 fun h' => by show RL kd I _ xs; rw [ht]; exact hr) r f

theorem Gh_close {α : Type} {kd : Kd α} {b c k : Nat} {cs : List Value} {zs : List α} (hk : As[k]? = some (Raw kd T b c cs)) (hl : zs.length ≤ c) (hr : ∀ I h, sepL As I h → RL kd I (cs.take (zs.length * kd.sz)) zs) : Gh As (As.set k (Buf kd T (some ⟨b, 0, none⟩) c zs)) := by
  intro I h w s f
  obtain ⟨g1, l, ⟨hg, hlen, hcm⟩, ff⟩ := sepL_at hk s
  refine ⟨I, h, Goes.refl f, ff _ I g1 h (Le.refl I) ⟨_, hr I h s, .inr ⟨b, cs.toArray, rfl, ⟨(0, 0), hg, Fzd.zero⟩, hl, hcm, by simpa using hlen, by simp⟩⟩ l fun b o q1 q2 => ⟨q1, q2⟩⟩
theorem RLa_at {α : Type} {kd : Kd α} {j : Nat} {cs : List Value} {xs : List α} (hj : As[j]? = some (RLa kd cs xs)) {I h : Hp} (s : sepL As I h) : RL kd I cs xs := by
  obtain ⟨g1, l, q, ff⟩ := sepL_at hj s
  exact q
theorem Raw_at {α : Type} {kd : Kd α} {k b c : Nat} {cs : List Value} (hk : As[k]? = some (Raw kd T b c cs)) {I h : Hp} (s : sepL As I h) {w : World} (f : Sees I h w) : w.heap[b]? = some (.cells cs.toArray T (0, 0)) ∧ cs.length = c * kd.sz := by
  obtain ⟨g1, l, ⟨hg, hlen, _⟩, ff⟩ := sepL_at hk s
  exact ⟨f.own b _ (l b _ hg), hlen⟩

theorem first_some {w : World} {sz k bb off len cap : Nat} {cs : List Value} (h : ∀ j u, cs[j]? = some u → w.cell? ⟨bb, off + j, none⟩ = some u) (hl : cs.length = k * sz) : (Builtin.firstCells sz k (.slice (some ⟨bb, off, none⟩) len cap)).run P w = .ok cs.toArray w :=
  run_firstCells_some w sz k ⟨bb, off, none⟩ len cap cs hl fun j u hu => by rw [Addr.add_lit]; exact h j u hu

/-- copy between cells. -/
theorem OA_copyRaw {α : Type} {kd : Kd α} {b c k sz off so dLen dCap yl sCap bs cS kS cnt : Nat} {cs csS : List Value} {α' : Type} {kd' : Kd α'} {T'' : TypeId} {es : List Value} (hd : okDst d n = true) (hu : P.underlying T = some (.slice E)) (hz : (P.info? E).map (·.size) = some sz) (hsz : kd.sz = sz)
    (hk : As[k]? = some (Raw kd T' b c cs)) (hx : ev e x = .slice (some ⟨b, off * sz, none⟩) dLen dCap) (hfit : off + cnt ≤ c) (hcnt : cnt = min yl dLen)
    (hkS : As[kS]? = some (Raw kd' T'' bs cS csS)) (hy : ev e y = .slice (some ⟨bs, so * sz, none⟩) yl sCap) (hes : es = (csS.drop (so * sz)).take (cnt * sz)) (hel : so * sz + cnt * sz ≤ csS.length) (h1 : ∀ I h, sepL As I h → ∀ u ∈ es, u.oneCell' = true)
    (h : K (put e d (goInt ((Nat.min yl dLen : Nat) : Int))) ds (As.set k (Raw kd T' b c (setAt cs (off * sz) es)))) : OA P n ⟨d, .call { callee := .builtin .copy, args := #[x, y], argTypes := #[T, tx] }, ty, pos, aft, g⟩ K Q e ds As := by
  intro I h' a w s r f
  obtain ⟨hwS, _⟩ := Raw_at hkS s f.sees
  obtain ⟨g1, l, ⟨hg, hlen, hcm⟩, ff⟩ := sepL_at hk s
  have hh : h' b = some (.cells cs.toArray T' (0, 0)) := l b _ hg
  have hlen2 : ∀ w', (Builtin.lenOf (.slice (some ⟨bs, so * sz, none⟩) yl sCap)).run P w' = .ok yl w' := fun _ => rfl
  have hesl : es.length = cnt * sz := by rw [hes, List.length_take, List.length_drop]; omega
  cases hq : P.info? E with
  | none => simp [hq] at hz
  | some q =>
    have hq' : q.size = sz := by simpa [hq] using hz
    have hexec : ∀ {v' : Value} {w' : World}, (Builtin.copy_ #[T, tx] ty #[.slice (some ⟨b, off * sz, none⟩) dLen dCap, .slice (some ⟨bs, so * sz, none⟩) yl sCap]).run P w = .ok v' w' → (execOp (ev e) ⟨d, .call { callee := .builtin .copy, args := #[x, y], argTypes := #[T, tx] }, ty, pos, aft, g⟩).run P w = .ok (.value v') w' := fun {v' w'} hh => by
      simp [execOp, resolve, invoke, builtin, hx, hy, hh]
    have hfc : (Builtin.firstCells q.size (Nat.min yl dLen) (.slice (some ⟨bs, so * sz, none⟩) yl sCap)).run P w = .ok es.toArray w := by
      rw [hq', show Nat.min yl dLen = cnt from hcnt.symm]
      refine first_some (fun j u hu => ?_) hesl
      rw [hes, List.getElem?_take] at hu
      split at hu
      · rw [List.getElem?_drop] at hu
        rw [cell_of hwS]
        simpa using hu
      · cases hu
    have hm : off * sz + cnt * sz ≤ c * sz := by rw [← Nat.add_mul]; exact Nat.mul_le_mul_right _ hfit
    rw [hsz] at hlen
    have hst := run_storeCells_fr (P := P) b (off * sz) T' (0, 0) es 0 cs.toArray w (f.own b _ hh) Fz.zero (by rw [hesl, List.size_toArray, hlen]; simpa using hm) (h1 I h' s)
    simp only [Nat.add_zero] at hst
    have hrun := run_copyN (P := P) (T := T) (tx := tx) (ty := ty) (dCap := dCap) (Ad := some ⟨b, off * sz, none⟩) (w' := w.setRow b (setAt cs (off * sz) es).toArray) hu hq hlen2 hfc (fun a ha => by
      obtain rfl := Option.some.inj ha
      exact hst) (fun ha => by cases ha)
    unfold Oper.wp
    rw [r.eval, hexec hrun]
    refine ⟨_, ds, _, I, _, r.put hd _, upd_block ff (A' := Raw kd T' b c (setAt cs (off * sz) es)) hg ⟨if_pos rfl, ?_, hcm⟩, Goes.setRow f hh, h⟩
    rw [setAt_len (by rw [hesl, hlen]; omega), hlen, hsz]

theorem Raw_apart {α β : Type} {kd : Kd α} {kd' : Kd β} {k k' b b' c c' : Nat} {cs cs' : List Value} (hk : As[k]? = some (Raw kd T b c cs)) (hk' : As[k']? = some (Raw kd' T' b' c' cs')) (hn : k ≠ k') {I h : Hp} (s : sepL As I h) : b ≠ b' := by
  rintro rfl
  have s2 : sepL [Raw kd T b c cs, Raw kd' T' b c' cs'] I h := by
    have := sepL_sel (ks := [k, k']) (by
      simp only [selOk, Bool.and_eq_true, hk, hk']
      simp [hn, Ne.symm hn]) s
    simpa [sel, hk, hk'] using this
  obtain ⟨h1, h2, sp, ⟨p1, _, _⟩, ⟨h3, h4, sp2, ⟨p2, _, _⟩, _⟩⟩ := s2
  have := sp.2.2 b _ p1
  rw [sp2.1 b _ p2] at this
  cases this

/-- slices.overlaps of two rows. -/
theorem VR_overlaps {α β : Type} {kd : Kd α} {kd' : Kd β} {k k' b b' c c' o o' sz l l' lc lc' : Nat} {cs cs' : List Value} {f : FuncId} {fn : Func} {tb : TypeId} {ts : Array TypeId} (hk : As[k]? = some (Raw kd T b c cs)) (hk' : As[k']? = some (Raw kd' T' b' c' cs')) (hn : k ≠ k') (h0 : cs' ≠ [])
    (hf : P.funcs[f]? = some fn) (hnm : (fn.name == "runtime.NumGoroutine") = false) (hb : fn.body.isNone = true) (hN : Extern.findNext fn = none) (hE : Extern.find fn = some (Extern.SlicesOverlaps.overlaps #[tx, tx] #[tb])) (hu : P.underlying tx = some (.slice E)) (hz : (P.info? E).map (·.size) = some sz)
    (hx : ev e x = .slice (some ⟨b, o, none⟩) l lc) (hy : ev e y = .slice (some ⟨b', o', none⟩) l' lc') : VR P As e ⟨d, .call { callee := .value (.func f), args := #[x, y], argTypes := ts }, ty, pos, aft, g⟩ (.bool false) := by
  intro I h w s fs
  have hne := Raw_apart hk hk' hn s
  obtain ⟨hw, _⟩ := Raw_at hk s fs
  obtain ⟨hw', _⟩ := Raw_at hk' s fs
  have hzz : ∀ w, (Go.sizeOf E).run P w = .ok sz w := fun w => by
    cases hq : P.info? E with
    | none => simp [hq] at hz
    | some q => simp [hq] at hz; simp [sizeOf, typeInfo, hq, hz]
  have hfr : ∀ off, w.frozen? ⟨b, off, none⟩ = false := fun off => by simp [World.frozen?, hw]
  have hrun := Go.Lib.run_overlaps_apart (P := P) w tx tb E hu sz hzz ⟨b, o, none⟩ ⟨b', o', none⟩ l lc l' lc' hne T T' cs.toArray.size cs'.toArray.size (by simp [World.shape?, hw]) (by simp [World.shape?, hw']) (by
    rw [List.size_toArray]; intro q; exact h0 (List.eq_nil_of_length_eq_zero q)) (hfr _) (hfr _)
  have := run_callFunc_extern (P := P) (f := f) (e := Extern.SlicesOverlaps.overlaps #[tx, tx] #[tb]) hf hnm hb hN hE #[.slice (some ⟨b, o, none⟩) l lc, .slice (some ⟨b', o', none⟩) l' lc'] w
  have hff : ev e (.func f) = .func (.func f) #[] #[] := rfl
  rw [hrun] at this
  simp only [Result.andThen_ok] at this
  simp [execOp, resolve, hff, Deferred.ofValue, invoke, hx, hy, this]

/-- append of zeros, where there is no room. -/
theorem OA_appZ {α : Type} {kd : Kd α} {V : Option Addr} {m vc k bytes sz cnt : Nat} {xs : List α} {zv : Value} {z0 : α} {kq kn : IntKind} (zs : List α) (hzs : zs = xs ++ List.replicate cnt z0) (hd : okDst d n = true) (hu : P.underlying T = some (.slice E)) (htn : P.underlying tn = some (.int kn)) (hi : (P.info? E).map (fun i => (i.zero, i.size, i.bytes)) = some (some zv, sz, bytes)) (hsz : kd.sz = sz) (hz1 : zv.cells.size = sz) (h0z : 0 < sz)
    (hk : As[k]? = some (Buf kd E none 0 ([] : List α))) (hx : ev e x = .slice V m vc) (h0 : SL.Src kd V xs As) (hm : m = xs.length) (hy : ev e y = .int kq (cnt : Int)) (hz : ∀ I, kd.R I zv.cells.toList z0) (hc0 : 0 < cnt) (hlt : vc < xs.length + cnt) (h63 : xs.length + cnt ≤ 9223372036854775807) (hb : (xs.length + cnt) * bytes ≤ 140737488355328)
    (h : ∀ A' c', K (put e d (.slice A' zs.length c')) ds (As.set k (Buf kd E A' c' zs))) : OA P n ⟨d, .call { callee := .builtin .append, args := #[x, y], argTypes := #[T, tn] }, ty, pos, aft, g⟩ K Q e ds As := by
  subst hzs; subst hm
  intro I h' a w s r f
  obtain ⟨g1, l, _, ff⟩ := sepL_at hk s
  obtain ⟨cs, hr, hc⟩ := h0 I h' w s f.sees
  have hre := RL.rep (d := kd) (hz I) cnt
  have hlr : (xs ++ List.replicate cnt z0).length = xs.length + cnt := by simp
  have hrall := hr.app hre
  have hlen := hr.len
  have helen := hre.len
  rw [List.length_replicate] at helen
  cases hq : P.info? E with
  | none => simp [hq] at hi
  | some q =>
    simp only [hq, Option.map_some, Option.some.injEq, Prod.mk.injEq] at hi
    obtain ⟨i1, i2, i3⟩ := hi
    have i2' : kd.sz = q.size := hsz.trans i2.symm
    rw [i2'] at hlen helen
    have hexec : ∀ {v' : Value} {w' : World}, (Builtin.append_ #[T, tn] ty #[.slice V xs.length vc, .int kq (cnt : Int)]).run P w = .ok v' w' → (execOp (ev e) ⟨d, .call { callee := .builtin .append, args := #[x, y], argTypes := #[T, tn] }, ty, pos, aft, g⟩).run P w = .ok (.value v') w' := fun {v' w'} hh => by
      simp [execOp, resolve, invoke, builtin, hx, hy, hh]
    have hold : (Builtin.firstCells q.size xs.length (.slice V xs.length vc)).run P w.drew = .ok cs.toArray w.drew := by
      rcases hc with hc | ⟨b, off, hA, hv⟩
      · subst hc
        simp only [RL] at hr; subst hr
        cases V with
        | none => exact run_firstCells_none w.drew q.size 0 0 vc
        | some a => exact run_firstCells_some w.drew q.size 0 a 0 vc [] (by simp) (by simp)
      · subst hA
        refine run_firstCells_some w.drew q.size xs.length ⟨b, off, none⟩ xs.length vc cs hlen fun j u hu' => ?_
        rw [Addr.add_lit]
        exact hv j u hu'
    have hcb : cnt * bytes ≤ (xs.length + cnt) * bytes := Nat.mul_le_mul_right _ (by omega)
    have hrun := Go.Lib.run_append_grow_zeros (P := P) w T tn ty E q zv kq kn hu htn hq i1 V xs.length vc cs hold cnt hc0 (by omega) hlt (by omega) (by rw [i3]; omega) (growslice_fits (by omega) (by rw [i3]; exact hb))
    have hge := grownCap_ge w (xs.length + cnt) vc E
    have hcm : grownCap w (xs.length + cnt) vc E ≤ maxLen := grownCap_le_maxLen w (xs.length + cnt) vc E (by unfold maxLen; omega)
    generalize grownCap w (xs.length + cnt) vc E = nc at *
    have gd := Goes.drew f
    obtain ⟨ga, _⟩ := Goes.alloc gd.fits (.cells (cs.toArray ++ Builtin.zeroCells zv.cells cnt ++ Builtin.zeroCells zv.cells (nc - (xs.length + cnt))) E)
    have hzc : (Builtin.zeroCells zv.cells cnt).toList = List.flatten (List.replicate cnt zv.cells.toList) := by
      unfold Builtin.zeroCells
      exact zeros_flat zv.cells cnt
    unfold Oper.wp
    rw [r.eval, hexec hrun]
    refine ⟨_, ds, _, I, _, r.put hd _, new_block ff (A' := Buf kd E (some ⟨w.heap.size, 0, none⟩) nc (xs ++ List.replicate cnt z0)) (fresh_own f).1 ⟨_, hrall, .inr ⟨w.heap.size, _, rfl, ⟨(0, 0), if_pos rfl, Fzd.zero⟩, by rw [hlr]; exact hge, hcm, ?_, ?_⟩⟩, gd.trans ga, ?_⟩
    · rw [Array.size_append, Array.size_append, zeroCells_size, zeroCells_size, hz1, List.size_toArray, hlen, ← i2, i2', ← Nat.add_mul, ← Nat.add_mul]
      congr 1; omega
    · rw [Array.toList_append, Array.toList_append, hzc, i2', hlr]
      show List.take _ (cs ++ _ ++ _) = _
      rw [Nat.add_mul, ← hlen, ← helen, ← List.length_append]
      exact List.take_left
    · have := h (some ⟨w.heap.size, 0, none⟩) nc
      rw [hlr] at this
      exact this
/-- A cut of a row. -/
theorem V_sliceRaw {b o o2 n' v a h sz : Nat} {lo hi : Option Operand} {lv hv : Option Value} (hu : P.underlying T = some (.slice E)) (hz : (P.info? E).map (·.size) = some sz) (hx : ev e x = .slice (some ⟨b, o * sz, none⟩) n' v) (hlo : lo.map (ev e) = lv) (hhi : hi.map (ev e) = hv)
    (hl : lv = none ∧ a = 0 ∨ ∃ k, lv = some (.int k (a : Int))) (hh : hv = none ∧ h = n' ∨ ∃ k, hv = some (.int k (h : Int))) (h1 : a ≤ h) (h2 : h ≤ v) (h3 : a < v) (ho : o2 = o + a) : SL.V P e ⟨d, .slice T x lo hi none, ty, pos, aft, g⟩ (.slice (some ⟨b, o2 * sz, none⟩) (h - a) (v - a)) := fun w => by
  subst ho
  have := V_slice (P := P) (e := e) (d := d) (ty := ty) (pos := pos) (aft := aft) (g := g) (T := T) (l := (a : Int)) (h := (h : Int)) (m := (v : Int)) (mx := none) (mv := none) hu hz hx hlo hhi rfl ⟨?_, ?_, .inl ⟨rfl, rfl⟩⟩ (by omega) (by omega) (by omega) (by omega) w
  · rw [this]
    have e1 : slA (some ⟨b, o * sz, none⟩) (a : Int) (v : Int) sz = some ⟨b, (o + a) * sz, none⟩ := by
      simp only [slA, slA.sliced_addr, Int.toNat_natCast]
      rw [if_neg (by omega)]
      simp [Addr.add_lit, Nat.add_mul]
    rw [e1]
    simp
  · rcases hl with ⟨p, q⟩ | p
    · exact .inl ⟨p, by omega⟩
    · exact .inr p
  · rcases hh with ⟨p, q⟩ | p
    · exact .inl ⟨p, rfl, by omega⟩
    · exact .inr p
theorem one_sub {α : Type} {kd : Kd α} {I : Hp} {cs : List Value} {xs : List α} {N a k : Nat} (h : RL kd I (cs.take N) xs) (hl : a + k ≤ N) : ∀ u ∈ (cs.drop a).take k, u.oneCell' = true := fun u hu => by
  refine h.one u ?_
  have e : (cs.drop a).take k = ((cs.take N).drop a).take k := by
    rw [List.drop_take, List.take_take]; congr 1; omega
  rw [e] at hu
  exact List.mem_of_mem_drop (List.mem_of_mem_take hu)
/-- The cells behind an insertion in its place. -/
theorem ins_cells {α : Type} {kd : Kd α} {I : Hp} {cs csv : List Value} {xs ys : List α} {i sz c : Nat} (hsz : kd.sz = sz) (hx : RL kd I (cs.take (xs.length * kd.sz)) xs) (hy : RL kd I (csv.take (ys.length * kd.sz)) ys) (hi : i ≤ xs.length) (hc : xs.length + ys.length ≤ c) (hcl : cs.length = c * kd.sz) (hvl : ys.length * kd.sz ≤ csv.length) :
    RL kd I ((setAt (setAt cs ((i + ys.length) * sz) ((cs.drop (i * sz)).take ((xs.length - i) * sz))) (i * sz) ((csv.drop (0 * sz)).take (ys.length * sz))).take ((xs.take i ++ ys ++ xs.drop i).length * kd.sz)) (xs.take i ++ ys ++ xs.drop i) := by
  subst hsz
  generalize hm : ys.length = m at *
  generalize hn : xs.length = n at *
  have z1 : (i + m) * kd.sz = i * kd.sz + m * kd.sz := Nat.add_mul _ _ _
  have z2 : (n - i) * kd.sz = n * kd.sz - i * kd.sz := Nat.sub_mul _ _ _
  have z3 : i * kd.sz ≤ n * kd.sz := Nat.mul_le_mul_right _ hi
  have z4 : n * kd.sz + m * kd.sz ≤ c * kd.sz := by rw [← Nat.add_mul]; exact Nat.mul_le_mul_right _ hc
  have hlen : (xs.take i ++ ys ++ xs.drop i).length * kd.sz = n * kd.sz + m * kd.sz := by
    rw [← Nat.add_mul]; congr 1
    simp [hn, hm]; omega
  have r1 := RL.sub (kd := kd) 0 i hx
  have r3 := RL.sub (kd := kd) i (n - i) hx
  simp only [Nat.zero_mul, List.drop_zero] at r1
  have e3 : (xs.drop i).take (n - i) = xs.drop i := List.take_of_length_le (by rw [List.length_drop, hn]; exact Nat.le_refl _)
  rw [e3] at r3
  have hall := (r1.app hy).app r3
  have e1 : (cs.take (n * kd.sz)).take (i * kd.sz) = cs.take (i * kd.sz) := by rw [List.take_take]; congr 1; omega
  have e4 : ((cs.take (n * kd.sz)).drop (i * kd.sz)).take ((n - i) * kd.sz) = (cs.drop (i * kd.sz)).take ((n - i) * kd.sz) := by rw [List.drop_take, List.take_take, z2]; congr 1; omega
  rw [e1, e4] at hall
  have hfin : (setAt (setAt cs ((i + m) * kd.sz) ((cs.drop (i * kd.sz)).take ((n - i) * kd.sz))) (i * kd.sz) ((csv.drop (0 * kd.sz)).take (m * kd.sz))).take (n * kd.sz + m * kd.sz) = cs.take (i * kd.sz) ++ csv.take (m * kd.sz) ++ (cs.drop (i * kd.sz)).take ((n - i) * kd.sz) := by
    have l1 : ((cs.drop (i * kd.sz)).take ((n - i) * kd.sz)).length = (n - i) * kd.sz := by rw [List.length_take, List.length_drop]; omega
    have l2 : (csv.take (m * kd.sz)).length = m * kd.sz := by rw [List.length_take]; omega
    rw [Nat.zero_mul, List.drop_zero]
    generalize hS : (cs.drop (i * kd.sz)).take ((n - i) * kd.sz) = S at *
    generalize hV : csv.take (m * kd.sz) = V at *
    unfold setAt
    rw [l1, l2, z1]
    have h1 : (cs.take (i * kd.sz + m * kd.sz) ++ S ++ cs.drop (i * kd.sz + m * kd.sz + (n - i) * kd.sz)).take (i * kd.sz) = cs.take (i * kd.sz) := by
      rw [List.append_assoc, List.take_append_of_le_length (by rw [List.length_take]; omega), List.take_take]; congr 1; omega
    have h2 : (cs.take (i * kd.sz + m * kd.sz) ++ S ++ cs.drop (i * kd.sz + m * kd.sz + (n - i) * kd.sz)).drop (i * kd.sz + m * kd.sz) = S ++ cs.drop (i * kd.sz + m * kd.sz + (n - i) * kd.sz) := by
      rw [List.append_assoc]
      exact List.drop_left' (by rw [List.length_take]; omega)
    rw [h1, h2, ← List.append_assoc]
    exact List.take_left' (by rw [List.length_append, List.length_append, List.length_take, l1, l2]; omega)
  rw [hlen, hfin]
  exact hall
/-- What slices.Insert comes to where a new row is made. -/
theorem ins_grow {α : Type} {l0 l2 : List α} {a1 n11 n13 : Int} {z0 : α} {lim : Nat} (hn11 : n11 = (l2.length : Int)) (hn13 : n13 = (l0.length : Int)) (h0 : 0 ≤ a1) (h1 : a1 ≤ (l0.length : Int)) (h14 : ¬ a1 = n13) (h12 : ¬ n11 = 0) (hl : l0.length + l2.length ≤ lim) (hlim : lim ≤ 140737488355328) :
    some (l0.take a1.toNat ++ l2 ++ l0.drop a1.toNat) = (if 0 ≤ (0 : Int) ∧ (0 : Int) ≤ a1 ∧ a1 ≤ (l0.length : Int) then (if 0 < (IntKind.i64.wrap ((IntKind.i64.wrap (n13 + n11)) - a1)) ∧ (sub l0 (0 + (0 : Int)) ((0 + (0 : Int)) + (a1 - (0 : Int)))).length + (IntKind.i64.wrap ((IntKind.i64.wrap (n13 + n11)) - a1)).toNat ≤ lim then lt ((sub l0 (0 + (0 : Int)) ((0 + (0 : Int)) + (a1 - (0 : Int)))) ++ List.replicate (IntKind.i64.wrap ((IntKind.i64.wrap (n13 + n11)) - a1)).toNat z0) fun n33 => (if 0 ≤ a1 ∧ a1 ≤ (n33.length : Int) ∧ (n33.length : Int) ≤ (n33.length : Int) then (lt (over n33 (0 + a1).toNat (l2.take ((n33.length : Int) - a1).toNat)) fun n41 => (if 0 ≤ (IntKind.i64.wrap (a1 + n11)) ∧ (IntKind.i64.wrap (a1 + n11)) ≤ (n41.length : Int) ∧ (n41.length : Int) ≤ (n41.length : Int) then (if 0 ≤ a1 ∧ a1 ≤ (l0.length : Int) ∧ (l0.length : Int) ≤ (l0.length : Int) then (lt (over n41 (0 + (IntKind.i64.wrap (a1 + n11))).toNat ((sub l0 (0 + a1) ((0 + a1) + ((l0.length : Int) - a1))).take ((n41.length : Int) - (IntKind.i64.wrap (a1 + n11))).toNat)) fun n522 => (some (n522))) else none) else none)) else none) else none) else none) := by
  subst hn11; subst hn13
  obtain ⟨i, rfl⟩ : ∃ i : Nat, a1 = (i : Int) := ⟨a1.toNat, by omega⟩
  have w1 : IntKind.i64.wrap ((l0.length : Int) + (l2.length : Int)) = (l0.length : Int) + (l2.length : Int) := by rw [IntKind.wrap_i64]; omega
  have w2 : IntKind.i64.wrap ((l0.length : Int) + (l2.length : Int) - (i : Int)) = ((l0.length + l2.length - i : Nat) : Int) := by rw [IntKind.wrap_i64]; omega
  have w3 : IntKind.i64.wrap ((i : Int) + (l2.length : Int)) = ((i + l2.length : Nat) : Int) := by rw [IntKind.wrap_i64]; omega
  have s1 : sub l0 (0 + (0 : Int)) ((0 + (0 : Int)) + ((i : Int) - (0 : Int))) = l0.take i := by
    unfold sub
    rw [show ((0 : Int) + 0).toNat = 0 from rfl, List.drop_zero]; congr 1; omega
  have s2 : sub l0 (0 + (i : Int)) ((0 + (i : Int)) + ((l0.length : Int) - (i : Int))) = l0.drop i := by
    unfold sub
    rw [show ((0 : Int) + (i : Int)).toNat = i from by omega]
    exact List.take_of_length_le (by rw [List.length_drop]; omega)
  simp only [lt, w1, w2, w3, s1, s2, Int.toNat_natCast, show ((0 : Int) + (i : Int)).toNat = i from by omega, show ((0 : Int) + ((i + l2.length : Nat) : Int)).toNat = i + l2.length from by omega]
  have li : (l0.take i).length = i := by rw [List.length_take]; omega
  have n33 : (l0.take i ++ List.replicate (l0.length + l2.length - i) z0).length = l0.length + l2.length := by rw [List.length_append, li, List.length_replicate]; omega
  have t2 : l2.take (((l0.take i ++ List.replicate (l0.length + l2.length - i) z0).length : Int) - (i : Int)).toNat = l2 := by rw [n33]; exact List.take_of_length_le (by omega)
  have n41 : over (l0.take i ++ List.replicate (l0.length + l2.length - i) z0) i l2 = l0.take i ++ l2 ++ List.replicate (l0.length - i) z0 := by
    unfold over
    rw [List.take_left' li]
    congr 1
    rw [show List.drop (i + l2.length) (l0.take i ++ List.replicate (l0.length + l2.length - i) z0) = List.drop l2.length (List.drop i (l0.take i ++ List.replicate (l0.length + l2.length - i) z0)) from by rw [List.drop_drop], List.drop_left' li, List.drop_replicate]
    congr 1; omega
  have l41 : (l0.take i ++ l2 ++ List.replicate (l0.length - i) z0).length = l0.length + l2.length := by rw [List.length_append, List.length_append, li, List.length_replicate]; omega
  rw [if_pos (by omega), if_pos (by rw [li]; omega), if_pos (by rw [n33]; omega), t2, n41, if_pos (by rw [l41]; omega), if_pos (by omega), l41]
  have t3 : (l0.drop i).take (((l0.length + l2.length : Nat) : Int) - ((i + l2.length : Nat) : Int)).toNat = l0.drop i := List.take_of_length_le (by rw [List.length_drop]; omega)
  rw [t3]
  congr 1
  unfold over
  have l42 : (l0.take i ++ l2).length = i + l2.length := by rw [List.length_append, li]
  have hd : List.drop (i + l2.length + (l0.drop i).length) (l0.take i ++ l2 ++ List.replicate (l0.length - i) z0) = [] := List.drop_eq_nil_of_le (by rw [l41, List.length_drop]; omega)
  rw [List.take_left' l42, hd, List.append_nil]
end
end Go.Proofs.YtkdakjjockfmdaaGreatDoor.SL

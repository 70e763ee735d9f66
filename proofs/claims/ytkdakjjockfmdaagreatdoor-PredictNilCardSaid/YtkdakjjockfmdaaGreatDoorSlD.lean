/- Append in its place through a window; clear; the end of a row that is let go. -/
import Derived.Test.YtkdakjjockfmdaaGreatDoorSlI
namespace Go.Proofs.YtkdakjjockfmdaaGreatDoor.SL
open Go Go.RowKit
set_option linter.unusedVariables false
set_option linter.unusedSimpArgs false
section
variable {P : Program} {n : Nat} {Q : PostT} {e : Env} {ds : List Deferred} {As : List Asrt} {d : Option Nat} {ty T T' E tx tn : TypeId} {pos : String} {aft : Array Edge} {g : Option (Nat × Bool)} {x y z : Operand} {K : Env → List Deferred → List Asrt → Prop}

/-- Cells are stored into an owned row: the row then. -/
theorem Buf_over {α : Type} {kd : Kd α} {A : Option Addr} {c k off sz : Nat} {xs zs : List α} {es : List Value} {I h : Hp} {w : World} (hsz : kd.sz = sz) (hk : As[k]? = some (Buf kd T A c xs)) (s : sepL As I h) (f : Fits I h w) (hr : RL kd I es zs) (hfit : off + zs.length ≤ xs.length) (h0 : 0 < zs.length) :
    ∃ b w', A = some ⟨b, 0, none⟩ ∧ (storeCells ⟨b, off * sz, none⟩ es).run P w = .ok () w' ∧ ∃ h', sepL (As.set k (Buf kd T A c (over xs off zs))) I h' ∧ Goes I h w I h' w' := by
  obtain ⟨g1, l, ⟨xc, hxr, hc⟩, ff⟩ := sepL_at hk s
  rcases hc with ⟨_, hc, hx⟩ | ⟨gb, cur, hAA, ⟨fr, hg, hfz⟩, hlc, hcm, hcs, ht⟩
  · subst hx
    simp only [List.length_nil] at hfit; omega
  · subst hAA
    have hcl := hr.len
    have hh : h gb = some (.cells cur T fr) := l gb _ hg
    have hm : (off + zs.length) * sz ≤ xs.length * sz := Nat.mul_le_mul_right _ hfit
    have hm2 : xs.length * sz ≤ c * sz := Nat.mul_le_mul_right _ hlc
    rw [hsz] at hcl hcs ht
    rw [Nat.add_mul] at hm
    have hcurl : cur.toList.length = c * sz := (Array.length_toList (xs := cur)).trans hcs
    have hst := run_storeCells_fr (P := P) gb (off * sz) T fr es 0 cur w (f.own gb _ hh) hfz.1 (by rw [hcl, hcs]; simpa using Nat.le_trans hm hm2) hr.one
    simp only [Nat.add_zero] at hst
    refine ⟨gb, _, rfl, hst, _, upd_block ff hg ?_, Goes.setRow f hh⟩
    have hol : (over xs off zs).length = xs.length := over_len hfit
    have hxl := hxr.len
    rw [hsz] at hxl
    have r1 := RL.sub (kd := kd) 0 off hxr
    have r2 := RL.sub (kd := kd) (off + zs.length) (xs.length - (off + zs.length)) hxr
    simp only [Nat.zero_mul, List.drop_zero, hsz] at r1 r2
    have hall := (r1.app hr).app r2
    have ex : List.take (xs.length - (off + zs.length)) (xs.drop (off + zs.length)) = xs.drop (off + zs.length) := List.take_of_length_le (by rw [List.length_drop]; exact Nat.le_refl _)
    have ec : List.take ((xs.length - (off + zs.length)) * sz) (xc.drop ((off + zs.length) * sz)) = xc.drop ((off + zs.length) * sz) := List.take_of_length_le (by rw [List.length_drop, hxl, Nat.sub_mul]; exact Nat.le_refl _)
    rw [ex, ec] at hall
    have hsl : (List.take (off * sz) cur.toList ++ es ++ List.drop (off * sz + es.length) cur.toList).length = cur.toList.length := setAt_len (B := cur.toList) (m := off * sz) (vs := es) (by rw [hcl, hcurl]; omega)
    refine ⟨_, hall, .inr ⟨gb, _, rfl, ⟨fr, if_pos rfl, by rw [List.size_toArray, hsl, Array.length_toList]; exact hfz⟩, by rw [hol]; exact hlc, hcm, ?_, ?_⟩⟩
    · rw [List.size_toArray, hsl, hsz]; exact hcurl
    · rw [hol, hsz]
      show (setAt cur.toList (off * sz) es).take (xs.length * sz) = _
      have hN : xs.length * sz ≤ cur.toList.length := by omega
      have hB : setAt cur.toList (off * sz) es = cur.toList.take (off * sz) ++ es ++ cur.toList.drop (off * sz + es.length) := rfl
      rw [hB, List.take_append, List.take_of_length_le (by rw [List.length_append, List.length_take, hcl]; omega)]
      have e3 : xc.take (off * sz) = cur.toList.take (off * sz) := by
        rw [← ht, List.take_take]; congr 1; omega
      have e4 : xc.drop ((off + zs.length) * sz) = (cur.toList.drop (off * sz + es.length)).take (xs.length * sz - (off * sz + es.length)) := by
        rw [← ht, List.drop_take, hcl, Nat.add_mul]
      rw [e3, e4]
      congr 2
      rw [List.length_append, List.length_take, hcl]; omega
theorem over_nil0 {α : Type} {xs : List α} {o : Nat} : over xs o [] = xs := by simp [over]
/-- append onto a window, in its place. -/
theorem OA_appW {α : Type} {kd : Kd α} {A V : Option Addr} {c k bytes sz v : Nat} {l m : Int} {xs ys : List α} {u : Value} {zv : Value} (zs : List α) (hzs : zs = over xs (l + m).toNat ys) (w : Win A V sz l m v) (hd : okDst d n = true) (hu : P.underlying T = some (.slice E)) (hi : (P.info? E).map (fun i => (i.zero, i.size, i.bytes)) = some (some zv, sz, bytes)) (hsz : kd.sz = sz)
    (hk : As[k]? = some (Buf kd T' A c xs)) (hx : ev e x = .slice V m.toNat v) (hy : ev e y = u) (hs : Yld P kd tx u ys As) (hroom : m + (ys.length : Int) ≤ (v : Int)) (hfit : l + m + (ys.length : Int) ≤ (xs.length : Int))
    (hK : K (put e d (.slice V (m + (ys.length : Int)).toNat v)) ds (As.set k (Buf kd T' A c zs))) : OA P n ⟨d, .call { callee := .builtin .append, args := #[x, y], argTypes := #[T, tx] }, ty, pos, aft, g⟩ K Q e ds As := by
  subst hzs
  intro I h' a wd s r f
  obtain ⟨es, hre, src⟩ := hs I h' wd s f.sees
  obtain ⟨lo, no, cap, adr⟩ := w
  have helen := hre.len
  have ev1 : (m + (ys.length : Int)).toNat = m.toNat + ys.length := by omega
  cases hq : P.info? E with
  | none => simp [hq] at hi
  | some q =>
    simp only [hq, Option.map_some, Option.some.injEq, Prod.mk.injEq] at hi
    obtain ⟨i1, i2, i3⟩ := hi
    have i2' : kd.sz = q.size := hsz.trans i2.symm
    rw [i2'] at src helen
    have hexec : ∀ {v' : Value} {w' : World}, (Builtin.append_ #[T, tx] ty #[.slice V m.toNat v, u]).run P wd = .ok v' w' → (execOp (ev e) ⟨d, .call { callee := .builtin .append, args := #[x, y], argTypes := #[T, tx] }, ty, pos, aft, g⟩).run P wd = .ok (.value v') w' := fun {v' w'} hh => by
      simp [execOp, resolve, invoke, builtin, hx, hy, hh]
    have hroom' : m.toNat + ys.length ≤ v := by omega
    by_cases h0 : ys.length = 0
    · have hy0 := List.eq_nil_of_length_eq_zero h0
      subst hy0
      simp only [RL] at hre; subst hre
      have sc : (Builtin.firstCells q.size 0 u).run P wd = .ok #[] wd := src.cells
      have sl : ∀ w', (Builtin.lenOf u).run P w' = .ok 0 w' := src.len
      have hrun : (Builtin.append_ #[T, tx] ty #[.slice V m.toNat v, u]).run P wd = .ok (.slice V m.toNat v) wd := by
        have hr0 : m.toNat ≤ v := by omega
        rcases src.kind with ⟨e', hkk⟩ | hkk <;> cases V <;> simp [Builtin.append_, run_underlying hu, run_underlying hkk, sizeOf, typeInfo, hq, sc, sl, storeCells, hr0]
      unfold Oper.wp
      rw [r.eval, hexec hrun]
      rw [over_nil0, set_same hk] at hK
      simp only [List.length_nil, Int.ofNat_zero, Int.add_zero] at hK
      exact ⟨_, ds, As, I, h', r.put hd _, s, Goes.refl f, hK⟩
    · obtain ⟨b, w', hA, hst, h2, s2, g2⟩ := Buf_over (P := P) (off := (l + m).toNat) (es := es) hsz hk s f hre (by omega) (by omega)
      have hV : V = some ⟨b, l.toNat * sz, none⟩ := by
        rcases adr with z | z
        · omega
        · rw [z, hA]; simp [Addr.add_lit]
      have hrun : (Builtin.append_ #[T, tx] ty #[.slice V m.toNat v, u]).run P wd = .ok (.slice V (m.toNat + ys.length) v) w' := by
        rw [hV]
        have e1 : (l + m).toNat * sz = l.toNat * sz + m.toNat * sz := by rw [← Nat.add_mul]; congr 1; omega
        rw [e1, ← i2] at hst
        rw [← i2]
        rcases src.kind with ⟨e', hkk⟩ | hkk <;> simp [Builtin.append_, run_underlying hu, run_underlying hkk, sizeOf, typeInfo, hq, src.len, hroom', src.cells, Addr.add_lit, hst]
      unfold Oper.wp
      rw [r.eval, hexec hrun]
      rw [ev1] at hK
      exact ⟨_, ds, _, I, h2, r.put hd _, s2, g2, hK⟩
/-- clear of a window. -/
theorem OA_clearW {α : Type} {kd : Kd α} {A V : Option Addr} {c k sz v : Nat} {l m : Int} {xs : List α} {zv : Value} {z0 : α} (zs : List α) (hzs : zs = over xs l.toNat (List.replicate m.toNat z0)) (w : Win A V sz l m v) (hd : okDst d n = true) (hu : P.underlying T = some (.slice E)) (hi : (P.info? E).bind (·.zero) = some zv) (hsz : kd.sz = sz)
    (hk : As[k]? = some (Buf kd T' A c xs)) (hx : ev e x = .slice V m.toNat v) (hz : ∀ I, kd.R I zv.cells.toList z0) (hfit : l + m ≤ (xs.length : Int))
    (hK : K (put e d (.tuple #[])) ds (As.set k (Buf kd T' A c zs))) : OA P n ⟨d, .call { callee := .builtin .clear, args := #[x], argTypes := #[T] }, ty, pos, aft, g⟩ K Q e ds As := by
  subst hzs
  intro I h' a wd s r f
  obtain ⟨lo, no, cap, adr⟩ := w
  have hzv : ∀ w, (zeroValue E).run P w = .ok zv w := fun w => by
    cases hq : P.info? E with
    | none => simp [hq] at hi
    | some q => simp [hq] at hi; simp [zeroValue, typeInfo, hq, hi]
  have hexec : ∀ {v' : Value} {w' : World}, (Builtin.clear_ #[T] ty #[.slice V m.toNat v]).run P wd = .ok v' w' → (execOp (ev e) ⟨d, .call { callee := .builtin .clear, args := #[x], argTypes := #[T] }, ty, pos, aft, g⟩).run P wd = .ok (.value v') w' := fun {v' w'} hh => by
    simp [execOp, resolve, invoke, builtin, hx, hh]
  by_cases h0 : m.toNat = 0
  · have hrun : (Builtin.clear_ #[T] ty #[.slice V m.toNat v]).run P wd = .ok (.tuple #[]) wd := by
      rw [h0]
      cases V <;> simp [Builtin.clear_, run_underlying hu]
    unfold Oper.wp
    rw [r.eval, hexec hrun]
    rw [h0, List.replicate_zero, over_nil0, set_same hk] at hK
    exact ⟨_, ds, As, I, h', r.put hd _, s, Goes.refl f, hK⟩
  · have hre := RL.rep (d := kd) (hz I) m.toNat
    have hzc : (Builtin.zeroCells zv.cells m.toNat).toList = List.flatten (List.replicate m.toNat zv.cells.toList) := by
      unfold Builtin.zeroCells
      exact zeros_flat zv.cells m.toNat
    rw [← hzc] at hre
    obtain ⟨b, w', hA, hst, h2, s2, g2⟩ := Buf_over (P := P) (off := l.toNat) hsz hk s f hre (by simp; omega) (by simp; omega)
    have hV : V = some ⟨b, l.toNat * sz, none⟩ := by
      rcases adr with z | z
      · omega
      · rw [z, hA]; simp [Addr.add_lit]
    obtain ⟨N, hN⟩ : ∃ N, m.toNat = N + 1 := ⟨m.toNat - 1, by omega⟩
    have hrun : (Builtin.clear_ #[T] ty #[.slice V m.toNat v]).run P wd = .ok (.tuple #[]) w' := by
      rw [hV]
      rw [hN] at hst ⊢
      simp [Builtin.clear_, run_underlying hu, hzv, hst]
    unfold Oper.wp
    rw [r.eval, hexec hrun]
    exact ⟨_, ds, _, I, h2, r.put hd _, s2, g2, hK⟩
/-- The end of a row is let go. -/
theorem Gh_trunc {α : Type} {kd : Kd α} {A : Option Addr} {c k : Nat} {xs : List α} (m : Nat) (hk : As[k]? = some (Buf kd T A c xs)) : Gh As (As.set k (Buf kd T A c (xs.take m))) := by
  intro I h w s f
  obtain ⟨g1, l, ⟨cs, hr, hc⟩, ff⟩ := sepL_at hk s
  have r1 := RL.sub (kd := kd) 0 m hr
  simp only [Nat.zero_mul, List.drop_zero] at r1
  refine ⟨I, h, Goes.refl f, ff _ I g1 h (Le.refl I) ⟨_, r1, ?_⟩ l fun b o q1 q2 => ⟨q1, q2⟩⟩
  rcases hc with ⟨q1, q2, q3⟩ | ⟨gb, cur, hA, hg, hlc, hcm, hcs, ht⟩
  · exact .inl ⟨q1, q2, by rw [q3]; simp⟩
  · refine .inr ⟨gb, cur, hA, hg, by rw [List.length_take]; omega, hcm, hcs, ?_⟩
    rw [← ht, List.take_take, List.length_take]
    congr 1
    rcases Nat.le_total m xs.length with z | z
    · rw [Nat.min_eq_left z, Nat.min_eq_left (Nat.mul_le_mul_right _ z)]
    · rw [Nat.min_eq_right z, Nat.min_eq_right (Nat.mul_le_mul_right _ z)]
/-- A field that is a struct itself, of a struct value. -/
theorem V_fieldA {fs : Array Field} {f : Field} {i : Nat} {cs vs : List Value} {td : TypeDesc} (hu : P.underlying T = some (.struct fs)) (hf : fs[i]? = some f) (ht : P.underlying f.type = some td) (ha : aggD td = true) (hz : (P.info? f.type).map (·.size) = some vs.length) (hx : ev e x = .agg cs.toArray) (hv : (cs.drop f.offset).take vs.length = vs) :
    SL.V P e ⟨d, .field T x i, ty, pos, aft, g⟩ (.agg vs.toArray) := fun w => by
  cases hq : P.info? f.type with
  | none => simp [hq] at hz
  | some q =>
    have hz' : q.size = vs.length := by simpa [hq] using hz
    have hc : cs.toArray.extract f.offset (f.offset + vs.length) = vs.toArray := by
      rw [← hv]; simp [List.extract_eq_take_drop]
    simp [execOp, Instr.field, hx, run_underlying hu, hf, asAgg, part, isAgg_true ht ha, sizeOf, typeInfo, hq, hz']
    simpa using congrArg Array.toList hc
theorem slA_zero {A : Option Addr} {m : Int} {sz : Nat} : slA A 0 m sz = A := by
  simp only [slA, slA.sliced_addr]
  split
  · rfl
  · cases A <;> simp [add_zero]
/-- The same begin, another length. -/
theorem Win.grow {A V : Option Addr} {sz v : Nat} {l n b : Int} (w : Win A V sz l n v) (h0 : 0 ≤ b) (h1 : b ≤ (v : Int)) : Win A V sz l b v := ⟨w.lo, h0, h1, w.adr⟩
/-- A cut of a window, behind its end too. -/
theorem V_sliceX {A V : Option Addr} {sz v : Nat} {l m a b q : Int} {lo hi mx : Option Operand} {lv hv : Option Value} (w : Win A V sz l m v) (hu : P.underlying T = some (.slice E)) (hz : (P.info? E).map (·.size) = some sz) (hx : ev e x = .slice V m.toNat v)
    (hlo : lo.map (ev e) = lv) (hhi : hi.map (ev e) = hv) (hmx : mx.map (ev e) = none)
    (hl : lv = none ∧ a = 0 ∨ ∃ k, lv = some (.int k a)) (hh : hv = none ∧ (none : Option Value) = none ∧ b = m ∨ ∃ k, hv = some (.int k b)) 
    (h0 : 0 ≤ a) (h1 : a ≤ b) (h2 : b ≤ (v : Int)) (hq : q = (v : Int) := by rfl) : SL.V P e ⟨d, .slice T x lo hi mx, ty, pos, aft, g⟩ (.slice (slA V a q sz) (b - a).toNat (q.toNat - a.toNat)) := fun wd => by
  obtain ⟨wl, no, cap, _⟩ := w
  have := V_slice (P := P) (e := e) (d := d) (ty := ty) (pos := pos) (aft := aft) (g := g) (T := T) (h := b) (m := q) hu hz hx hlo hhi hmx ⟨hl, ?_, .inl ⟨rfl, hq⟩⟩ h0 h1 (by omega) (by omega) wd
  · rw [this, show b.toNat - a.toNat = (b - a).toNat from by omega]
  · rcases hh with ⟨p, r, s⟩ | p
    · exact .inl ⟨p, r, by omega⟩
    · exact .inr p
theorem OA_storeI {b m k : Nat} {cs vs : List Value} {v : Value} {cs' : List Value} (hd : okDst d n = true) (hk : As[k]? = some (Blk b T' cs)) (hx : ev e x = .pointer (some ((⟨b, 0, none⟩ : Addr).add m))) (hy : ev e y = v) (hv : v.cells.toList = vs)
    (h1 : vs.all (·.oneCell') = true) (hz : (P.info? T).map (·.size) = some vs.length) (hl : m + vs.length ≤ cs.length) (hc : setAt cs m vs = cs') (h : K (put e d undef) ds (As.set k (Blk b T' cs'))) : OA P n ⟨d, .store T x y, ty, pos, aft, g⟩ K Q e ds As :=
  OA_store cs' hd hk hx hy (by rw [← hv]) (fun u hu => List.all_eq_true.1 h1 u hu) hz hl hc h
theorem win_at {A V : Option Addr} {sz v : Nat} {m : Int} (w : Win A V sz 0 m v) (h : 0 < v) : V = A := by
  rcases w.adr with q | q
  · omega
  · rw [q]; cases A <;> simp [add_zero]
end
/-- The world bears what is held, whatever the rest. -/
def SeesA (Hs : List Asrt) (w : World) : Prop := ∃ I h, sepL Hs I h ∧ Sees I h w
section
variable {P : Program} {n : Nat} {Q : PostT} {e : Env} {ds : List Deferred} {As Bs Hs : List Asrt} {ops : Array Oper} {T : List Nat} {an : Array (List Nat)} {I0 hh0 : Hp} {w0 : World} {fuel : Nat} {listed : Array Bool}
theorem SA_drawMq {id : Nat} {ol : List Oper} (T : List Nat) (an : Array (List Nat)) (Hs : List Asrt) (hm : P.follows .mixedOrders = true) (hq : PanOk Q)
    (h : ∀ I0 hh0 w0, PanOk Q → DN P n ol.toArray Q T an (SeesA Hs) I0 hh0 w0 ol.length (Array.replicate ol.length false) e ds As) : SA P n (.region id ol.toArray true) Q e ds As := by
  intro I hh a w s r f
  have fd := (Goes.drew f).fits
  have hw := h I hh { w with drawn := w.drawn + 1 } hq I hh a _ s r fd (Goes.refl fd)
  have := wp_region_any (id := id) hm (wpAny_of_T _ _ _ _ (by rw [List.size_toArray]; exact hw))
  exact wp_mono this fun x a' w' p => PostA.goes (Goes.drew f) p
theorem DM_take {v : Value} {oi : Oper} (i : Nat) (ks : List Nat) (ht : tkB ops an listed i = true) (hT : T.contains i = true) (hi : ops[i]? = some oi) (hw : Wt ops n e oi) (hQ : PanOk Q) (hd : okDst oi.dst n = true) (hs : selOk ks As = true) (eH : sel ks As = Hs) (hv : VR P Hs e oi v)
    (h : DN P n ops Q T an (SeesA Hs) I0 hh0 w0 fuel (listed.setIfInBounds i true) (put e oi.dst v) ds As) : DN P n ops Q T an (SeesA Hs) I0 hh0 w0 (fuel + 1) listed e ds As := by
  intro I hh a w s r f g
  simp only [tkB, Bool.and_eq_true] at ht
  obtain ⟨⟨⟨⟨h1, h2⟩, h3⟩, h4⟩, h5⟩ := ht
  exact wpAnyT_first hi (Region.noSelect_spec h1) (put_pan hQ hd) h5 (.inl ⟨by simpa using hT, rfl⟩) fuel listed a w (Region.free_spec hi h2) (by simpa using h3) (Inv.of h4)
    (.inl ⟨hw.wanted r, fun w' ⟨I', h', s', se'⟩ => by rw [r.eval]; exact hv I' h' w' s' se'⟩) ⟨I, hh, eH ▸ sepL_sel hs s, f.sees⟩ (h I hh _ w s (r.put hd v) f g)
theorem DM_skip {oi : Oper} (i : Nat) (ks : List Nat) (ht : tkB ops an listed i = true) (hT : T.contains i = true) (hi : ops[i]? = some oi) (hw : Ut ops n e oi) (hQ : PanOk Q) (hd : okDst oi.dst n = true) (hs : selOk ks As = true) (eH : sel ks As = Hs)
    (h : DN P n ops Q T an (SeesA Hs) I0 hh0 w0 fuel (listed.setIfInBounds i true) (put e oi.dst undef) ds As) : DN P n ops Q T an (SeesA Hs) I0 hh0 w0 (fuel + 1) listed e ds As := by
  intro I hh a w s r f g
  simp only [tkB, Bool.and_eq_true] at ht
  obtain ⟨⟨⟨⟨h1, h2⟩, h3⟩, h4⟩, h5⟩ := ht
  exact wpAnyT_first hi (Region.noSelect_spec h1) (put_pan hQ hd) h5 (.inl ⟨by simpa using hT, rfl⟩) fuel listed a w (Region.free_spec hi h2) (by simpa using h3) (Inv.of h4)
    (.inr ⟨hw.unwanted r, rfl⟩) ⟨I, hh, eH ▸ sepL_sel hs s, f.sees⟩ (h I hh _ w s (r.put hd undef) f g)
/-- What is owed of operation i, if it comes up next: what is held is at hand behind it, if one of T may stand behind it. -/
def StM (P : Program) (n : Nat) (ops : Array Oper) (Q : PostT) (T : List Nat) (an : Array (List Nat)) (Hs : List Asrt) (I0 hh0 : Hp) (w0 : World) (fuel : Nat) (listed : Array Bool) (e : Env) (ds : List Deferred) (As : List Asrt) (i : Nat) : Prop :=
  ∃ oi, ops[i]? = some oi ∧ Wt ops n e oi ∧ OA P n oi (fun e ds As => (need T an i = true → ∃ ks, selOk ks As = true ∧ sel ks As = Hs) ∧ DN P n ops Q T an (SeesA Hs) I0 hh0 w0 fuel (listed.setIfInBounds i true) e ds As) NoQ e ds As
theorem DM_many {rs : List Nat} (hr : Region.ready .any ops listed = rs) (hne : rs ≠ []) (h : ∀ i ∈ rs, StM P n ops Q T an Hs I0 hh0 w0 fuel listed e ds As i) : DN P n ops Q T an (SeesA Hs) I0 hh0 w0 (fuel + 1) listed e ds As := by
  intro I hh a w s r f g
  refine ⟨fun h' => absurd (hr ▸ h') hne, hr ▸ fun i hi => ?_⟩
  obtain ⟨oi, hoi, hw, h⟩ := h i hi
  have hwp := h I hh a w s r f
  unfold wpOp
  simp only [hoi, hw.wanted r, if_true]
  refine .inl ?_
  have next : ∀ a' w', (∃ e' ds' As' I' h'', Rel n e' ds' a' ∧ sepL As' I' h'' ∧ Goes I hh w I' h'' w' ∧ ((need T an i = true → ∃ ks, selOk ks As' = true ∧ sel ks As' = Hs) ∧ DN P n ops Q T an (SeesA Hs) I0 hh0 w0 fuel (listed.setIfInBounds i true) e' ds' As')) → (need T an i = true → SeesA Hs w') ∧ wpAnyT P ops (PostA n Q I0 hh0 w0) (SeesA Hs) T an fuel (listed.setIfInBounds i true) a' w' := fun a' w' ⟨e', ds', As', I', h'', r', s', g', qs, q⟩ =>
    ⟨fun hn => by obtain ⟨ks, h1, h2⟩ := qs hn; exact ⟨I', h'', h2 ▸ sepL_sel h1 s', g'.fits.sees⟩, q I' h'' a' w' s' r' g'.fits (g.trans g')⟩
  unfold Oper.wp at *
  generalize (execOp a.eval oi).run P w = res at *
  cases res with
  | ok x w' =>
    cases x <;> simp only [Oper.upon] at hwp ⊢ <;> first
      | exact next _ _ hwp
      | exact Calls.mono hwp (fun ee w'' he => by cases ee <;> first | exact next _ _ he | exact NoQ.no he | (obtain ⟨a2, w2, q⟩ := he; exact NoQ.no q))
      | exact Rows.mono hwp (fun _ _ he => next _ _ he)
      | exact NoQ.no hwp
  | halt x w' => cases x <;> simp only [Oper.upon] at hwp ⊢ <;> first | exact NoQ.no hwp | exact hwp
theorem DM_one {oi : Oper} (i : Nat) (hr : Region.ready .any ops listed = [i]) (hi : ops[i]? = some oi) (hw : Wt ops n e oi) (h : OA P n oi (fun e ds As => (need T an i = true → ∃ ks, selOk ks As = true ∧ sel ks As = Hs) ∧ DN P n ops Q T an (SeesA Hs) I0 hh0 w0 fuel (listed.setIfInBounds i true) e ds As) NoQ e ds As) : DN P n ops Q T an (SeesA Hs) I0 hh0 w0 (fuel + 1) listed e ds As :=
  DM_many hr (by simp) (fal_cons ⟨oi, hi, hw, h⟩ fal_nil)
end
end Go.Proofs.YtkdakjjockfmdaaGreatDoor.SL

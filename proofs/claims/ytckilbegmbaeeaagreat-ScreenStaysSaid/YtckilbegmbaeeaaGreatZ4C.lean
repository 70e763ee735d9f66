import Derived.Test.YtckilbegmbaeeaaGreatZ4B
namespace Go.Proofs.YtckilbegmbaeeaaGreat.Z4Sc
open Go Go.RowKit Go.Proofs.YtckilbegmbaeeaaGreat.SL Go.Proofs.YtckilbegmbaeeaaGreat.Z4 Go.Proofs.YtckilbegmbaeeaaGreat.Z4May Go.Proofs.YtckilbegmbaeeaaGreat.Z4Ls Go.Proofs.YtckilbegmbaeeaaGreat.Z4Op Go.Proofs.YtckilbegmbaeeaaGreat.Z4Sp
set_option linter.unusedVariables false
set_option linter.unusedSimpArgs false
theorem Mg.at {s : S34} (h : Mg s) : ∃ w q i : Nat, s.f0.f0 = (w : Int) ∧ s.f0.f1 = (q : Int) ∧ s.f1 = (i : Int) ∧ 0 < w ∧ w ≤ 512 ∧ 0 < q ∧ q ≤ 512 ∧ i < q ∧ s.f0.f2.length = w * q ∧ w * q ≤ 262144 ∧ i * w + w ≤ s.f0.f2.length := by
 obtain ⟨w, q, e0, e1, a, b, c, d, hl, hb⟩ := h.size
 have r0 := h.r0
 have r1 := h.r1
 have hp := place (w := w) (i := s.f1.toNat) (q := q) (by omega)
 exact ⟨w, q, s.f1.toNat, e0, e1, by omega, a, b, c, d, by omega, hl, hb, by rw [hl]; exact hp⟩
theorem at135 (s : S34) (w q i : Nat) (e0 : s.f0.f0 = (w : Int)) (hl : s.f0.f2.length = w * q) (hb : w * q ≤ 262144) (hi : i < q) : F135i34m0b_0_.f s (i : Int) = some (((i * w : Nat) : Int), (w : Int)) := by
 have hp := place (w := w) hi
 unfold F135i34m0b_0_.f
 simp only [lt]
 rw [e0, show (i : Int) * (w : Int) = ((i * w : Nat) : Int) from by simp, w64 (x := ((i * w : Nat) : Int)) (by omega) (by omega), w64 (x := ((i * w : Nat) : Int) + (w : Int)) (by omega) (by omega), if_pos (by omega)]
 congr 2 <;> omega
theorem prow (s : S34) (w q i : Nat) (e0 : s.f0.f0 = (w : Int)) (e2 : s.f1 = (i : Int)) (hl : s.f0.f2.length = w * q) (hb : w * q ≤ 262144) (hi : i < q) : F121Lb_0_.f s = some (((i * w : Nat) : Int), (w : Int)) := by
 have hp := place (w := w) hi
 unfold F121Lb_0_.f
 rw [e2, at135 s w q i e0 hl hb hi]
 simp only [Option.bind_some]
 rw [if_pos (by omega)]
def onR (s : S34) (f : List S55 → List S55) : S34 := { s with f0 := (onRow s.f0 s.f1 f).1 }
theorem onR_eq {s : S34} {w i : Nat} {f : List S55 → List S55} (e0 : s.f0.f0 = (w : Int)) (e2 : s.f1 = (i : Int)) :
  onR s f = { s with f0 := S26.mk s.f0.f0 s.f0.f1 (over s.f0.f2 (i * w) (mendL (f (win s.f0.f2 (i * w) w)))) } := by
 unfold onR onRow; rw [e0, e2]; simp only [Int.toNat_natCast]
theorem rowOk_of {s : S34} (h : Mg s) : rowOk s.f0 s.f1 s.f4 = true := by
 unfold rowOk
 simp only [h.g, h.y, Bool.true_and, Bool.and_true, Bool.and_eq_true, decide_eq_true_eq]
 exact ⟨h.r0, h.r1⟩
theorem onR_like (s : S34) (f : List S55 → List S55) : Like s (onR s f) := ⟨rfl, rfl, rfl, rfl, rfl, rfl, rfl, rfl, rfl, rfl, rfl, rfl, rfl⟩
theorem onR_mg {s : S34} (h : Mg s) {f : List S55 → List S55} (hf : ∀ W : List S55, W.length = s.f0.f0.toNat → (∀ x ∈ W, mayCell x = true) → (f W).length = W.length ∧ ∀ x ∈ f W, mayCell x = true) (hb : ∀ W : List S55, (∀ x ∈ W, byte x) → ∀ x ∈ f W, byte x) : Mg (onR s f) :=
 ⟨onRow_may (rowOk_of h) hf, onRow_all h.b hb, h.y, h.t0, h.t1, h.t2, h.r0, h.r1⟩
def fSh (s : S34) (n : Int) : List S55 → List S55 := fun W => over W s.f2.toNat (slide (W.drop s.f2.toNat) (-n) (blk s.f4))
def dChars (s : S34) (n : Int) : S34 := { onR s (fSh s n) with f3 := false }
theorem shift_mg {s : S34} (h : Mg s) (hc : 0 ≤ s.f2 ∧ s.f2 < s.f0.f0) (n : Int) : Mg (onR s (fSh s n)) := by
 refine onR_mg h (fun W hW hm => ⟨shift_len (by omega), fun x hx => ?_⟩) (fun W hW => over_all hW (slide_all fun x hx => hW x (List.mem_of_mem_drop hx)))
 rcases over_mem hx with q | q
 ·exact hm x q
 ·rcases slide_mem q with q | q
  ·exact hm x (List.mem_of_mem_drop q)
  ·rw [q]; exact may_blk h.y
theorem pshift (s : S34) (h : Mg s) (hc : 0 ≤ s.f2 ∧ s.f2 < s.f0.f0) (n : Int) (w q i : Nat) (e0 : s.f0.f0 = (w : Int)) (e2 : s.f1 = (i : Int)) (hw : w ≤ 512) (hl : s.f0.f2.length = w * q) (hb : w * q ≤ 262144) (hp : i * w + w ≤ s.f0.f2.length) (k : Nat) (hk : 1100000 ≤ k) :
  F122w0.f k s.f0.f2 ((i * w : Nat) : Int) (w : Int) s.f2 n s.f4 = some (over s.f0.f2 (i * w) (mendL (fSh s n (win s.f0.f2 (i * w) w)))) := by
 obtain ⟨c, hc2⟩ : ∃ c : Nat, s.f2 = (c : Int) := ⟨s.f2.toNat, by omega⟩
 unfold fSh
 rw [hc2, f88 s.f0.f2 (i * w) w c n s.f4 hp (by omega) (by omega) (by omega) k (by omega)]
 simp only [Int.toNat_natCast]
theorem fSh_len {s : S34} {n : Int} {W : List S55} (h : s.f2.toNat ≤ W.length) : (fSh s n W).length = W.length := shift_len h
theorem pchars (s : S34) (h : Ok s) (n : Int) (k : Nat) (hk : 1100000 ≤ k) : F85Lb_0_.f k s n = some (dChars s n) := by
 obtain ⟨w, q, i, e0, e1, e2, a, b, c, d, hi, hl, hb, hp⟩ := h.mg.at
 have hc := cursor h
 unfold F85Lb_0_.f dChars
 rw [prow s w q i e0 e2 hl hb hi]
 simp only [Option.bind_some]
 rw [if_pos (by omega), pshift s h.mg ⟨hc.1, hc.2.1⟩ n w q i e0 e2 b hl hb hp k hk]
 simp only [Option.bind_some]
 have hw := wlen hp
 rw [if_pos (over_len2 (by rw [mend_len, fSh_len (by omega), hw]; exact hp)), onR_eq e0 e2]
theorem okRow {s : S34} (h : Ok s) {f : List S55 → List S55} (hm : Mg (onR s f)) : Ok { onR s f with f3 := false } := by
 have hc := cursor h
 exact ok_like h (like_cur (onR_like s f) s.f2 false) (mg_cur hm s.f2 false) ⟨hc.1, hc.2.1, fun q => by cases q⟩
theorem okChars {s : S34} (h : Ok s) (n : Int) : Ok (dChars s n) := by
 have hc := cursor h
 exact okRow h (shift_mg h.mg ⟨hc.1, hc.2.1⟩ n)
def fEr (s : S34) (a b : Int) : List S55 → List S55 := fun W => over W a.toNat (List.replicate (b.toNat - a.toNat) (blk s.f4))
def dWipe (s : S34) (n : Int) : S34 := { onR s (fEr s s.f2 (mv s.f2 n s.f2 s.f0.f0)) with f3 := false }
theorem fEr_len {s : S34} {a b : Int} {W : List S55} (h : a ≤ b) (h0 : 0 ≤ a) (h2 : b.toNat ≤ W.length) : (fEr s a b W).length = W.length := over_len2 (by rw [List.length_replicate]; omega)
theorem erase_mg {s : S34} (h : Mg s) {a b : Int} (h0 : 0 ≤ a) (h1 : a ≤ b) (h2 : b ≤ s.f0.f0) : Mg (onR s (fEr s a b)) := by
 refine onR_mg h (fun W hW hm => ⟨fEr_len h1 h0 (by omega), fun x hx => ?_⟩) (fun W hW => over_all hW rep_all)
 rcases over_mem hx with q | q
 ·exact hm x q
 ·rw [(List.mem_replicate.1 q).2]; exact may_blk h.y
theorem perase (X : List S55) (s : S34) (a b : Int) (h0 : 0 ≤ a) (h1 : a ≤ b) (w o : Nat) (h2 : b ≤ (w : Int)) (hp : o + w ≤ X.length) (hl : X.length ≤ 262144) (k : Nat) (hk : 1100000 ≤ k) :
  F129w0.f k X (o : Int) (w : Int) a b s.f4 = some (over X o (mendL (fEr s a b (win X o w)))) := by
 obtain ⟨a, rfl⟩ : ∃ c : Nat, a = (c : Int) := ⟨a.toNat, by omega⟩
 obtain ⟨b, rfl⟩ : ∃ c : Nat, b = (c : Int) := ⟨b.toNat, by omega⟩
 unfold fEr
 rw [f77 X o w a b s.f4 hp (by omega) (by omega) (by omega) k (by omega)]
 simp only [Int.toNat_natCast]
theorem pwipe (s : S34) (h : Ok s) (n : Int) (k : Nat) (hk : 1100000 ≤ k) : F95Lb_0_.f k s n = some (dWipe s n) := by
 obtain ⟨w, q, i, e0, e1, e2, a, b, c, d, hi, hl, hb, hp⟩ := h.mg.at
 have hc := cursor h
 have hm := mv_le (n := s.f2) (b := n) (lo := s.f2) (hi := s.f0.f0) (by omega)
 unfold F95Lb_0_.f dWipe
 rw [prow s w q i e0 e2 hl hb hi]
 simp only [Option.bind_some]
 rw [if_pos (by omega), f128]
 simp only [Option.bind_some]
 rw [cl_mv (by omega) (by omega) (by omega) (by omega) (by omega)]
 simp only [Option.bind_some]
 have hw := wlen hp
 rw [perase s.f0.f2 s s.f2 _ hc.1 hm.1 w (i * w) (by omega) hp (by omega) k hk]
 simp only [Option.bind_some]
 rw [if_pos (over_len2 (by rw [mend_len, fEr_len hm.1 hc.1 (by omega), hw]; exact hp)), onR_eq e0 e2]
theorem okWipe {s : S34} (h : Ok s) (n : Int) : Ok (dWipe s n) := by
 have hc := cursor h
 obtain ⟨w, q, e0, e1, _, _, _, _, _, _⟩ := h.size
 have hv := mv_le (n := s.f2) (b := n) (lo := s.f2) (hi := s.f0.f0) (by omega)
 exact okRow h (erase_mg h.mg hc.1 hv.1 hv.2)
theorem flat_len {w : Nat} {R : Nat → List S55} : ∀ (q : Nat), (∀ n, n < q → (R n).length = w) → ((List.range q).flatMap R).length = w * q
 | 0, _ => by simp
 | q + 1, h => by
  rw [List.range_succ, List.flatMap_append, List.length_append, flat_len q fun n hn => h n (by omega)]
  simp only [List.flatMap_cons, List.flatMap_nil, List.append_nil]
  rw [h q (by omega), Nat.mul_add, Nat.mul_one]
theorem win_flat {w : Nat} {R : Nat → List S55} : ∀ (q n : Nat), (∀ n, n < q → (R n).length = w) → n < q → win ((List.range q).flatMap R) (n * w) w = R n
 | 0, n, _, h => by omega
 | q + 1, n, h, hn => by
  have hl := flat_len q fun n hn => h n (by omega)
  rw [List.range_succ, List.flatMap_append]
  simp only [List.flatMap_cons, List.flatMap_nil, List.append_nil]
  have hR := h q (by omega)
  apply List.ext_getElem?
  intro j
  rw [win_get]
  by_cases hj : j < w
  ·rw [if_pos hj]
   by_cases hq : n < q
   ·have hp := place (w := w) hq
    have e := congrArg (·[j]?) (win_flat q n (fun n hn => h n (by omega)) hq)
    simp only [win_get, hj, if_true] at e
    rw [List.getElem?_append_left (by omega)]; exact e
   ·obtain rfl : n = q := by omega
    rw [List.getElem?_append_right (by rw [hl, Nat.mul_comm]; omega), hl]
    congr 1; rw [Nat.mul_comm]; omega
  ·rw [if_neg hj, List.getElem?_eq_none (by rw [h n hn]; omega)]
theorem is_flat {X : List S55} {w q : Nat} {R : Nat → List S55} (hl : X.length = w * q) (hR : ∀ n, n < q → (R n).length = w) (h : ∀ n, n < q → win X (n * w) w = R n) : X = (List.range q).flatMap R :=
 rows_ext hl (flat_len q hR) fun n hn => by rw [h n hn, win_flat q n hR hn]
theorem win_row {X R : List S55} {w q n r : Nat} (hl : X.length = w * q) (hn : n < q) (hr : r < q) (hR : R.length = w) : win (over X (n * w) R) (r * w) w = if r = n then R else win X (r * w) w := by
 have hp := place (w := w) hn
 split
 ·rename_i e; subst e; exact win_over hR (by omega)
 ·rename_i e
  refine win_over_out (by omega) hR ?_
  rcases Nat.lt_or_ge r n with z | z
  ·left; have := Nat.mul_le_mul_right w (show r + 1 ≤ n from z); rw [Nat.add_mul] at this; omega
  ·right; have := Nat.mul_le_mul_right w (show n + 1 ≤ r from by omega); rw [Nat.add_mul] at this; omega
def eAB (s : S34) (lines : Bool) (kind : Int) (n : Int) : Int × Int :=
 if n = s.f1 ∧ kind = 0 then (s.f2, s.f0.f0) else if n = s.f1 ∧ kind = 1 then (0, s.f2 + 1) else
 if (kind = 2 ∧ (lines = true ∨ n = s.f1)) ∨ (lines = true ∧ kind = 0 ∧ n > s.f1) ∨ (lines = true ∧ kind = 1 ∧ n < s.f1) then (0, s.f0.f0) else (0, 0)
theorem eAB_in {s : S34} (h : 0 ≤ s.f2 ∧ s.f2 < s.f0.f0) (lines : Bool) (kind n : Int) : 0 ≤ (eAB s lines kind n).1 ∧ (eAB s lines kind n).1 ≤ (eAB s lines kind n).2 ∧ (eAB s lines kind n).2 ≤ s.f0.f0 := by
 unfold eAB
 split
 ·exact ⟨by simp; omega, by simp; omega, by simp⟩
 ·split
  ·exact ⟨by simp, by simp; omega, by simp; omega⟩
  ·split
   ·exact ⟨by simp, by simp; omega, by simp⟩
   ·exact ⟨by simp, by simp, by simp; omega⟩
def eRow (s : S34) (lines : Bool) (kind : Int) (n : Nat) : List S55 :=
 mendL (fEr s (eAB s lines kind n).1 (eAB s lines kind n).2 (win s.f0.f2 (n * s.f0.f0.toNat) s.f0.f0.toNat))
def dErase (s : S34) (lines : Bool) (kind : Int) : S34 :=
 { s with f0 := S26.mk s.f0.f0 s.f0.f1 ((List.range s.f0.f1.toNat).flatMap (eRow s lines kind)), f3 := false }
theorem eRow_len {s : S34} {w q : Nat} (e0 : s.f0.f0 = (w : Int)) (hl : s.f0.f2.length = w * q) (hc : 0 ≤ s.f2 ∧ s.f2 < s.f0.f0) {lines : Bool} {kind : Int} {n : Nat} (hn : n < q) : (eRow s lines kind n).length = w := by
 have hp := place (w := w) hn
 have hi := eAB_in hc lines kind n
 unfold eRow
 rw [mend_len, e0, Int.toNat_natCast]
 have hw := wlen (xs := s.f0.f2) (o := n * w) (n := w) (by omega)
 rw [fEr_len hi.2.1 hi.1 (by omega), hw]
theorem fEr_none {s : S34} {W : List S55} : fEr s 0 0 W = W := by unfold fEr over; simp
theorem grid_rows {s : S34} (h : Mg s) {w q n : Nat} (e0 : s.f0.f0 = (w : Int)) (e1 : s.f0.f1 = (q : Int)) (hn : n < q) : RowG (win s.f0.f2 (n * w) w) := by
 obtain ⟨w', q', e0', e1', _, _, _, _, _, hr⟩ := (mayGrid_iff s.f0).1 h.g
 obtain rfl : w' = w := by omega
 obtain rfl : q' = q := by omega
 exact hr n hn
theorem okErase {s : S34} (h : Ok s) (lines : Bool) (kind : Int) : Ok (dErase s lines kind) := by
 obtain ⟨w, q, e0, e1, a, b, c, d, hl, hb⟩ := h.size
 have hc := cursor h
 have hm := h.mg
 refine ok_like h ⟨rfl, rfl, rfl, rfl, rfl, rfl, rfl, rfl, rfl, rfl, rfl, rfl, rfl⟩ ⟨?_, ?_, hm.y, hm.t0, hm.t1, hm.t2, hm.r0, hm.r1⟩ ⟨hc.1, hc.2.1, fun q => by cases q⟩
 ·rw [mayGrid_iff]
  refine ⟨w, q, e0, e1, a, b, c, d, ?_, fun r hr => ?_⟩
  ·show (List.flatMap _ _).length = _
   rw [e1, Int.toNat_natCast]; exact flat_len q fun r hr => eRow_len e0 hl ⟨hc.1, hc.2.1⟩ hr
  ·show RowG (win (List.flatMap _ _) (r * w) w)
   rw [e1, Int.toNat_natCast, win_flat q r (fun r hr => eRow_len e0 hl ⟨hc.1, hc.2.1⟩ hr) hr]
   unfold eRow
   refine mend_good fun x hx => ?_
   unfold fEr at hx
   rcases over_mem hx with z | z
   ·rw [e0, Int.toNat_natCast] at z
    exact (grid_rows h.mg e0 e1 hr).cells x z
   ·rw [(List.mem_replicate.1 z).2]; exact may_blk h.m.y
 ·intro x hx
  replace hx : x ∈ (List.range s.f0.f1.toNat).flatMap (eRow s lines kind) := hx
  simp only [List.mem_flatMap] at hx
  obtain ⟨r, _, hx⟩ := hx
  unfold eRow at hx
  exact mend_all (over_all (win_all h.b) rep_all) x hx
theorem l130 (s : S34) (w q b : Nat) (e0 : s.f0.f0 = (w : Int)) (hw5 : w ≤ 512) (hq5 : q ≤ 512) (hl : s.f0.f2.length = w * q) (hb : w * q ≤ 262144) (hbq : b ≤ q) : ∀ (m k n : Nat) (X : List S55), n + m = b → m + 1100000 < k → X.length = w * q →
  ∃ Y, F130Lb_0_.l0 s (b : Int) k (n : Int) X = some Y ∧ Y.length = w * q ∧ ∀ r, r < q → win Y (r * w) w = if n ≤ r ∧ r < b then mendL (fEr s 0 (w : Int) (win X (r * w) w)) else win X (r * w) w
 | _, 0, _, _, _, hk, _ => by omega
 | 0, k + 1, n, X, hn, hk, hX => ⟨X, by rw [F130Lb_0_.l0, if_pos (by omega), if_neg (by omega)], hX, fun r hr => by rw [if_neg (by omega)]⟩
 | m + 1, k + 1, n, X, hn, hk, hX => by
  have hp := place (w := w) (i := n) (q := q) (by omega)
  have hwX := wlen (xs := X) (o := n * w) (n := w) (by omega)
  have hRl : (mendL (fEr s 0 (w : Int) (win X (n * w) w))).length = w := by rw [mend_len, fEr_len (by omega) (by omega) (by omega), hwX]
  obtain ⟨Y, h1, h2, h3⟩ := l130 s w q b e0 hw5 hq5 hl hb hbq m k (n + 1) (over X (n * w) (mendL (fEr s 0 (w : Int) (win X (n * w) w)))) (by omega) (by omega) (by rw [over_len2 (by omega)]; exact hX)
  refine ⟨Y, ?_, h2, fun r hr => ?_⟩
  ·rw [F130Lb_0_.l0, if_pos (by omega), if_pos (by omega)]
   have hat := at135 { s with f0 := S26.mk s.f0.f0 s.f0.f1 X } w q n e0 hX hb (by omega)
   rw [show F135i34m0b_0_.f (S34.mk (S26.mk s.f0.f0 s.f0.f1 X) s.f1 s.f2 s.f3 s.f4 s.f5 s.f6 s.f7 s.f8 s.f9 s.f10 s.f11 s.f12 s.f13 s.f14 s.f15 s.f16 s.f17) (n : Int) = _ from hat]
   simp only [Option.bind_some]
   rw [if_pos (by omega), e0, perase X s 0 (w : Int) (by omega) (by omega) w (n * w) (by omega) (by omega) (by omega) k (by omega)]
   simp only [Option.bind_some, lt]
   rw [if_pos (over_len2 (by omega)), w64 (by omega) (by omega)]
   exact h1
  ·rw [h3 r hr, win_row hX (by omega) hr hRl]
   by_cases z : r = n
   ·subst z; rw [if_neg (by omega), if_pos rfl, if_pos (by omega)]
   ·rw [if_neg z]
    by_cases z2 : n + 1 ≤ r ∧ r < b
    ·rw [if_pos z2, if_pos (by omega)]
    ·rw [if_neg z2, if_neg (by omega)]
theorem f130 (s : S34) (w q a b : Nat) (e0 : s.f0.f0 = (w : Int)) (hw5 : w ≤ 512) (hq5 : q ≤ 512) (hl : s.f0.f2.length = w * q) (hb : w * q ≤ 262144) (hbq : b ≤ q) (k : Nat) (hk : 1200000 ≤ k) :
  ∃ Y, F130Lb_0_.f k s (a : Int) (b : Int) = some { s with f0 := S26.mk s.f0.f0 s.f0.f1 Y } ∧ Y.length = w * q ∧ ∀ r, r < q → win Y (r * w) w = if a ≤ r ∧ r < b then mendL (fEr s 0 (w : Int) (win s.f0.f2 (r * w) w)) else win s.f0.f2 (r * w) w := by
 obtain ⟨k, rfl⟩ : ∃ j, k = j + 1 := ⟨k - 1, by omega⟩
 by_cases hab : a ≤ b
 ·obtain ⟨Y, h1, h2, h3⟩ := l130 s w q b e0 hw5 hq5 hl hb hbq (b - a) (k + 1) a s.f0.f2 (by omega) (by omega) hl
  exact ⟨Y, by unfold F130Lb_0_.f; rw [h1]; simp only [Option.bind_some]; rw [if_pos (by omega)], h2, h3⟩
 ·refine ⟨s.f0.f2, ?_, hl, fun r hr => by rw [if_neg (by omega)]⟩
  unfold F130Lb_0_.f
  rw [F130Lb_0_.l0, if_pos rfl, if_neg (by omega)]
  simp
theorem perases (s : S34) (h : Ok s) (lines : Bool) (kind : Int) (k : Nat) (hk : 1200000 ≤ k) : F81Lb_0_.f k s lines kind = some (dErase s lines kind) := by
 obtain ⟨w, q, i, e0, e1, e2, a, b, c, d, hi, hl, hb, hp⟩ := h.mg.at
 have hc := cursor h
 have hpair : ∃ A B ab be : Nat, (∀ (G : Int × Int × Int × Int → Option S34), (if kind = 0 then (some (s.f2, s.f0.f0, 0, s.f0.f1)) else (if kind = 1 then (lt (IntKind.i64.wrap (s.f2 + 1)) fun n1273 => some (0, n1273, s.f1, 0)) else (if kind = 2 then (some (0, s.f0.f0, s.f1, s.f0.f1)) else (some (0, 0, 0, 0)))) : Option (Int × Int × Int × Int)).bind G = G ((A : Int), (B : Int), (ab : Int), (be : Int))) ∧
   eAB s lines kind (i : Int) = ((A : Int), (B : Int)) ∧ ab ≤ i ∧ be ≤ q ∧ (∀ r : Nat, r < q → r ≠ i → eAB s lines kind (r : Int) = if lines = true ∧ (r < ab ∨ (i + 1 ≤ r ∧ r < be)) then (0, (w : Int)) else (0, 0)) := by
  unfold eAB
  rw [w64 (x := s.f2 + 1) (by omega) (by omega), e2]
  obtain ⟨cc, hcc⟩ : ∃ cc : Nat, s.f2 = (cc : Int) := ⟨s.f2.toNat, by omega⟩
  by_cases k0 : kind = 0
  ·refine ⟨cc, w, 0, q, fun G => by simp [k0, hcc, e0, e1], by simp [k0, hcc, e0], by omega, by omega, fun r hr hri => ?_⟩
   by_cases z : r > i
   ·cases lines <;> simp [k0, e0, z, show ¬ (r : Int) = (i : Int) from by omega, show (r : Int) > (i : Int) from by omega, show i + 1 ≤ r from z, hr]
   ·cases lines <;> simp [k0, e0, show ¬ (r : Int) = (i : Int) from by omega, show ¬ (r : Int) > (i : Int) from by omega, show ¬ i + 1 ≤ r from z]; try omega
  ·by_cases k1 : kind = 1
   ·refine ⟨0, cc + 1, i, 0, fun G => by simp [k1, hcc, lt], by simp [k1, hcc], by omega, by omega, fun r hr hri => ?_⟩
    by_cases z : r < i
    ·cases lines <;> simp [k1, e0, z, show ¬ (r : Int) = (i : Int) from by omega, show (r : Int) < (i : Int) from by omega]
    ·cases lines <;> simp [k1, e0, z, show ¬ (r : Int) = (i : Int) from by omega, show ¬ (r : Int) < (i : Int) from by omega]; try omega
   ·by_cases k2 : kind = 2
    ·refine ⟨0, w, i, q, fun G => by simp [k2, e0, e1], by simp [k2, e0], by omega, by omega, fun r hr hri => ?_⟩
     cases lines
     ·simp [k2, e0, show ¬ (r : Int) = (i : Int) from by omega]
     ·have : r < i ∨ (i + 1 ≤ r ∧ r < q) := by omega
      simp [k2, e0, this, show ¬ (r : Int) = (i : Int) from by omega]
    ·exact ⟨0, 0, 0, 0, fun G => by simp [k0, k1, k2], by simp [k0, k1, k2], by omega, by omega, fun r hr hri => by simp [k0, k1, k2]⟩
 obtain ⟨A, B, ab, be, hG, hE, hab, hbe, hO⟩ := hpair
 have hin := eAB_in ⟨hc.1, hc.2.1⟩ lines kind (i : Int)
 rw [hE] at hin
 simp only at hin
 unfold F81Lb_0_.f
 rw [hG, prow s w q i e0 e2 hl hb hi]
 simp only [Option.bind_some]
 have hwX := wlen hp
 have hRl : (mendL (fEr s (A : Int) (B : Int) (win s.f0.f2 (i * w) w))).length = w := by rw [mend_len, fEr_len (by omega) (by omega) (by omega), hwX]
 have hXl : (over s.f0.f2 (i * w) (mendL (fEr s (A : Int) (B : Int) (win s.f0.f2 (i * w) w)))).length = w * q := by rw [over_len2 (by omega)]; exact hl
 rw [if_pos (by omega), perase s.f0.f2 s (A : Int) (B : Int) (by omega) (by omega) w (i * w) (by omega) hp (by omega) k (by omega)]
 simp only [Option.bind_some]
 rw [if_pos (by omega)]
 generalize hX1 : over s.f0.f2 (i * w) (mendL (fEr s (A : Int) (B : Int) (win s.f0.f2 (i * w) w))) = X1 at hXl
 have hw1 : ∀ r, r < q → win X1 (r * w) w = if r = i then mendL (fEr s (A : Int) (B : Int) (win s.f0.f2 (i * w) w)) else win s.f0.f2 (r * w) w := fun r hr => by rw [← hX1]; exact win_row hl hi hr hRl
 have fin : ∀ Y : List S55, Y.length = w * q → (∀ r, r < q → win Y (r * w) w = eRow s lines kind r) → ({ s with f0 := S26.mk s.f0.f0 s.f0.f1 Y, f3 := false } : S34) = dErase s lines kind := fun Y hY hw => by
  unfold dErase
  rw [e1, Int.toNat_natCast, ← is_flat hY (fun r hr => eRow_len e0 hl ⟨hc.1, hc.2.1⟩ hr) hw]
 have hself : ∀ r, r < q → r ≠ i → eAB s lines kind (r : Int) = (0, 0) → win s.f0.f2 (r * w) w = eRow s lines kind r := fun r hr hri he => by
  unfold eRow
  rw [he, fEr_none, e0, Int.toNat_natCast, mend_id (grid_rows h.mg e0 e1 hr)]
 have hrow : mendL (fEr s (A : Int) (B : Int) (win s.f0.f2 (i * w) w)) = eRow s lines kind i := by
  unfold eRow; rw [hE, e0, Int.toNat_natCast]
 cases lines
 ·simp only [Bool.false_eq_true, if_false, Option.bind_some]
  refine congrArg some (fin X1 hXl fun r hr => ?_)
  rw [hw1 r hr]
  by_cases z : r = i
  ·subst z; rw [if_pos rfl]; exact hrow
  ·rw [if_neg z]; exact hself r hr z (by rw [hO r hr z]; simp)
 ·simp only [if_true]
  obtain ⟨Y, y1, y2, y3⟩ := f130 { s with f0 := S26.mk s.f0.f0 s.f0.f1 X1 } w q 0 ab e0 b d hXl hb (by omega) k hk
  rw [show F130Lb_0_.f k (S34.mk (S26.mk s.f0.f0 s.f0.f1 X1) s.f1 s.f2 s.f3 s.f4 s.f5 s.f6 s.f7 s.f8 s.f9 s.f10 s.f11 s.f12 s.f13 s.f14 s.f15 s.f16 s.f17) 0 (ab : Int) = _ from y1]
  simp only [Option.bind_some]
  rw [show IntKind.i64.wrap (s.f1 + 1) = ((i + 1 : Nat) : Int) from by rw [e2, w64 (by omega) (by omega)]; rfl]
  obtain ⟨Z, z1, z2, z3⟩ := f130 { s with f0 := S26.mk s.f0.f0 s.f0.f1 Y } w q (i + 1) be e0 b d y2 hb hbe k hk
  rw [show F130Lb_0_.f k (S34.mk (S26.mk s.f0.f0 s.f0.f1 Y) s.f1 s.f2 s.f3 s.f4 s.f5 s.f6 s.f7 s.f8 s.f9 s.f10 s.f11 s.f12 s.f13 s.f14 s.f15 s.f16 s.f17) ((i + 1 : Nat) : Int) (be : Int) = _ from z1]
  simp only [Option.bind_some]
  refine congrArg some (fin Z z2 fun r hr => ?_)
  have y3' := y3 r hr
  have z3' := z3 r hr
  replace y3' : win Y (r * w) w = if 0 ≤ r ∧ r < ab then mendL (fEr s 0 (w : Int) (win X1 (r * w) w)) else win X1 (r * w) w := y3'
  replace z3' : win Z (r * w) w = if i + 1 ≤ r ∧ r < be then mendL (fEr s 0 (w : Int) (win Y (r * w) w)) else win Y (r * w) w := z3'
  rw [z3', y3', hw1 r hr]
  have hfull : eAB s true kind (r : Int) = (0, (w : Int)) → mendL (fEr s 0 (w : Int) (win s.f0.f2 (r * w) w)) = eRow s true kind r := fun he => by
   unfold eRow; rw [he, e0, Int.toNat_natCast]
  by_cases z : r = i
  ·subst z
   rw [if_neg (by omega), if_neg (by omega), if_pos rfl]; exact hrow
  ·rw [if_neg z]
   have ho := hO r hr z
   by_cases c1 : r < ab
   ·rw [if_neg (by omega), if_pos (by omega)]
    exact hfull (by rw [ho, if_pos ⟨rfl, .inl c1⟩])
   ·rw [if_neg (c := 0 ≤ r ∧ r < ab) (by omega)]
    by_cases c2 : i + 1 ≤ r ∧ r < be
    ·rw [if_pos c2]
     exact hfull (by rw [ho, if_pos ⟨rfl, .inr c2⟩])
    ·rw [if_neg c2]
     exact hself r hr z (by rw [ho, if_neg (by rintro ⟨_, z⟩; omega)])
end Go.Proofs.YtckilbegmbaeeaaGreat.Z4Sc

import Derived.Test.YtckilbegmbaeeaaGreatZ4Dr
namespace Go.Proofs.YtckilbegmbaeeaaGreat.Z4Sp
open Go Go.RowKit Go.Proofs.YtckilbegmbaeeaaGreat.SL Go.Proofs.YtckilbegmbaeeaaGreat.Z4 Go.Proofs.YtckilbegmbaeeaaGreat.Z4May Go.Proofs.YtckilbegmbaeeaaGreat.Z4Ls Go.Proofs.YtckilbegmbaeeaaGreat.Z4Op
set_option linter.unusedVariables false
set_option linter.unusedSimpArgs false
def rowG (W : List S55) (j : Nat) : Prop :=
 mayCell (rd W (j : Int)) = true ∧ ((rd W (j : Int)).f2 = 0 ↔ (0 < j ∧ (rd W ((j - 1 : Nat) : Int)).f2 = 2)) ∧
  ((0 < j ∧ (rd W ((j - 1 : Nat) : Int)).f2 = 2) → (rd W (j : Int)).f3 = (rd W ((j - 1 : Nat) : Int)).f3) ∧ ¬ ((rd W (j : Int)).f2 = 2 ∧ j = W.length - 1)
def RowG (W : List S55) : Prop := ∀ j, j < W.length → rowG W j
theorem okR_row (g : S26) (w i j : Nat) (hj : j < w) (hl : i * w + w ≤ g.f2.length) : okR g w (i * w + j) = true ↔ rowG (win g.f2 (i * w) w) j := by
 rw [okR_iff]; unfold rowG
 have hm : (i * w + j) % w = j := by rw [Nat.mul_comm, Nat.mul_add_mod, Nat.mod_eq_of_lt hj]
 have e1 : rd (win g.f2 (i * w) w) (j : Int) = rd g.f2 ((i * w + j : Nat) : Int) := by rw [rd_win hj hl]; congr 1
 rw [hm, wlen hl, e1]
 by_cases h0 : j = 0
 ·subst h0; simp
 ·have e2 : rd (win g.f2 (i * w) w) ((j - 1 : Nat) : Int) = rd g.f2 ((i * w + j - 1 : Nat) : Int) := by
   rw [rd_win (by omega) hl, show i * w + j - 1 = i * w + (j - 1) from by omega]; congr 1
  rw [e2]
theorem mayGrid_iff (g : S26) : mayGrid g = true ↔ ∃ w q : Nat, g.f0 = (w : Int) ∧ g.f1 = (q : Int) ∧ 0 < w ∧ w ≤ 512 ∧ 0 < q ∧ q ≤ 512 ∧ g.f2.length = w * q ∧ ∀ i, i < q → RowG (win g.f2 (i * w) w) := by
 constructor
 ·intro h
  obtain ⟨w, q, e0, e1, a, b, c, d, hl, _⟩ := may_size h
  refine ⟨w, q, e0, e1, a, b, c, d, hl, fun i hi j hj => ?_⟩
  have hp := place (w := w) hi
  rw [wlen (by omega)] at hj
  unfold mayGrid at h
  simp only [Bool.and_eq_true, List.all_eq_true, List.mem_range] at h
  have := h.2 (i * w + j) (by omega)
  rw [e0, Int.toNat_natCast] at this
  exact (okR_row g w i j hj (by omega)).1 this
 ·rintro ⟨w, q, e0, e1, a, b, c, d, hl, hr⟩
  unfold mayGrid
  simp only [Bool.and_eq_true, List.all_eq_true, List.mem_range, decide_eq_true_eq]
  refine ⟨⟨by omega, by omega, by omega, by omega, by rw [hl, e0, e1]; simp⟩, fun n hn => ?_⟩
  rw [e0, Int.toNat_natCast]
  have h1 := Nat.mod_lt n a
  have h2 := Nat.div_add_mod n w
  have h3 : n / w < q := Nat.div_lt_of_lt_mul (by omega)
  have hp := place (w := w) h3
  have h4 : n = n / w * w + n % w := by rw [Nat.mul_comm]; omega
  rw [h4]
  exact (okR_row g w (n / w) (n % w) h1 (by omega)).2 (hr _ h3 _ (by rw [wlen (by omega)]; exact h1))
theorem mem_rd {l : List S55} {x : S55} (h : x ∈ l) : ∃ i, i < l.length ∧ rd l (i : Int) = x := by
 obtain ⟨i, hi, e⟩ := List.getElem_of_mem h
 exact ⟨i, hi, by rw [rd_lt hi, e]⟩
theorem rd_mem {l : List S55} {i : Nat} (h : i < l.length) : rd l (i : Int) ∈ l := by rw [rd_lt h]; exact List.getElem_mem h
theorem RowG.cells {W : List S55} (h : RowG W) : ∀ x ∈ W, mayCell x = true := fun x hx => by
 obtain ⟨i, hi, e⟩ := mem_rd hx
 rw [← e]; exact (h i hi).1
theorem wid32 : wid 32 = 1 := by kernel_rfl
theorem may_blk {s : S28} (h : mayStyle s = true) : mayCell (blk s) = true := by
 have h1 : colOk s.f1 = true := by unfold mayStyle at h; simp only [Bool.and_eq_true] at h; exact h.2
 have h2 : mayStyle (S28.mk (-1) s.f1 false false false false false false false false) = true := by unfold mayStyle; rw [h1]; rfl
 unfold mayCell blk
 simp only [h2, wid32]
 simp [marksOk]
theorem may_style {x : S55} (h : mayCell x = true) : mayStyle x.f3 = true := by
 unfold mayCell at h
 cases hs : mayStyle x.f3
 ·rw [hs] at h; simp at h
 ·rfl
theorem mend_good {W : List S55} (h : ∀ x ∈ W, mayCell x = true) : RowG (mendL W) := by
 intro j hj
 rw [mend_len] at hj
 have key : ∀ i, i < W.length → mayCell (mendAt W i) = true := fun i hi => by
  have hm := h _ (rd_mem hi)
  unfold mendAt; split
  ·exact may_blk (may_style hm)
  ·exact hm
 have b2 : ∀ i, i < W.length → ((mendAt W i).f2 = 2 ↔ (rd W (i : Int)).f2 = 2 ∧ isW W ((i : Int) + 1) 0 (rd W (i : Int)).f3 = true) := fun i hi => by
  unfold mendAt badAt
  by_cases c1 : (rd W (i : Int)).f2 = 2
  ·cases c2 : isW W ((i : Int) + 1) 0 (rd W (i : Int)).f3 <;> simp [c1, blk]
  ·cases c2 : isW W ((i : Int) - 1) 2 (rd W (i : Int)).f3 <;> by_cases c3 : (rd W (i : Int)).f2 = 0 <;> simp [c1, c3, blk]
 have b0 : ∀ i, i < W.length → ((mendAt W i).f2 = 0 ↔ (rd W (i : Int)).f2 = 0 ∧ isW W ((i : Int) - 1) 2 (rd W (i : Int)).f3 = true) := fun i hi => by
  unfold mendAt badAt
  by_cases c1 : (rd W (i : Int)).f2 = 0
  ·cases c2 : isW W ((i : Int) - 1) 2 (rd W (i : Int)).f3 <;> simp [c1, blk]
  ·cases c2 : isW W ((i : Int) + 1) 0 (rd W (i : Int)).f3 <;> by_cases c3 : (rd W (i : Int)).f2 = 2 <;> simp [c1, c3, blk]
 have k2 : ∀ i, (mendAt W i).f2 = 2 → mendAt W i = rd W (i : Int) := fun i hi => by
  unfold mendAt at hi ⊢; split
  ·rename_i q; rw [if_pos q] at hi; simp [blk] at hi
  ·rfl
 have k0 : ∀ i, (mendAt W i).f2 = 0 → mendAt W i = rd W (i : Int) := fun i hi => by
  unfold mendAt at hi ⊢; split
  ·rename_i q; rw [if_pos q] at hi; simp [blk] at hi
  ·rfl
 unfold rowG
 rw [mend_rd hj, mend_len]
 refine ⟨key j hj, ?_, ?_, ?_⟩
 ·rw [b0 j hj]
  constructor
  ·rintro ⟨c1, c2⟩
   unfold isW at c2
   simp only [decide_eq_true_eq] at c2
   obtain ⟨d1, d2, d3, d4⟩ := c2
   have d0 : 0 < j := by omega
   have ej : (j : Int) - 1 = ((j - 1 : Nat) : Int) := by omega
   rw [ej] at d3 d4
   refine ⟨d0, ?_⟩
   rw [mend_rd (by omega), b2 _ (by omega)]
   refine ⟨d3, ?_⟩
   unfold isW
   rw [show ((j - 1 : Nat) : Int) + 1 = (j : Int) from by omega]
   simp only [decide_eq_true_eq]
   exact ⟨by omega, by omega, c1, d4.symm⟩
  ·rintro ⟨d0, c⟩
   rw [mend_rd (by omega), b2 _ (by omega)] at c
   obtain ⟨c1, c2⟩ := c
   unfold isW at c2
   rw [show ((j - 1 : Nat) : Int) + 1 = (j : Int) from by omega] at c2
   simp only [decide_eq_true_eq] at c2
   obtain ⟨e1, e2, e3, e4⟩ := c2
   refine ⟨e3, ?_⟩
   unfold isW
   rw [show (j : Int) - 1 = ((j - 1 : Nat) : Int) from by omega]
   simp only [decide_eq_true_eq]
   exact ⟨by omega, by omega, c1, e4.symm⟩
 ·rintro ⟨d0, c⟩
  rw [mend_rd (by omega)] at c ⊢
  have c' := (b2 _ (by omega)).1 c
  rw [k2 _ c]
  obtain ⟨c1, c2⟩ := c'
  unfold isW at c2
  rw [show ((j - 1 : Nat) : Int) + 1 = (j : Int) from by omega] at c2
  simp only [decide_eq_true_eq] at c2
  obtain ⟨e1, e2, e3, e4⟩ := c2
  have z : (mendAt W j).f2 = 0 := by
   rw [b0 j hj]; refine ⟨e3, ?_⟩
   unfold isW
   rw [show (j : Int) - 1 = ((j - 1 : Nat) : Int) from by omega]
   simp only [decide_eq_true_eq]
   exact ⟨by omega, by omega, c1, e4.symm⟩
  rw [k0 _ z]; exact e4
 ·rintro ⟨c, e⟩
  rw [b2 j hj] at c
  have c2 := c.2
  unfold isW at c2
  simp only [decide_eq_true_eq] at c2
  omega
theorem over_mem {xs ys : List S55} {o : Nat} {x : S55} (h : x ∈ over xs o ys) : x ∈ xs ∨ x ∈ ys := by
 unfold over at h
 simp only [List.mem_append] at h
 rcases h with (h | h) | h
 ·exact .inl (List.mem_of_mem_take h)
 ·exact .inr h
 ·exact .inl (List.mem_of_mem_drop h)
theorem slide_mem {W : List S55} {d : Int} {b x : S55} (h : x ∈ slide W d b) : x ∈ W ∨ x = b := by
 unfold slide at h
 simp only [List.mem_map, List.mem_range] at h
 obtain ⟨j, hj, e⟩ := h
 split at e
 ·rename_i q
  rw [← e, List.getD_eq_getElem?_getD, List.getElem?_eq_getElem (by omega)]
  exact .inl (List.getElem_mem _)
 ·exact .inr e.symm
theorem onRow_may {g : S26} {row : Int} {s : S28} {f : List S55 → List S55} (h : rowOk g row s = true) (hf : ∀ W : List S55, W.length = g.f0.toNat → (∀ x ∈ W, mayCell x = true) → (f W).length = W.length ∧ ∀ x ∈ f W, mayCell x = true) : mayGrid (onRow g row f).1 = true := by
 have hm : mayGrid g = true := by unfold rowOk at h; simp only [Bool.and_eq_true] at h; exact h.1
 obtain ⟨w, q, e0, e1, a, b, c, d, hl, hr⟩ := (mayGrid_iff g).1 hm
 obtain ⟨w', q', i, e0', e1', rfl, _, _, _, hi', hl', hb, hp⟩ := rowOk_size h
 obtain rfl : w' = w := by omega
 obtain rfl : q' = q := by omega
 unfold onRow
 rw [e0] at hf ⊢
 simp only [Int.toNat_natCast] at hf ⊢
 have hw := wlen (xs := g.f2) hp
 obtain ⟨f1, f2⟩ := hf _ hw (hr i hi').cells
 have hR : (mendL (f (win g.f2 (i * w') w'))).length = w' := by rw [mend_len, f1, hw]
 rw [mayGrid_iff]
 refine ⟨w', q', rfl, e1, a, b, c, d, by rw [over_len2 (by omega)]; exact hl, fun j hj => ?_⟩
 by_cases hij : j = i
 ·subst hij
  show RowG (win (over g.f2 (j * w') _) (j * w') w')
  rw [win_over hR hp]
  exact mend_good f2
 ·show RowG (win (over g.f2 (i * w') _) (j * w') w')
  rw [win_over_out hp hR]
  ·exact hr j hj
  ·rcases Nat.lt_or_ge j i with z | z
   ·left; have := Nat.mul_le_mul_right w' (show j + 1 ≤ i from z); rw [Nat.add_mul] at this; omega
   ·right; have := Nat.mul_le_mul_right w' (show i + 1 ≤ j from by omega); rw [Nat.add_mul] at this; omega
theorem blank_good (n : Nat) {s : S28} (h : mayStyle s = true) : RowG (List.replicate n (blk s)) := by
 intro j hj
 rw [List.length_replicate] at hj
 have e : ∀ i, i < n → rd (List.replicate n (blk s)) (i : Int) = blk s := fun i hi => by rw [rd_lt (by simpa using hi)]; simp
 unfold rowG
 rw [e j hj]
 refine ⟨may_blk h, ?_, ?_, ?_⟩
 ·constructor
  ·intro z; simp [blk] at z
  ·rintro ⟨z, y⟩; rw [e _ (by omega)] at y; simp [blk] at y
 ·rintro ⟨z, y⟩; rw [e _ (by omega)] at y; simp [blk] at y
 ·rintro ⟨z, _⟩; simp [blk] at z
theorem slide_row {W : List S55} {w h p : Nat} {d : Int} {b : S55} (hl : W.length = h * w) (hp : p < h) :
  win (slide W (d * (w : Int)) b) (p * w) w = if 0 ≤ (p : Int) + d ∧ (p : Int) + d < (h : Int) then win W (((p : Int) + d).toNat * w) w else List.replicate w b := by
 have hpw := place (w := w) hp
 rw [Nat.mul_comm w h, ← hl] at hpw
 apply List.ext_getElem?
 intro c
 rw [win_get]
 by_cases hc : c < w
 ·rw [if_pos hc, slide_get (by omega)]
  have e : ((p * w + c : Nat) : Int) + d * (w : Int) = ((p : Int) + d) * (w : Int) + (c : Int) := by rw [Int.add_mul]; push_cast; omega
  rw [e, hl, show ((h * w : Nat) : Int) = (h : Int) * (w : Int) from by simp]
  have r1 := row_lo (p := (p : Int) + d) hc
  have r2 := row_hi (p := (p : Int) + d) (h := (h : Int)) hc
  by_cases q : 0 ≤ (p : Int) + d ∧ (p : Int) + d < (h : Int)
  ·rw [if_pos ⟨r1.2 q.1, r2.2 q.2⟩, if_pos q, win_get, if_pos hc]
   obtain ⟨z, hz⟩ : ∃ z : Nat, (p : Int) + d = (z : Int) := ⟨((p : Int) + d).toNat, by omega⟩
   rw [hz] at q ⊢
   have hz2 := place (w := w) (show z < h by omega)
   rw [Nat.mul_comm w h, ← hl] at hz2
   rw [show ((z : Int) * (w : Int) + (c : Int)).toNat = z * w + c from by rw [show (z : Int) * (w : Int) + (c : Int) = ((z * w + c : Nat) : Int) from by simp]; exact Int.toNat_natCast _, Int.toNat_natCast, List.getD_eq_getElem?_getD, List.getElem?_eq_getElem (show z * w + c < W.length by omega)]
   rfl
  ·rw [if_neg (fun z => q ⟨r1.1 z.1, r2.1 z.2⟩), if_neg q, List.getElem?_replicate, if_pos hc]
 ·rw [if_neg hc]
  split
  ·rw [win_get, if_neg hc]
  ·rw [List.getElem?_replicate, if_neg hc]
theorem scroll_may {g : S26} {t u d : Int} {s : S28} (h : (sScroll g t u d s).2 = 0) : mayGrid (sScroll g t u d s).1 = true := by
 unfold sScroll at h ⊢
 split
 ·rename_i h
  have hs : mayStyle s = true := by unfold scrollOk at h; simp only [Bool.and_eq_true] at h; exact h.2.2.2.2
  have hm : mayGrid g = true := by unfold scrollOk at h; simp only [Bool.and_eq_true] at h; exact h.1
  obtain ⟨w, q, e0, e1, a, b, c, d', hl, hr⟩ := (mayGrid_iff g).1 hm
  obtain ⟨w', q', i, j, e0', e1', rfl, rfl, _, _, _, hij, hj, hl', hb⟩ := scrollOk_size h
  obtain rfl : w' = w := by omega
  obtain rfl : q' = q := by omega
  rw [e0]
  simp only [Int.toNat_natCast]
  have hm2 : i * w' + (j + 1 - i) * w' ≤ w' * q' := by
   rw [← Nat.add_mul, Nat.mul_comm w' q']
   exact Nat.mul_le_mul_right _ (by omega)
  have hW := wlen (xs := g.f2) (o := i * w') (n := (j + 1 - i) * w') (by omega)
  have hS : (slide (win g.f2 (i * w') ((j + 1 - i) * w')) (d * (w' : Int)) (blk s)).length = (j + 1 - i) * w' := by rw [slide_len, hW]
  have hgood : ∀ p, p < j + 1 - i → RowG (win (slide (win g.f2 (i * w') ((j + 1 - i) * w')) (d * (w' : Int)) (blk s)) (p * w') w') := fun p hp => by
   rw [slide_row hW hp]
   split
   ·rename_i z
    obtain ⟨y, hy⟩ : ∃ y : Nat, (p : Int) + d = (y : Int) := ⟨((p : Int) + d).toNat, by omega⟩
    rw [hy] at z ⊢
    rw [Int.toNat_natCast]
    have hy2 := place (w := w') (show y < j + 1 - i by omega)
    rw [Nat.mul_comm w' (j + 1 - i)] at hy2
    have : win (win g.f2 (i * w') ((j + 1 - i) * w')) (y * w') w' = win g.f2 ((i + y) * w') w' := by
     apply List.ext_getElem?
     intro c'
     rw [win_get, win_get, win_get]
     by_cases hc : c' < w'
     ·rw [if_pos hc, if_pos (by omega), if_pos hc, Nat.add_mul]; congr 1; omega
     ·rw [if_neg hc, if_neg hc]
    rw [this]
    exact hr _ (by omega)
   ·exact blank_good w' hs
  generalize slide (win g.f2 (i * w') ((j + 1 - i) * w')) (d * (w' : Int)) (blk s) = R at hS hgood
  rw [mayGrid_iff]
  refine ⟨w', q', rfl, e1, a, b, c, d', by rw [over_len2 (by omega)]; exact hl, fun p hp => ?_⟩
  show RowG (win (over g.f2 (i * w') R) (p * w') w')
  have hpp := place (w := w') hp
  by_cases c1 : p < i
  ·have e : win (over g.f2 (i * w') R) (p * w') w' = win g.f2 (p * w') w' := by
    have := Nat.mul_le_mul_right w' (show p + 1 ≤ i from c1)
    rw [Nat.add_mul] at this
    apply List.ext_getElem?
    intro c'
    rw [win_get, win_get, over_get (by omega)]
    by_cases hc : c' < w'
    ·rw [if_pos hc, if_pos hc, if_pos (by omega)]
    ·rw [if_neg hc, if_neg hc]
   rw [e]; exact hr p hp
  ·by_cases c2 : p ≤ j
   ·have e : win (over g.f2 (i * w') R) (p * w') w' = win R ((p - i) * w') w' := by
     have e1 : p * w' = i * w' + (p - i) * w' := by rw [← Nat.add_mul]; congr 1; omega
     have e2 := place (w := w') (show p - i < j + 1 - i by omega)
     rw [Nat.mul_comm w' (j + 1 - i)] at e2
     apply List.ext_getElem?
     intro c'
     rw [win_get, win_get, over_get (by omega)]
     by_cases hc : c' < w'
     ·rw [if_pos hc, if_pos hc, if_neg (by omega), if_pos (by omega)]; congr 1; omega
     ·rw [if_neg hc, if_neg hc]
    rw [e]; exact hgood _ (by omega)
   ·have e : win (over g.f2 (i * w') R) (p * w') w' = win g.f2 (p * w') w' := by
     have := Nat.mul_le_mul_right w' (show j + 1 ≤ p by omega)
     have e1 : i * w' + (j + 1 - i) * w' = (j + 1) * w' := by rw [← Nat.add_mul]; congr 1; omega
     apply List.ext_getElem?
     intro c'
     rw [win_get, win_get, over_get (by omega)]
     by_cases hc : c' < w'
     ·rw [if_pos hc, if_pos hc, if_neg (by omega), if_neg (by omega)]
     ·rw [if_neg hc, if_neg hc]
    rw [e]; exact hr p hp
 ·rename_i q; rw [if_neg q] at h; simp [no] at h
theorem res_may {X : List S55} {w w' q q' : Nat} (hX : ∀ i, i < q → ∀ x ∈ win X (i * w) w, mayCell x = true) : ∀ (n i : Nat) (Z : List S55), i + n ≤ q' → i + n ≤ q → Z.length = w' * q' → (∀ p, p < q' → RowG (win Z (p * w') w')) → ∀ p, p < q' → RowG (win (resL X w w' n i Z) (p * w') w')
 | 0, i, Z, _, _, hl, h, p, hp => h p hp
 | n + 1, i, Z, h1, h2, hl, h, p, hp => by
  have hi := place (w := w') (i := i) (q := q') (by omega)
  have ht : ((win X (i * w) w).take w').length ≤ w' := by rw [List.length_take]; omega
  have hR : (mendL (over (win Z (i * w') w') 0 ((win X (i * w) w).take w'))).length = w' := by rw [mend_len, over_len2 (by rw [wlen (by omega)]; omega), wlen (by omega)]
  rw [resL]
  refine res_may hX n (i + 1) _ (by omega) (by omega) (by rw [res_step (by omega)]; exact hl) (fun r hr => ?_) p hp
  by_cases hir : r = i
  ·subst hir
   rw [win_over hR (by omega)]
   refine mend_good fun x hx => ?_
   rcases over_mem hx with z | z
   ·exact (h r hr).cells x z
   ·exact hX r (by omega) x (List.mem_of_mem_take z)
  ·rw [win_over_out (by omega) hR]
   ·exact h r hr
   ·rcases Nat.lt_or_ge r i with z | z
    ·left; have := Nat.mul_le_mul_right w' (show r + 1 ≤ i from z); rw [Nat.add_mul] at this; omega
    ·right; have := Nat.mul_le_mul_right w' (show i + 1 ≤ r from by omega); rw [Nat.add_mul] at this; omega
theorem blanks_row {w q p : Nat} {b : S55} (hp : p < q) : win (List.replicate (w * q) b) (p * w) w = List.replicate w b := by
 have := place (w := w) hp
 apply List.ext_getElem?
 intro c
 rw [win_get, List.getElem?_replicate, List.getElem?_replicate]
 by_cases hc : c < w
 ·rw [if_pos hc, if_pos hc, if_pos (by omega)]
 ·rw [if_neg hc, if_neg hc]
theorem resize_may {g : S26} {c r : Int} {s : S28} (h : (sResize g c r s).2 = 0) : mayGrid (sResize g c r s).1 = true := by
 unfold sResize at h ⊢
 split
 ·rename_i h
  simp only [Bool.and_eq_true] at h
  obtain ⟨hm, hs, hy⟩ := h
  obtain ⟨w, q, e0, e1, _, _, _, _, hlen, hr⟩ := (mayGrid_iff g).1 hm
  obtain ⟨w', q', rfl, rfl, a, b, c', d, hq, hc, _⟩ := sized_mul hs
  rw [hc, e0, e1]
  simp only [Int.toNat_natCast]
  rw [mayGrid_iff]
  refine ⟨w', q', rfl, rfl, a, b, c', d, res_len _ _ _ (by omega) (by simp), ?_⟩
  exact res_may (q := q) (fun i hi => (hr i hi).cells) _ _ _ (by omega) (by omega) (by simp) (fun p hp => by rw [blanks_row hp]; exact blank_good _ hy)
 ·rename_i q; rw [if_neg q] at h; simp [no] at h
end Go.Proofs.YtckilbegmbaeeaaGreat.Z4Sp

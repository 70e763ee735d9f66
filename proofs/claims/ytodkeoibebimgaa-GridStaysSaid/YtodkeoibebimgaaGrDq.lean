/- What the deeds on grids come to, 4: scroll, new, resize, same. -/
import Derived.Test.YtodkeoibebimgaaGrDp
namespace Go.Proofs.Ytodkeoibebimgaa.GrSp
open Go Go.RowKit Go.Proofs.Ytodkeoibebimgaa.SL Go.Proofs.Ytodkeoibebimgaa.Gr Go.Proofs.Ytodkeoibebimgaa.GrMay Go.Proofs.Ytodkeoibebimgaa.GrLs Go.Proofs.Ytodkeoibebimgaa.GrOp
set_option linter.unusedVariables false
set_option linter.unusedSimpArgs false

/-! ### scroll -/
def scrollOk (g : S67) (t u : Int) (s : S70) : Bool := mayGrid g && (decide (0 ≤ t) && (decide (t ≤ u) && (decide (u < g.f1) && mayStyle s)))
def sScroll (g : S67) (t u by_ : Int) (s : S70) : S67 × Int :=
  if scrollOk g t u s = true then (S67.mk g.f0 g.f1 (over g.f2 (t.toNat * g.f0.toNat) (slide (win g.f2 (t.toNat * g.f0.toNat) ((u.toNat + 1 - t.toNat) * g.f0.toNat)) (by_ * g.f0) (blk s))), 0) else no
theorem scrollOk_size {g : S67} {t u : Int} {s : S70} (h : scrollOk g t u s = true) : ∃ w q i j : Nat, g.f0 = (w : Int) ∧ g.f1 = (q : Int) ∧ t = (i : Int) ∧ u = (j : Int) ∧ 0 < w ∧ w ≤ 512 ∧ q ≤ 512 ∧ i ≤ j ∧ j < q ∧ g.f2.length = w * q ∧ w * q ≤ 262144 := by
  unfold scrollOk at h
  simp only [Bool.and_eq_true, decide_eq_true_eq] at h
  obtain ⟨hm, h0, h1, h2, _⟩ := h
  obtain ⟨w, q, e0, e1, a, b, c, d, hl, hb⟩ := may_size hm
  exact ⟨w, q, t.toNat, u.toNat, e0, e1, by omega, by omega, a, b, d, by omega, by omega, hl, hb⟩
theorem f33 (g : S67) (hg : Gr g) (t u by_ : Int) (s : S70) (k : Nat) (hk : 1100000 ≤ k) : F33.f k g t u by_ s = some (sScroll g t u by_ s) := by
  unfold F33.f sScroll
  rw [f41w g hg k (by omega)]
  simp only [Option.bind_some, lt, f71]
  cases hr : scrollOk g t u s
  · unfold scrollOk at hr
    cases hm : mayGrid g
    · simp [no]
    · by_cases h0 : 0 ≤ t
      · by_cases h1 : t ≤ u
        · by_cases h2 : u < g.f1
          · have : mayStyle s = false := by simpa [hm, h0, h1, h2] using hr
            simp [h0, h1, h2, this, no, show ¬ (t < 0) from by omega, show ¬ (t > u) from by omega, show ¬ (u ≥ g.f1) from by omega]
          · simp [h0, h1, show u ≥ g.f1 from by omega, no]
        · simp [h0, show t > u from by omega, no]
      · simp [show t < 0 from by omega, no]
  · obtain ⟨w, q, i, j, e0, e1, rfl, rfl, hw0, hw5, hq5, hij, hj, hlen, hb⟩ := scrollOk_size hr
    unfold scrollOk at hr
    simp only [Bool.and_eq_true, decide_eq_true_eq] at hr
    obtain ⟨hm, h0, h1, h2, h3⟩ := hr
    simp only [hm, h3, show ¬ ((i : Int) < 0) from by omega, show ¬ ((i : Int) > (j : Int)) from by omega, show ¬ ((j : Int) ≥ g.f1) from by omega, decide_false, Bool.not_true, Bool.or_self, Bool.false_eq_true, if_false, Option.bind_some]
    rw [f72 g (by omega)]
    simp only [Option.bind_some]
    have := f73 g.f2 w q i j g.f1 by_ s hlen hw0 hw5 hq5 hij hj k (by omega)
    rw [← e0] at this
    rw [show F73b0.f k g (i : Int) (j : Int) by_ s = _ from this]
    simp [e0]
/-- Places in whole rows. -/
theorem row_lo {p : Int} {c w : Nat} (hc : c < w) : 0 ≤ p * (w : Int) + (c : Int) ↔ 0 ≤ p := by
  constructor
  · intro h
    by_cases q : 0 ≤ p
    · exact q
    · exfalso
      have : p * (w : Int) ≤ -1 * (w : Int) := Int.mul_le_mul_of_nonneg_right (by omega) (by omega)
      omega
  · intro h
    have : 0 ≤ p * (w : Int) := Int.mul_nonneg h (by omega)
    omega
theorem row_hi {p h : Int} {c w : Nat} (hc : c < w) : p * (w : Int) + (c : Int) < h * (w : Int) ↔ p < h := by
  have := row_lo (p := p - h) hc
  rw [Int.sub_mul] at this
  omega
theorem l39i (g : S67) (w q i j : Nat) (by_ : Int) (s : S70) (e0 : g.f0 = (w : Int)) (e1 : g.f1 = (q : Int)) (hlen : g.f2.length = w * q) (hb : w * q ≤ 262144) (hq5 : q ≤ 512) (hw5 : w ≤ 512) (hij : i ≤ j) (hj : j < q)
    (S : List S76) (hS : S = slide (win g.f2 (i * w) ((j + 1 - i) * w)) (by_ * (w : Int)) (blk s)) (r : Nat) (hr : i + r ≤ j) (Z0 : List S76) (hZ0 : Z0.length = g.f2.length) : ∀ (m k c : Nat), c + m = w → m < k →
    F39.l1 g (i : Int) (j : Int) by_ s g ((i + r : Nat) : Int) Z0 k (c : Int) (over g.f2 (i * w) (S.take (r * w + c))) = some (over g.f2 (i * w) (S.take (r * w + w)))
  | 0, 0, _, _, hk => by omega
  | 0, k + 1, c, hc, hk => by
    have hm1 : (i + (j + 1 - i)) * w ≤ q * w := Nat.mul_le_mul_right _ (by omega)
    rw [Nat.add_mul, Nat.mul_comm q w] at hm1
    have hSl : S.length = (j + 1 - i) * w := by rw [hS, slide_len, wlen (by omega)]
    have hm2 : (r + 1) * w ≤ (j + 1 - i) * w := Nat.mul_le_mul_right _ (by omega)
    rw [Nat.add_mul, Nat.one_mul] at hm2
    have hcw : c = w := by omega
    rw [F39.l1, if_pos (by rw [hZ0]; exact over_len2 (by rw [List.length_take]; omega)), e0, if_neg (by omega), hcw]
  | m + 1, 0, _, _, hk => by omega
  | m + 1, k + 1, c, hc, hk => by
    have hm1 : (i + (j + 1 - i)) * w ≤ q * w := Nat.mul_le_mul_right _ (by omega)
    rw [Nat.add_mul, Nat.mul_comm q w] at hm1
    have hSl : S.length = (j + 1 - i) * w := by rw [hS, slide_len, wlen (by omega)]
    have hm2 : (r + 1) * w ≤ (j + 1 - i) * w := Nat.mul_le_mul_right _ (by omega)
    rw [Nat.add_mul, Nat.one_mul] at hm2
    have hwl : (win g.f2 (i * w) ((j + 1 - i) * w)).length = (j + 1 - i) * w := wlen (by omega)
    have htl : (S.take (r * w + c)).length = r * w + c := by rw [List.length_take]; omega
    have hl1 : (over g.f2 (i * w) (S.take (r * w + c))).length = g.f2.length := over_len2 (by omega)
    have ha := at83 (over g.f2 (i * w) (S.take (r * w + c))) w q (i + r) (q : Int) (by rw [hl1]; exact hlen) hb hq5 (by omega)
    have hnext : S.take (r * w + c + 1) = S.take (r * w + c) ++ [if 0 ≤ ((r * w + c : Nat) : Int) + by_ * (w : Int) ∧ ((r * w + c : Nat) : Int) + by_ * (w : Int) < (((j + 1 - i) * w : Nat) : Int) then (win g.f2 (i * w) ((j + 1 - i) * w)).getD (((r * w + c : Nat) : Int) + by_ * (w : Int)).toNat (blk s) else blk s] := by
      rw [hS, slide_take (by rw [hwl]; omega), hwl]
    have hplace : ((r * w + c : Nat) : Int) + by_ * (w : Int) = ((r : Int) + by_) * (w : Int) + (c : Int) := by
      rw [Int.add_mul, show ((r * w + c : Nat) : Int) = (r : Int) * (w : Int) + (c : Int) from by simp]; omega
    have hhi : (((j + 1 - i) * w : Nat) : Int) = ((j + 1 - i : Nat) : Int) * (w : Int) := by simp
    rw [hplace, hhi] at hnext
    simp only [row_lo (p := (r : Int) + by_) (show c < w by omega), row_hi (p := (r : Int) + by_) (show c < w by omega)] at hnext
    rw [F39.l1, if_pos (by rw [hZ0]; exact hl1), e0, if_pos (by omega), f70, e1]
    simp only [Option.bind_some, lt]
    rw [ha]
    simp only [Option.bind_some]
    have hval : ∀ (G : S76 → Option (List S76)), (if ((decide (by_ ≥ IntKind.i64.wrap (0 - (q : Int))) && decide (by_ ≤ (q : Int))) && decide (IntKind.i64.wrap (((i + r : Nat) : Int) + by_) ≥ (i : Int)) && decide (IntKind.i64.wrap (((i + r : Nat) : Int) + by_) ≤ (j : Int))) = true then (F83.f g (IntKind.i64.wrap (((i + r : Nat) : Int) + by_))).bind (fun r47 => if 0 ≤ (c : Int) ∧ (c : Int) < (r47.length : Int) then some (S76.mk (rd r47 (c : Int)).f0 (rd r47 (c : Int)).f1 (rd r47 (c : Int)).f2 (rd r47 (c : Int)).f3) else none) else some (blk s)).bind G = G (if 0 ≤ (r : Int) + by_ ∧ (r : Int) + by_ < ((j + 1 - i : Nat) : Int) then (win g.f2 (i * w) ((j + 1 - i) * w)).getD (((r : Int) + by_) * (w : Int) + (c : Int)).toNat (blk s) else blk s) := fun G => by
      rw [w64 (x := 0 - (q : Int)) (by omega) (by omega)]
      by_cases c1 : -(q : Int) ≤ by_ ∧ by_ ≤ (q : Int)
      · rw [w64 (x := ((i + r : Nat) : Int) + by_) (by omega) (by omega)]
        by_cases c2 : 0 ≤ (r : Int) + by_ ∧ (r : Int) + by_ < ((j + 1 - i : Nat) : Int)
        · have hcond : ((decide (by_ ≥ 0 - (q : Int)) && decide (by_ ≤ (q : Int))) && decide (((i + r : Nat) : Int) + by_ ≥ (i : Int)) && decide (((i + r : Nat) : Int) + by_ ≤ (j : Int))) = true := by simp; omega
          obtain ⟨p, hp⟩ : ∃ p : Nat, (r : Int) + by_ = (p : Int) := ⟨((r : Int) + by_).toNat, by omega⟩
          have hip : i + p < q := by omega
          have ha2 := at83r g.f2 w q (i + p) g.f1 hlen hb hq5 hip
          rw [← e0] at ha2
          have hpl := place (w := w) hip
          rw [if_pos hcond, if_pos c2, show ((i + r : Nat) : Int) + by_ = ((i + p : Nat) : Int) from by omega, show F83.f g ((i + p : Nat) : Int) = some (win g.f2 ((i + p) * w) w) from ha2]
          simp only [Option.bind_some]
          rw [if_pos (by rw [wlen (by omega)]; omega)]
          simp only [Option.bind_some]
          congr 1
          rw [hp, show ((p : Int) * (w : Int) + (c : Int)).toNat = p * w + c from by rw [show (p : Int) * (w : Int) + (c : Int) = ((p * w + c : Nat) : Int) from by simp]; exact Int.toNat_natCast _]
          have hpw : p * w + w ≤ (j + 1 - i) * w := by
            have : (p + 1) * w ≤ (j + 1 - i) * w := Nat.mul_le_mul_right _ (by omega)
            rwa [Nat.add_mul, Nat.one_mul] at this
          have hx : (win g.f2 (i * w) ((j + 1 - i) * w))[p * w + c]? = some (rd (win g.f2 ((i + p) * w) w) (c : Int)) := by
            rw [win_get, if_pos (by omega), rd_win (by omega) (by omega)]
            rw [show ((((i + p) * w : Nat) : Int) + (c : Int)) = (((i + p) * w + c : Nat) : Int) from by omega, ← some_rd (by omega)]
            congr 1; rw [Nat.add_mul]; omega
          rw [List.getD_eq_getElem?_getD, hx]; rfl
        · have hcond : ¬ ((decide (by_ ≥ 0 - (q : Int)) && decide (by_ ≤ (q : Int))) && decide (((i + r : Nat) : Int) + by_ ≥ (i : Int)) && decide (((i + r : Nat) : Int) + by_ ≤ (j : Int))) = true := by simp; omega
          rw [if_neg hcond, if_neg c2]; rfl
      · have hcond : (decide (by_ ≥ 0 - (q : Int)) && decide (by_ ≤ (q : Int))) = false := by simp; omega
        rw [hcond, Bool.false_and, Bool.false_and, if_neg (by decide), if_neg (by omega)]; rfl
    rw [hval]
    have hirw : (i + r) * w = i * w + r * w := Nat.add_mul _ _ _
    rw [if_pos (by omega), if_pos (by omega), wsucc (by omega), show ((((i + r) * w : Nat) : Int) + (c : Int)).toNat = i * w + (S.take (r * w + c)).length from by omega, over_set (by omega), ← hnext]
    exact l39i g w q i j by_ s e0 e1 hlen hb hq5 hw5 hij hj S hS r hr Z0 hZ0 m k (c + 1) (by omega) (by omega)
theorem l39 (g : S67) (w q i j : Nat) (by_ : Int) (s : S70) (e0 : g.f0 = (w : Int)) (e1 : g.f1 = (q : Int)) (hlen : g.f2.length = w * q) (hb : w * q ≤ 262144) (hq5 : q ≤ 512) (hw5 : w ≤ 512) (hij : i ≤ j) (hj : j < q)
    (S : List S76) (hS : S = slide (win g.f2 (i * w) ((j + 1 - i) * w)) (by_ * (w : Int)) (blk s)) : ∀ (m k r : Nat), i + r + m = j + 1 → m + 520 < k →
    F39.l0 g (i : Int) (j : Int) by_ s g k ((i + r : Nat) : Int) (over g.f2 (i * w) (S.take (r * w))) = some (over g.f2 (i * w) S)
  | 0, 0, _, _, hk => by omega
  | 0, k + 1, r, hr, hk => by
    have hm1 : (i + (j + 1 - i)) * w ≤ q * w := Nat.mul_le_mul_right _ (by omega)
    rw [Nat.add_mul, Nat.mul_comm q w] at hm1
    have hSl : S.length = (j + 1 - i) * w := by rw [hS, slide_len, wlen (by omega)]
    have hrr : r = j + 1 - i := by omega
    rw [F39.l0, if_pos (over_len2 (by rw [List.length_take]; omega)), if_neg (by omega), List.take_of_length_le (by rw [hSl, hrr]; exact Nat.le_refl _)]
  | m + 1, 0, _, _, hk => by omega
  | m + 1, k + 1, r, hr, hk => by
    have hm1 : (i + (j + 1 - i)) * w ≤ q * w := Nat.mul_le_mul_right _ (by omega)
    rw [Nat.add_mul, Nat.mul_comm q w] at hm1
    have hSl : S.length = (j + 1 - i) * w := by rw [hS, slide_len, wlen (by omega)]
    have hZ : (over g.f2 (i * w) (S.take (r * w))).length = g.f2.length := over_len2 (by rw [List.length_take]; omega)
    have h1 := l39i g w q i j by_ s e0 e1 hlen hb hq5 hw5 hij hj S hS r (by omega) _ hZ w k 0 (by omega) (by omega)
    rw [Nat.add_zero] at h1
    rw [F39.l0, if_pos hZ, if_pos (by omega), show (0 : Int) = ((0 : Nat) : Int) from rfl, h1]
    simp only [Option.bind_some, lt]
    rw [if_pos (by rw [over_len2 (by rw [List.length_take]; omega), over_len2 (by rw [List.length_take]; omega)]), wsucc (by omega)]
    have ih := l39 g w q i j by_ s e0 e1 hlen hb hq5 hw5 hij hj S hS m k (r + 1) (by omega) (by omega)
    rw [Nat.add_mul, Nat.one_mul] at ih
    exact ih
theorem f39 (g : S67) (hg : Gr g) (t u by_ : Int) (s : S70) (k : Nat) (hk : 1100000 ≤ k) : F39.f k g t u by_ s = some (sScroll g t u by_ s) := by
  unfold F39.f sScroll
  rw [f82 g hg s t k (by omega)]
  simp only [Option.bind_some, lt]
  cases hr : scrollOk g t u s
  · by_cases h1 : t ≤ u
    · by_cases h2 : u < g.f1
      · have h3 : t < g.f1 := by omega
        have : rowOk g t s = false := by
          unfold scrollOk at hr; unfold rowOk
          simpa [h1, h2, h3] using hr
        simp [this, no]
      · simp [show u ≥ g.f1 from by omega, no]
    · simp [show u < t from by omega, no]
  · obtain ⟨w, q, i, j, e0, e1, rfl, rfl, hw0, hw5, hq5, hij, hj, hlen, hb⟩ := scrollOk_size hr
    have hro : rowOk g (i : Int) s = true := by
      unfold scrollOk at hr; unfold rowOk
      simp only [Bool.and_eq_true, decide_eq_true_eq] at hr ⊢
      exact ⟨hr.1, hr.2.1, by omega, hr.2.2.2.2⟩
    have hm1 : (i + (j + 1 - i)) * w ≤ q * w := Nat.mul_le_mul_right _ (by omega)
    rw [Nat.add_mul, Nat.mul_comm q w] at hm1
    simp only [hro, show ¬ ((j : Int) < (i : Int)) from by omega, show ¬ ((j : Int) ≥ g.f1) from by omega, decide_false, Bool.not_true, Bool.or_self, Bool.false_eq_true, if_false, Option.bind_some]
    rw [f36 g (by omega)]
    simp only [Option.bind_some]
    have h0 := l39 g w q i j by_ s e0 e1 hlen hb hq5 hw5 hij hj _ rfl (j + 1 - i) k 0 (by omega) (by omega)
    rw [Nat.zero_mul, List.take_zero, over_nil, Nat.add_zero] at h0
    rw [h0]
    simp only [Option.bind_some]
    rw [if_pos (over_len2 (by rw [slide_len, wlen (by omega)]; omega))]
    simp [e0]

/-! ### the same -/
theorem l40 (a b : S67) (h : a.f2.length = b.f2.length) (hl : a.f2.length < 4611686018427387904) : ∀ (m k i : Nat), i + m = a.f2.length → m < k →
    F40.l0 a b k (i : Int) = some (if a.f2.drop i = b.f2.drop i then Out.go () else Out.ret false)
  | 0, 0, _, _, hk => by omega
  | 0, k + 1, i, hi, hk => by
    rw [F40.l0, if_neg (by omega), List.drop_of_length_le (by omega), List.drop_of_length_le (by omega)]; simp
  | m + 1, 0, _, _, hk => by omega
  | m + 1, k + 1, i, hi, hk => by
    have h1 : i < a.f2.length := by omega
    have h2 : i < b.f2.length := by omega
    rw [F40.l0, if_pos (by omega), if_pos (by omega), if_pos (by omega), rd_lt h1, rd_lt h2, List.drop_eq_getElem_cons h1, List.drop_eq_getElem_cons h2]
    by_cases he : a.f2[i] = b.f2[i]
    · rw [if_neg (by simpa using he)]
      simp only [lt, wsucc (show i < 4611686018427387904 by omega)]
      rw [l40 a b h hl m k (i + 1) (by omega) (by omega)]
      simp only [List.cons.injEq, he, true_and]
    · rw [if_pos he, if_neg (by intro q; exact he (List.cons.inj q).1)]
def sameB (a b : S67) : Bool := decide (a.f0 = b.f0) && (decide (a.f1 = b.f1) && decide (a.f2 = b.f2))
theorem f40 (a b : S67) (hl : a.f2.length < 4611686018427387904) (k : Nat) (hk : a.f2.length < k) : F40.f k a b = some (sameB a b) := by
  unfold F40.f sameB
  simp only [lt]
  by_cases h0 : a.f0 = b.f0
  · by_cases h1 : a.f1 = b.f1
    · by_cases h2 : a.f2.length = b.f2.length
      · have h3 := l40 a b h2 hl a.f2.length k 0 (by omega) hk
        rw [List.drop_zero, List.drop_zero] at h3
        have e : F40.l0 a b k 0 = some (if a.f2 = b.f2 then Out.go () else Out.ret false) := h3
        simp only [h0, h1, h2, ne_eq, not_true_eq_false, decide_false, Bool.or_self, Bool.false_eq_true, if_false, e, Option.bind_some]
        by_cases h4 : a.f2 = b.f2
        · rw [if_pos h4]; simp [el_g, h4]
        · rw [if_neg h4]; simp [el_r, h4]
      · have : a.f2 ≠ b.f2 := fun q => h2 (by rw [q])
        have h2' : ¬ ((a.f2.length : Int) = (b.f2.length : Int)) := by omega
        simp [h0, h1, h2, this]
        intro q; exact absurd q h2'
    · simp [h1]
  · simp [h0]
theorem same_refl (a : S67) : sameB a a = true := by simp [sameB]
theorem l91 (a b : List S76) (h : a.length = b.length) (hl : a.length < 4611686018427387904) : ∀ (m k i : Nat), i + m = a.length → m < k →
    F91.l0 a b k (i : Int) = some (if a.drop i = b.drop i then Out.go () else Out.ret false)
  | 0, 0, _, _, hk => by omega
  | 0, k + 1, i, hi, hk => by
    rw [F91.l0, if_neg (by omega), List.drop_of_length_le (by omega), List.drop_of_length_le (by omega)]; simp
  | m + 1, 0, _, _, hk => by omega
  | m + 1, k + 1, i, hi, hk => by
    have h1 : i < a.length := by omega
    have h2 : i < b.length := by omega
    rw [F91.l0, if_pos (by omega), if_pos (by omega), if_pos (by omega), rd_lt h1, rd_lt h2, List.drop_eq_getElem_cons h1, List.drop_eq_getElem_cons h2]
    by_cases he : a[i] = b[i]
    · rw [if_neg (by simpa using he), wsucc (by omega)]
      rw [l91 a b h hl m k (i + 1) (by omega) (by omega)]
      simp only [List.cons.injEq, he, true_and]
    · rw [if_pos he, if_neg (by intro q; exact he (List.cons.inj q).1)]
theorem f91 (a b : List S76) (hl : a.length < 4611686018427387904) (k : Nat) (hk : a.length < k) : F91.f k a b = some (decide (a = b)) := by
  unfold F91.f
  by_cases h2 : a.length = b.length
  · have h3 := l91 a b h2 hl a.length k 0 (by omega) hk
    rw [List.drop_zero, List.drop_zero] at h3
    have e : F91.l0 a b k 0 = some (if a = b then Out.go () else Out.ret false) := h3
    rw [if_neg (by omega), e]
    simp only [Option.bind_some]
    by_cases h4 : a = b
    · rw [if_pos h4]; simp [el_g, h4]
    · rw [if_neg h4]; simp [el_r, h4]
  · have : a ≠ b := fun q => h2 (by rw [q])
    rw [if_pos (by omega)]; simp [this]
theorem f50 (a b : S67) (hl : a.f2.length < 4611686018427387904) (k : Nat) (hk : a.f2.length < k) : F50.f k a b = some (sameB a b) := by
  unfold F50.f sameB
  simp only [lt]
  rw [f91 _ _ hl k hk]
  by_cases h0 : a.f0 = b.f0 <;> by_cases h1 : a.f1 = b.f1 <;> simp [h0, h1]
end Go.Proofs.Ytodkeoibebimgaa.GrSp

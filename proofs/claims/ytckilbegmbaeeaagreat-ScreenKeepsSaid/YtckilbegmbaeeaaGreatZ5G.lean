import Derived.Test.YtckilbegmbaeeaaGreatZ5May
import Derived.Test.YtckilbegmbaeeaaGreatZ5Ls
namespace Go.Proofs.YtckilbegmbaeeaaGreat.Z5Op
open Go Go.RowKit Go.Proofs.YtckilbegmbaeeaaGreat.SL Go.Proofs.YtckilbegmbaeeaaGreat.Z5 Go.Proofs.YtckilbegmbaeeaaGreat.Z5May Go.Proofs.YtckilbegmbaeeaaGreat.Z5Ls
set_option linter.unusedVariables false
set_option linter.unusedSimpArgs false
def blk (s : S28) : S55 := S55.mk 32 (S53.mk 0 0 0) 1 (S28.mk (-1) s.f1 false false false false false false false false)
theorem f110 (s : S28) : F147.f s = some (blk s) := rfl
theorem wsucc {i : Nat} (h : i < 4611686018427387904) : IntKind.i64.wrap ((i : Int) + 1) = ((i + 1 : Nat) : Int) := by rw [w64 (by omega) (by omega)]; rfl
theorem l105 (X : List S55) (o n : Nat) (b : S55) (h : o + n ≤ X.length) (hb : X.length < 4611686018427387904) : ∀ (m k i : Nat), i + m = n → m < k →
  F116w0.l0 X (o : Int) (n : Int) b k (i : Int) (over X o (List.replicate i b)) = some (over X o (List.replicate n b))
 | 0, 0, _, _, hk => by omega
 | 0, k + 1, i, hi, hk => by
  rw [F116w0.l0, if_pos (by rw [over_len2 (by simp; omega)]), if_neg (by omega)]
  rw [show i = n from by omega]
 | m + 1, 0, _, _, hk => by omega
 | m + 1, k + 1, i, hi, hk => by
  rw [F116w0.l0, if_pos (by rw [over_len2 (by simp; omega)]), if_pos (by omega), if_pos (by omega)]
  simp only [lt]
  rw [wsucc (by omega)]
  have e : ((o : Int) + (i : Int)).toNat = o + (List.replicate i b).length := by simp; omega
  rw [e, over_set (by simp; omega), ← List.replicate_succ']
  exact l105 X o n b h hb m k (i + 1) (by omega) (by omega)
theorem f105 (X : List S55) (o n : Nat) (s : S28) (h : o + n ≤ X.length) (hb : X.length < 4611686018427387904) (k : Nat) (hk : n < k) :
  F116w0.f k X (o : Int) (n : Int) s = some (over X o (List.replicate n (blk s))) := by
 unfold F116w0.f
 rw [if_pos (by omega), f110]
 have := l105 X o n (blk s) h hb n k 0 (by omega) hk
 rw [List.replicate_zero, over_nil] at this
 simp only [Option.bind_some]
 rw [show (0 : Int) = ((0 : Nat) : Int) from rfl, this]
 simp only [Option.bind_some]
 rw [if_pos (over_len2 (by simp; omega))]
def isW (W : List S55) (i : Int) (w : Int) (s : S28) : Bool := decide (0 ≤ i ∧ i < (W.length : Int) ∧ (rd W i).f2 = w ∧ (rd W i).f3 = s)
def badAt (W : List S55) (i : Nat) : Bool :=
 (decide ((rd W (i : Int)).f2 = 2) && !isW W ((i : Int) + 1) 0 (rd W (i : Int)).f3) || (decide ((rd W (i : Int)).f2 = 0) && !isW W ((i : Int) - 1) 2 (rd W (i : Int)).f3)
def mendAt (W : List S55) (i : Nat) : S55 := if badAt W i = true then blk (rd W (i : Int)).f3 else rd W (i : Int)
def mendL (W : List S55) : List S55 := (List.range W.length).map (mendAt W)
theorem mend_len {W : List S55} : (mendL W).length = W.length := by simp [mendL]
theorem mend_rd {W : List S55} {i : Nat} (h : i < W.length) : rd (mendL W) (i : Int) = mendAt W i := by
 refine rd_some (by omega) ?_
 rw [Int.toNat_natCast, mendL, List.getElem?_map, List.getElem?_range h]; rfl
theorem f109 (a w : Int) (s : S28) (Z : List S55) (o n : Nat) (h : o + n ≤ Z.length) :
  F157w3.f a w s Z (o : Int) (n : Int) = some (decide (0 ≤ a ∧ a < (n : Int) ∧ (rd Z ((o : Int) + a)).f2 = w ∧ (rd Z ((o : Int) + a)).f3 = s)) := by
 unfold F157w3.f
 rw [if_pos (by omega)]
 by_cases h1 : a ≥ 0
 ·rw [if_pos h1]
  by_cases h2 : a < (n : Int)
  ·rw [if_pos h2, if_pos (by omega)]
   by_cases h3 : (rd Z ((o : Int) + a)).f2 = w
   ·rw [if_pos h3, if_pos (by omega)]
    simp only [show (0 : Int) ≤ a from h1, h2, h3, true_and]
   ·rw [if_neg h3]; simp [h3]
  ·rw [if_neg h2]; simp [h2]
 ·rw [if_neg h1]
  have : ¬ (0 : Int) ≤ a := by omega
  simp [this]
theorem ahead {W : List S55} {i : Nat} (hi : i < W.length) (h0 : 0 < i) (h2 : (rd W (i : Int)).f2 = 0) :
  ((mendAt W (i - 1)).f2 = 2 ∧ (mendAt W (i - 1)).f3 = (rd W (i : Int)).f3) ↔ ((rd W (((i - 1 : Nat)) : Int)).f2 = 2 ∧ (rd W ((i - 1 : Nat) : Int)).f3 = (rd W (i : Int)).f3) := by
 unfold mendAt
 by_cases hb : badAt W (i - 1) = true
 ·rw [if_pos hb]
  constructor
  ·rintro ⟨h, _⟩; simp [blk] at h
  ·rintro ⟨h, h'⟩
   exfalso
   unfold badAt at hb
   rw [show (((i - 1 : Nat) : Int) + 1) = (i : Int) from by omega] at hb
   simp [h, isW, hi, h2, h'] at hb
 ·rw [if_neg hb]
theorem l81 (X : List S55) (o n : Nat) (h : o + n ≤ X.length) (hb : X.length < 4611686018427387904) (W : List S55) (hW : W = win X o n) : ∀ (m k i : Nat), i + m = n → m < k →
  F136w0.l0 X (o : Int) (n : Int) k (i : Int) (over X o ((mendL W).take i)) = some (over X o (mendL W))
 | 0, 0, _, _, hk => by omega
 | 0, k + 1, i, hi, hk => by
  have hl : W.length = n := by rw [hW]; exact wlen h
  have ht : ((mendL W).take i).length = i := by rw [List.length_take, mend_len]; omega
  rw [F136w0.l0, if_pos (over_len2 (by omega)), if_neg (by omega), List.take_of_length_le (by rw [mend_len]; omega)]
 | m + 1, 0, _, _, hk => by omega
 | m + 1, k + 1, i, hi, hk => by
  have hl : W.length = n := by rw [hW]; exact wlen h
  have ht : ((mendL W).take i).length = i := by rw [List.length_take, mend_len]; omega
  have hZ : (over X o ((mendL W).take i)).length = X.length := over_len2 (by omega)
  have hrd : ∀ j : Nat, i ≤ j → j < n → rd (over X o ((mendL W).take i)) ((o : Int) + (j : Int)) = rd W (j : Int) := fun j h1 h2 => by
   rw [show (o : Int) + (j : Int) = ((o + j : Nat) : Int) from by omega, rd_over_after (by omega) (by omega), hW, rd_win h2 h]; congr 1
  have hbf : ∀ j : Nat, j < i → rd (over X o ((mendL W).take i)) ((o : Int) + (j : Int)) = mendAt W j := fun j h1 => by
   rw [show (o : Int) + (j : Int) = ((o + j : Nat) : Int) from by omega, rd_over_in (by omega) (by omega)]
   refine rd_some (by omega) ?_
   rw [Int.toNat_natCast, List.getElem?_take, if_pos h1, mendL, List.getElem?_map, List.getElem?_range (by omega)]; rfl
  rw [F136w0.l0, if_pos hZ, if_pos (by omega), if_pos (by omega)]
  rw [hrd i (Nat.le_refl _) (by omega), wsucc (by omega)]
  have e1 : F157w3.f ((i + 1 : Nat) : Int) 0 (rd W (i : Int)).f3 (over X o ((mendL W).take i)) (o : Int) (n : Int) = some (isW W ((i : Int) + 1) 0 (rd W (i : Int)).f3) := by
   rw [f109 _ _ _ _ _ _ (by omega), isW, hl]
   congr 1
   by_cases hc : i + 1 < n
   ·rw [hrd (i + 1) (by omega) hc]; rfl
   ·simp [show ¬ ((i : Int) + 1 < (n : Int)) from by omega]
  have e2 : (rd W (i : Int)).f2 = 0 → F157w3.f (IntKind.i64.wrap ((i : Int) - 1)) 2 (rd W (i : Int)).f3 (over X o ((mendL W).take i)) (o : Int) (n : Int) = some (isW W ((i : Int) - 1) 2 (rd W (i : Int)).f3) := fun h0 => by
   rw [w64 (by omega) (by omega), f109 _ _ _ _ _ _ (by omega), isW, hl]
   congr 1
   by_cases hc : 0 < i
   ·have := ahead (W := W) (i := i) (by omega) hc h0
    rw [show (i : Int) - 1 = ((i - 1 : Nat) : Int) from by omega, hbf (i - 1) (by omega)]
    simp only [this]
   ·obtain rfl : i = 0 := by omega
    simp
  have hcond : ((if (rd W (i : Int)).f2 = 2 then ((F157w3.f ((i + 1 : Nat) : Int) 0 (rd W (i : Int)).f3 (over X o ((mendL W).take i)) (o : Int) (n : Int)).bind (fun r16 => some (!r16))) else (some false) : Option Bool).bind (fun q14 => (if q14 = true then (some true) else (if (rd W (i : Int)).f2 = 0 then ((F157w3.f (IntKind.i64.wrap ((i : Int) - 1)) 2 (rd W (i : Int)).f3 (over X o ((mendL W).take i)) (o : Int) (n : Int)).bind (fun r22 => some (!r22))) else (some false)) : Option Bool))) = some (badAt W i) := by
   unfold badAt
   by_cases c2 : (rd W (i : Int)).f2 = 2
   ·rw [if_pos c2, e1]; simp only [Option.bind_some, c2]
    cases isW W ((i : Int) + 1) 0 (rd W (i : Int)).f3 <;> simp
   ·rw [if_neg c2]
    by_cases c0 : (rd W (i : Int)).f2 = 0
    ·simp only [Option.bind_some, c0, if_true, e2 c0]; simp
    ·simp [c2, c0]
  have hassoc := congrArg (fun z : Option Bool => z.bind (fun q19 => if q19 = true then ((F147.f (rd W (i : Int)).f3).bind (fun r266 => if (0 : Int) ≤ (i : Int) ∧ (i : Int) < (n : Int) then (lt ((over X o ((mendL W).take i)).set ((o : Int) + (i : Int)).toNat r266) fun n386 => (F136w0.l0 X (o : Int) (n : Int) k ((i + 1 : Nat) : Int) n386)) else none)) else (F136w0.l0 X (o : Int) (n : Int) k ((i + 1 : Nat) : Int) (over X o ((mendL W).take i))))) hcond
  simp only [Option.bind_assoc] at hassoc
  refine hassoc.trans ?_
  have hnext : over X o ((mendL W).take (i + 1)) = (if badAt W i = true then (over X o ((mendL W).take i)).set (o + i) (blk (rd W (i : Int)).f3) else over X o ((mendL W).take i)) := by
   have hs : (mendL W).take (i + 1) = (mendL W).take i ++ [mendAt W i] := take_succ_map (by omega)
   rw [hs]
   by_cases hbd : badAt W i = true
   ·rw [if_pos hbd, mendAt, if_pos hbd]
    have := over_set (X := X) (ys := (mendL W).take i) (o := o) (y := blk (rd W (i : Int)).f3) (by omega)
    rw [ht] at this; exact this.symm
   ·rw [if_neg hbd]
    refine over_same (by omega) ?_
    rw [ht, mendAt, if_neg hbd, hW, rd_win (by omega) h, show (o : Int) + (i : Int) = ((o + i : Nat) : Int) from by omega]
    exact some_rd (by omega)
  simp only [Option.bind_some]
  have ih := l81 X o n h hb W hW m k (i + 1) (by omega) (by omega)
  rw [hnext] at ih
  by_cases hbd : badAt W i = true
  ·rw [if_pos hbd, f110]
   simp only [Option.bind_some, lt]
   rw [if_pos (by omega), show ((o : Int) + (i : Int)).toNat = o + i from by omega]
   rw [if_pos hbd] at ih; exact ih
  ·rw [if_neg hbd]
   rw [if_neg hbd] at ih; exact ih
theorem f81 (X : List S55) (o n : Nat) (h : o + n ≤ X.length) (hb : X.length < 4611686018427387904) (k : Nat) (hk : n < k) : F136w0.f k X (o : Int) (n : Int) = some (over X o (mendL (win X o n))) := by
 have hl : (win X o n).length = n := wlen h
 have := l81 X o n h hb _ rfl n k 0 (by omega) hk
 rw [List.take_zero, over_nil] at this
 unfold F136w0.f
 rw [if_pos (by omega), show (0 : Int) = ((0 : Nat) : Int) from rfl, this]
 simp only [Option.bind_some]
 rw [if_pos (over_len2 (by rw [mend_len]; omega))]
end Go.Proofs.YtckilbegmbaeeaaGreat.Z5Op
namespace Go.Proofs.YtckilbegmbaeeaaGreat.Z5Op
open Go Go.RowKit Go.Proofs.YtckilbegmbaeeaaGreat.SL Go.Proofs.YtckilbegmbaeeaaGreat.Z5 Go.Proofs.YtckilbegmbaeeaaGreat.Z5May Go.Proofs.YtckilbegmbaeeaaGreat.Z5Ls
set_option linter.unusedVariables false
set_option linter.unusedSimpArgs false
theorem mend_in {X R : List S55} {o n : Nat} (h : o + n ≤ X.length) (hR : R.length = n) : over (over X o R) o (mendL (win (over X o R) o n)) = over X o (mendL R) := by
 rw [win_over hR h, over_over (by rw [mend_len]) (by omega)]
theorem f87 (X : List S55) (o n a : Nat) (l : List S55) (h : o + n ≤ X.length) (ha : a ≤ n) (hb : X.length < 4611686018427387904) (k : Nat) (hk : n < k) :
  F123w0b2.f k X (o : Int) (n : Int) (a : Int) l = some (over X o (mendL (over (win X o n) a (l.take (n - a))))) := by
 have hw : (win X o n).length = n := wlen h
 have ht : (l.take (n - a)).length ≤ n - a := by rw [List.length_take]; omega
 have hl1 : (over (win X o n) a (l.take (n - a))).length = n := by rw [over_len2 (by omega), hw]
 unfold F123w0b2.f
 rw [if_pos (by omega), if_pos (by omega), show ((o : Int) + (a : Int)).toNat = o + a from by omega, show ((n : Int) - (a : Int)).toNat = n - a from by omega, over_in (n := n) (by omega) h]
 simp only [lt]
 have hZ : (over X o (over (win X o n) a (l.take (n - a)))).length = X.length := over_len2 (by omega)
 rw [f81 _ o n (by omega) (by omega) k hk, mend_in h hl1]
 simp only [Option.bind_some]
 rw [if_pos (by rw [hZ, over_len2 (by rw [mend_len]; omega)])]
theorem f77 (X : List S55) (o n a b : Nat) (s : S28) (h : o + n ≤ X.length) (hab : a ≤ b) (hbn : b ≤ n) (hb : X.length < 4611686018427387904) (k : Nat) (hk : n < k) :
  F129w0.f k X (o : Int) (n : Int) (a : Int) (b : Int) s = some (over X o (mendL (over (win X o n) a (List.replicate (b - a) (blk s))))) := by
 have hw : (win X o n).length = n := wlen h
 have hl1 : (over (win X o n) a (List.replicate (b - a) (blk s))).length = n := by rw [over_len2 (by simp; omega), hw]
 unfold F129w0.f
 rw [if_pos (by omega), if_pos (by omega), show (o : Int) + (a : Int) = ((o + a : Nat) : Int) from by omega, show (b : Int) - (a : Int) = ((b - a : Nat) : Int) from by omega, f105 X (o + a) (b - a) s (by omega) hb k (by omega)]
 simp only [Option.bind_some]
 rw [over_in (n := n) (by simp; omega) h]
 have hZ : (over X o (over (win X o n) a (List.replicate (b - a) (blk s)))).length = X.length := over_len2 (by omega)
 rw [if_pos hZ, f81 _ o n (by omega) (by omega) k hk, mend_in h hl1]
 simp only [Option.bind_some]
 rw [if_pos (by rw [hZ, over_len2 (by rw [mend_len]; omega)])]
theorem slid_up {X : List S55} {o n e : Nat} {b : S55} (h : o + n ≤ X.length) (he : e ≤ n) : over (over X o (win X (o + e) (n - e))) (o + (n - e)) (List.replicate e b) = over X o (slide (win X o n) (e : Int) b) := by
 have hw : (win X o n).length = n := wlen h
 have hw2 : (win X (o + e) (n - e)).length = n - e := wlen (by omega)
 have e1 : win X (o + e) (n - e) = (win X o n).drop e := by unfold win; rw [List.drop_take, List.drop_drop]
 have e2 : over X o (win X (o + e) (n - e)) = over X o (over (win X o n) 0 (win X (o + e) (n - e))) := by
  have := over_in (X := X) (ys := win X (o + e) (n - e)) (o := o) (a := 0) (n := n) (by omega) h
  simpa using this
 have hl : (over (win X o n) 0 (win X (o + e) (n - e))).length = n := by rw [over_len2 (by omega), hw]
 have hl2 : (over (over (win X o n) 0 (win X (o + e) (n - e))) (n - e) (List.replicate e b)).length = n := by rw [over_len2 (by rw [hl]; simp; omega), hl]
 rw [e2, over_in (n := n) (by simp; omega) (by rw [over_len2 (by omega)]; exact h), win_over hl h, over_over (by rw [hl, hl2]) (by omega), e1]
 have := slide_up (W := win X o n) (e := e) (b := b) (by omega)
 rw [hw] at this
 rw [this]
theorem slid_down {X : List S55} {o n e : Nat} {b : S55} (h : o + n ≤ X.length) (he : e ≤ n) : over (over X (o + e) ((win X o n).take (n - e))) o (List.replicate e b) = over X o (slide (win X o n) (-(e : Int)) b) := by
 have hw : (win X o n).length = n := wlen h
 have ht : ((win X o n).take (n - e)).length = n - e := by rw [List.length_take]; omega
 have hl : (over (win X o n) e ((win X o n).take (n - e))).length = n := by rw [over_len2 (by omega), hw]
 have e3 : over (over X (o + e) ((win X o n).take (n - e))) o (List.replicate e b) = over (over X o (over (win X o n) e ((win X o n).take (n - e)))) (o + 0) (List.replicate e b) := by rw [over_in (n := n) (by omega) h, Nat.add_zero]
 have hl2 : (over (over (win X o n) e ((win X o n).take (n - e))) 0 (List.replicate e b)).length = n := by rw [over_len2 (by rw [hl]; simp; omega), hl]
 rw [e3, over_in (n := n) (by simp; omega) (by rw [over_len2 (by omega)]; exact h), win_over hl h, over_over (by rw [hl, hl2]) (by omega)]
 have := slide_down (W := win X o n) (e := e) (b := b) (by omega)
 rw [hw] at this
 rw [this]
end Go.Proofs.YtckilbegmbaeeaaGreat.Z5Op
namespace Go.Proofs.YtckilbegmbaeeaaGreat.Z5Op
open Go Go.RowKit Go.Proofs.YtckilbegmbaeeaaGreat.SL Go.Proofs.YtckilbegmbaeeaaGreat.Z5 Go.Proofs.YtckilbegmbaeeaaGreat.Z5May Go.Proofs.YtckilbegmbaeeaaGreat.Z5Ls
set_option linter.unusedVariables false
set_option linter.unusedSimpArgs false
theorem slide_out {W : List S55} {d : Int} {b : S55} (h : (W.length : Int) ≤ d ∨ d ≤ -(W.length : Int)) : slide W d b = List.replicate W.length b := by
 apply List.ext_getElem?
 intro i
 by_cases hi : i < W.length
 ·rw [slide_get hi, if_neg (by omega), List.getElem?_replicate, if_pos hi]
 ·rw [List.getElem?_eq_none (by rw [slide_len]; omega), List.getElem?_eq_none (by simp; omega)]
def clip (n x : Int) : Int := max (-n) (min x n)
theorem clip_le {n x : Int} (h : 0 ≤ n) : -n ≤ clip n x ∧ clip n x ≤ n := by unfold clip; omega
theorem slide_clip {W : List S55} {x : Int} {b : S55} : slide W (-(clip (W.length : Int) x)) b = slide W (-x) b := by
 by_cases h : -(W.length : Int) ≤ x ∧ x ≤ (W.length : Int)
 ·rw [show clip (W.length : Int) x = x from by unfold clip; omega]
 ·rw [slide_out (by unfold clip; omega), slide_out (by omega)]
theorem slide_clipm {W : List S55} {x : Int} {b : S55} {h w : Nat} (hl : W.length = h * w) (hw : 0 < w) : slide W (clip (h : Int) x * (w : Int)) b = slide W (x * (w : Int)) b := by
 by_cases c : -(h : Int) ≤ x ∧ x ≤ (h : Int)
 ·rw [show clip (h : Int) x = x from by unfold clip; omega]
 ·have hlen : (W.length : Int) = (h : Int) * (w : Int) := by rw [hl]; simp
  by_cases c2 : x < -(h : Int)
  ·rw [show clip (h : Int) x = -(h : Int) from by unfold clip; omega, slide_out (.inr (by rw [hlen, Int.neg_mul]; exact Int.le_refl _))]
   refine (slide_out (.inr ?_)).symm
   rw [hlen, ← Int.neg_mul]
   exact Int.mul_le_mul_of_nonneg_right (by omega) (by omega)
  ·rw [show clip (h : Int) x = (h : Int) from by unfold clip; omega, slide_out (.inl (by rw [hlen]; exact Int.le_refl _))]
   refine (slide_out (.inl ?_)).symm
   rw [hlen]
   exact Int.mul_le_mul_of_nonneg_right (by omega) (by omega)
theorem drop_win {X : List S55} {o n a : Nat} : win X (o + a) (n - a) = (win X o n).drop a := by unfold win; rw [List.drop_take, List.drop_drop]
theorem f88 (X : List S55) (o n a : Nat) (by_ : Int) (s : S28) (h : o + n ≤ X.length) (ha : a ≤ n) (hb : X.length < 4611686018427387904) (hn : n ≤ 1048576) (k : Nat) (hk : n < k) :
  F122w0.f k X (o : Int) (n : Int) (a : Int) by_ s = some (over X o (mendL (over (win X o n) a (slide ((win X o n).drop a) (-by_) (blk s))))) := by
 have hw : (win X o n).length = n := wlen h
 have hdl : ((win X o n).drop a).length = n - a := by simp; omega
 have hc0 : maxI (IntKind.i64.wrap (0 - ((n : Int) - (a : Int)))) (minI by_ ((n : Int) - (a : Int))) = clip ((n - a : Nat) : Int) by_ := by
  rw [w64 (by omega) (by omega), maxI_eq, minI_eq]; unfold clip; omega
 have hsl : slide ((win X o n).drop a) (-by_) (blk s) = slide ((win X o n).drop a) (-(clip ((n - a : Nat) : Int) by_)) (blk s) := by
  have := slide_clip (W := (win X o n).drop a) (x := by_) (b := blk s)
  rw [hdl] at this; exact this.symm
 have hcl := clip_le (n := ((n - a : Nat) : Int)) (x := by_) (by omega)
 have fin : ∀ d : Int, over X (o + a) (slide (win X (o + a) (n - a)) d (blk s)) = over X o (over (win X o n) a (slide ((win X o n).drop a) d (blk s))) := fun d => by
  rw [over_in (n := n) (by rw [slide_len, wlen (by omega)]; omega) h, drop_win]
 have hfl : ∀ d : Int, (over (win X o n) a (slide ((win X o n).drop a) d (blk s))).length = n := fun d => by rw [over_len2 (by rw [slide_len]; omega), hw]
 unfold F122w0.f
 rw [if_pos (by omega), if_pos (by omega), hc0, hsl]
 simp only [lt]
 by_cases c : clip ((n - a : Nat) : Int) by_ ≥ 0
 ·rw [if_pos c, if_pos (by omega)]
  obtain ⟨e, he⟩ : ∃ e : Nat, clip ((n - a : Nat) : Int) by_ = (e : Int) := ⟨(clip ((n - a : Nat) : Int) by_).toNat, by omega⟩
  rw [he]
  have hel : e ≤ n - a := by omega
  rw [show ((o : Int) + (a : Int) + (e : Int)).toNat = (o + a) + e from by omega, show (o : Int) + (a : Int) + ((n : Int) - (a : Int)) = ((o + a : Nat) : Int) + ((n - a : Nat) : Int) from by omega, show (o : Int) + (a : Int) = ((o + a : Nat) : Int) from by omega, sub_win,
   show ((n : Int) - (a : Int) - (e : Int)).toNat = (n - a) - e from by omega, if_pos (by omega), show ((o + a : Nat) : Int) + 0 = ((o + a : Nat) : Int) from by omega, show (e : Int) - 0 = (e : Int) from by omega]
  have hl1 : (over X (o + a + e) ((win X (o + a) (n - a)).take (n - a - e))).length = X.length := over_len2 (by rw [List.length_take, wlen (by omega)]; omega)
  rw [f105 _ (o + a) e s (by omega) (by omega) k (by omega)]
  simp only [Option.bind_some]
  rw [slid_down (by omega) hel, fin, if_pos (by rw [over_len2 (by rw [hfl]; omega), hl1]), f81 _ o n (by rw [over_len2 (by rw [hfl]; omega)]; omega) (by rw [over_len2 (by rw [hfl]; omega)]; omega) k hk, mend_in h (hfl _)]
  simp only [Option.bind_some]
  rw [if_pos (by rw [over_len2 (by rw [mend_len, hfl]; omega), over_len2 (by rw [hfl]; omega)])]
 ·rw [if_neg c]
  obtain ⟨e, he⟩ : ∃ e : Nat, clip ((n - a : Nat) : Int) by_ = -(e : Int) := ⟨(-(clip ((n - a : Nat) : Int) by_)).toNat, by omega⟩
  rw [he]
  have hel : e ≤ n - a := by omega
  rw [show (0 : Int) - -(e : Int) = (e : Int) from by omega, w64 (x := (e : Int)) (by omega) (by omega), if_pos (by omega), show (n : Int) - (a : Int) + -(e : Int) = ((n - a - e : Nat) : Int) from by omega, w64 (x := ((n - a - e : Nat) : Int)) (by omega) (by omega)]
  rw [show (o : Int) + (a : Int) + (e : Int) = ((o + a + e : Nat) : Int) from by omega, show (n : Int) - (a : Int) - (e : Int) = ((n - a - e : Nat) : Int) from by omega, sub_win, show ((o : Int) + (a : Int)).toNat = o + a from by omega, show ((n : Int) - (a : Int)).toNat = n - a from by omega,
   List.take_of_length_le (by rw [wlen (by omega)]; omega), if_pos (by omega), show (o : Int) + (a : Int) + ((n - a - e : Nat) : Int) = ((o + a + (n - a - e) : Nat) : Int) from by omega, show (n : Int) - (a : Int) - ((n - a - e : Nat) : Int) = (e : Int) from by omega]
  have hl1 : (over X (o + a) (win X (o + a + e) (n - a - e))).length = X.length := over_len2 (by rw [wlen (by omega)]; omega)
  rw [f105 _ (o + a + (n - a - e)) e s (by omega) (by omega) k (by omega)]
  simp only [Option.bind_some]
  rw [slid_up (by omega) hel, fin, Int.neg_neg, if_pos (by rw [over_len2 (by rw [hfl]; omega), hl1]), f81 _ o n (by rw [over_len2 (by rw [hfl]; omega)]; omega) (by rw [over_len2 (by rw [hfl]; omega)]; omega) k hk, mend_in h (hfl _)]
  simp only [Option.bind_some]
  rw [if_pos (by rw [over_len2 (by rw [mend_len, hfl]; omega), over_len2 (by rw [hfl]; omega)])]
theorem f73 (S : S34) (X : List S55) (w h t u : Nat) (r by_ : Int) (s : S28) (hS : S.f0 = S26.mk (w : Int) r X) (hX : X.length = w * h) (hw0 : 0 < w) (hw : w ≤ 512) (hh : h ≤ 512) (htu : t ≤ u) (hu : u < h) (k : Nat) (hk : 1048576 < k) :
  F131i34m0b_0_.f k S (t : Int) (u : Int) by_ s = some { S with f0 := S26.mk (w : Int) r (over X (t * w) (slide (win X (t * w) ((u + 1 - t) * w)) (by_ * (w : Int)) (blk s))) } := by
 have hmul : ∀ {a b : Nat}, a ≤ b → a * w ≤ b * w := fun q => Nat.mul_le_mul_right _ q
 have m1 : h * w ≤ 512 * 512 := Nat.mul_le_mul hh hw
 have m2 : (u + 1) * w ≤ h * w := hmul (by omega)
 have m3 : t * w ≤ (u + 1) * w := hmul (by omega)
 have m4 : (u + 1 - t) * w = (u + 1) * w - t * w := Nat.sub_mul _ _ _
 have m5 : w * h = h * w := Nat.mul_comm _ _
 have hcl := clip_le (n := ((u + 1 - t : Nat) : Int)) (x := by_) (by omega)
 generalize ho : t * w = o at *
 generalize hn : (u + 1 - t) * w = n at *
 have hwn : (win X o n).length = n := wlen (by omega)
 have hc : maxI (IntKind.i64.wrap (0 - IntKind.i64.wrap (IntKind.i64.wrap ((u : Int) - (t : Int)) + 1))) (minI by_ (IntKind.i64.wrap (IntKind.i64.wrap ((u : Int) - (t : Int)) + 1))) = clip ((u + 1 - t : Nat) : Int) by_ := by
  rw [w64 (x := (u : Int) - (t : Int)) (by omega) (by omega), w64 (x := (u : Int) - (t : Int) + 1) (by omega) (by omega), w64 (by omega) (by omega), maxI_eq, minI_eq]; unfold clip; omega
 have hsl : slide (win X o n) (by_ * (w : Int)) (blk s) = slide (win X o n) (clip ((u + 1 - t : Nat) : Int) by_ * (w : Int)) (blk s) := (slide_clipm (by rw [hwn, hn]) hw0).symm
 have hol : (t : Int) * (w : Int) = (o : Int) := by rw [← ho]; simp
 have hul : ((u : Int) + 1) * (w : Int) = ((o + n : Nat) : Int) := by rw [show o + n = (u + 1) * w from by omega]; simp
 unfold F131i34m0b_0_.f
 rw [hS]
 simp only [lt, hc]
 rw [hol, w64 (x := (o : Int)) (by omega) (by omega), w64 (x := (u : Int) + 1) (by omega) (by omega), hul, w64 (x := ((o + n : Nat) : Int)) (by omega) (by omega), hsl]
 by_cases c : 0 ≤ clip ((u + 1 - t : Nat) : Int) by_
 ·obtain ⟨q, hq⟩ : ∃ q : Nat, clip ((u + 1 - t : Nat) : Int) by_ = (q : Int) := ⟨(clip ((u + 1 - t : Nat) : Int) by_).toNat, by omega⟩
  have hqw : q * w ≤ n := by rw [← hn]; exact hmul (by omega)
  rw [hq, show (q : Int) * (w : Int) = ((q * w : Nat) : Int) from by simp]
  generalize q * w = e at *
  rw [w64 (x := (e : Int)) (by omega) (by omega), if_pos (by omega), if_pos (by omega), if_pos (by omega)]
  rw [show (0 : Int) + (o : Int) + (e : Int) = ((o + e : Nat) : Int) from by omega, show ((o + n : Nat) : Int) - (o : Int) - (e : Int) = ((n - e : Nat) : Int) from by omega, sub_win, show ((0 : Int) + (o : Int)).toNat = o from by omega, show (((o + n : Nat) : Int) - (o : Int)).toNat = n from by omega,
   List.take_of_length_le (by rw [wlen (by omega)]; omega), w64 (x := ((n - e : Nat) : Int)) (by omega) (by omega), if_pos (by omega), show (0 : Int) + (o : Int) + ((n - e : Nat) : Int) = ((o + (n - e) : Nat) : Int) from by omega, show ((o + n : Nat) : Int) - (o : Int) - ((n - e : Nat) : Int) = (e : Int) from by omega]
  have hl1 : (over X o (win X (o + e) (n - e))).length = X.length := over_len2 (by rw [wlen (by omega)]; omega)
  rw [f105 _ (o + (n - e)) e s (by omega) (by omega) k (by omega)]
  simp only [Option.bind_some]
  rw [slid_up (by omega) hqw, if_pos (by rw [over_len2 (by rw [slide_len]; omega), hl1])]
 ·obtain ⟨q, hq⟩ : ∃ q : Nat, clip ((u + 1 - t : Nat) : Int) by_ = -(q : Int) := ⟨(-(clip ((u + 1 - t : Nat) : Int) by_)).toNat, by omega⟩
  have hqw : q * w ≤ n := by rw [← hn]; exact hmul (by omega)
  have hq0 : 0 < q * w := Nat.mul_pos (by omega) hw0
  rw [hq, Int.neg_mul, show (q : Int) * (w : Int) = ((q * w : Nat) : Int) from by simp]
  generalize q * w = e at *
  rw [w64 (x := -(e : Int)) (by omega) (by omega), if_pos (by omega), if_neg (by omega), show (0 : Int) - -(e : Int) = (e : Int) from by omega, w64 (x := (e : Int)) (by omega) (by omega), if_pos (by omega)]
  rw [show (0 : Int) + (o : Int) + (e : Int) = ((o + e : Nat) : Int) from by omega, show ((o + n : Nat) : Int) - (o : Int) - (e : Int) = ((n - e : Nat) : Int) from by omega, show (0 : Int) + (o : Int) + (((o + n : Nat) : Int) - (o : Int)) = (o : Int) + (n : Int) from by omega, show (0 : Int) + (o : Int) = (o : Int) from by omega, sub_win,
   Int.toNat_natCast, Int.toNat_natCast, if_pos (by omega), show (o : Int) + 0 = (o : Int) from by omega, show (e : Int) - 0 = (e : Int) from by omega]
  have hl1 : (over X (o + e) ((win X o n).take (n - e))).length = X.length := over_len2 (by rw [List.length_take]; omega)
  rw [f105 _ o e s (by omega) (by omega) k (by omega)]
  simp only [Option.bind_some]
  rw [slid_down (by omega) hqw, if_pos (by rw [over_len2 (by rw [slide_len]; omega), hl1])]
end Go.Proofs.YtckilbegmbaeeaaGreat.Z5Op
namespace Go.Proofs.YtckilbegmbaeeaaGreat.Z5Sp
open Go Go.RowKit Go.Proofs.YtckilbegmbaeeaaGreat.SL Go.Proofs.YtckilbegmbaeeaaGreat.Z5 Go.Proofs.YtckilbegmbaeeaaGreat.Z5May Go.Proofs.YtckilbegmbaeeaaGreat.Z5Ls Go.Proofs.YtckilbegmbaeeaaGreat.Z5Op
set_option linter.unusedVariables false
set_option linter.unusedSimpArgs false
theorem el_r {ρ σ β : Type} {r : ρ} {f : ρ → Option β} {g : σ → Option β} : Out.el (.ret r) f g = f r := rfl
theorem el_g {ρ σ β : Type} {s : σ} {f : ρ → Option β} {g : σ → Option β} : Out.el (.go s) f g = g s := rfl
structure Gr (g : S26) : Prop where
 len : g.f2.length < 4611686018427387904
 wide : ∀ x ∈ g.f2, 0 ≤ x.f2 ∧ x.f2 < 256
def sizedB (c r : Int) : Bool := decide (1 ≤ c ∧ c ≤ 512 ∧ 1 ≤ r ∧ r ≤ 512)
theorem f78 (c r : Int) : F68.f c r = some (sizedB c r) := by
 unfold F68.f sizedB
 simp only [lt]
 congr 1
 by_cases h1 : 1 ≤ c <;> by_cases h2 : c ≤ 512 <;> by_cases h3 : 1 ≤ r <;> by_cases h4 : r ≤ 512 <;> simp [h1, h2, h3, h4]
theorem sized_mul {c r : Int} (h : sizedB c r = true) : ∃ w q : Nat, c = (w : Int) ∧ r = (q : Int) ∧ 0 < w ∧ w ≤ 512 ∧ 0 < q ∧ q ≤ 512 ∧ w * q ≤ 262144 ∧ c * r = ((w * q : Nat) : Int) ∧ IntKind.i64.wrap (c * r) = ((w * q : Nat) : Int) := by
 unfold sizedB at h
 simp only [decide_eq_true_eq] at h
 obtain ⟨a, b, c', d⟩ := h
 obtain ⟨w, rfl⟩ : ∃ w : Nat, c = (w : Int) := ⟨c.toNat, by omega⟩
 obtain ⟨q, rfl⟩ : ∃ q : Nat, r = (q : Int) := ⟨r.toNat, by omega⟩
 have hm : w * q ≤ 512 * 512 := Nat.mul_le_mul (by omega) (by omega)
 have hc : (w : Int) * (q : Int) = ((w * q : Nat) : Int) := by simp
 exact ⟨w, q, rfl, rfl, by omega, by omega, by omega, by omega, by omega, hc, by rw [hc, w64 (by omega) (by omega)]⟩
theorem may_false {g : S26} (h : ¬ g.f2.length ≤ 1048576) : mayGrid g = false := by
 unfold mayGrid
 rw [Bool.and_eq_false_iff]; left
 rw [decide_eq_false_iff_not]
 rintro ⟨a, b, c, d, e⟩
 obtain ⟨w, q, h1, h2, _, _, _, _, hq, hc, _⟩ := sized_mul (c := g.f0) (r := g.f1) (by unfold sizedB; simp [a, b, c, d])
 omega
theorem f41w (g : S26) (hg : Gr g) (k : Nat) (hk : 1100000 ≤ k) : F57b0.f k g = some (mayGrid g) := by
 by_cases h : g.f2.length ≤ 1048576
 ·exact f41 g h hg.wide k (by omega)
 ·rw [may_false h]
  unfold F57b0.f
  rw [f78]
  simp only [Option.bind_some, lt]
  rw [if_pos]
  cases hs : sizedB g.f0 g.f1
  ·simp
  ·obtain ⟨w, q, h1, h2, _, _, _, _, hq, hc, hw⟩ := sized_mul hs
   rw [hw]; simp; omega
theorem f67 (n : Int) : F70.f n = some (decide (1 ≤ n ∧ n ≤ 512)) := by
 unfold F70.f
 simp only [lt]
 congr 1
 by_cases h1 : 1 ≤ n <;> by_cases h2 : n ≤ 512 <;> simp [h1, h2]
theorem side2 (c r : Int) : (decide (1 ≤ c ∧ c ≤ 512) && decide (1 ≤ r ∧ r ≤ 512)) = sizedB c r := by
 unfold sizedB
 by_cases h1 : 1 ≤ c <;> by_cases h2 : c ≤ 512 <;> by_cases h3 : 1 ≤ r <;> by_cases h4 : r ≤ 512 <;> simp [h1, h2, h3, h4]
theorem f30w (g : S26) (hg : Gr g) (k : Nat) (hk : 1100000 ≤ k) : F54b0.f k g = some (mayGrid g) := by
 by_cases h : g.f2.length ≤ 1048576
 ·exact f30 g h hg.wide k (by omega)
 ·rw [may_false h]
  unfold F54b0.f
  rw [f67, f67]
  simp only [Option.bind_some, lt]
  have hs := side2 g.f0 g.f1
  cases h1 : decide (1 ≤ g.f0 ∧ g.f0 ≤ 512)
  ·simp
  ·cases h2 : decide (1 ≤ g.f1 ∧ g.f1 ≤ 512)
   ·simp
   ·rw [h1, h2] at hs
    obtain ⟨w, q, _, _, _, _, _, _, hq, hc, hw⟩ := sized_mul hs.symm
    rw [hw]
    have : (g.f2.length : Int) ≠ ((w * q : Nat) : Int) := by omega
    rw [decide_eq_true this]; simp
theorem may_size {g : S26} (h : mayGrid g = true) : ∃ w q : Nat, g.f0 = (w : Int) ∧ g.f1 = (q : Int) ∧ 0 < w ∧ w ≤ 512 ∧ 0 < q ∧ q ≤ 512 ∧ g.f2.length = w * q ∧ w * q ≤ 262144 := by
 unfold mayGrid at h
 simp only [Bool.and_eq_true, decide_eq_true_eq] at h
 obtain ⟨⟨a, b, c, d, e⟩, _⟩ := h
 obtain ⟨w, q, h1, h2, h3, h4, h5, h6, hq, hc, hw⟩ := sized_mul (c := g.f0) (r := g.f1) (by unfold sizedB; simp [a, b, c, d])
 exact ⟨w, q, h1, h2, h3, h4, h5, h6, by omega, hq⟩
def no : S26 × Int := (S26.mk 0 0 [], 2)
theorem f72 (g : S26) (h : g.f2.length ≤ 2932031007402) : F137.f g = some g := by
 unfold F137.f F158.f
 rw [if_pos (by simpa using h)]
 simp [lt]
theorem place {w q i : Nat} (hq : i < q) : i * w + w ≤ w * q := by
 have : (i + 1) * w ≤ q * w := Nat.mul_le_mul_right _ hq
 rw [Nat.add_mul, Nat.one_mul, Nat.mul_comm q w] at this; exact this
theorem at80 (X : List S55) (w q i : Nat) (r : Int) (hX : X.length = w * q) (hb : w * q ≤ 262144) (hi : i < q) : F135b0.f (S26.mk (w : Int) r X) (i : Int) = some (((i * w : Nat) : Int), (w : Int)) := by
 have hp := place (w := w) hi
 unfold F135b0.f
 simp only [lt]
 rw [show (i : Int) * (w : Int) = ((i * w : Nat) : Int) from by simp, w64 (x := ((i * w : Nat) : Int)) (by omega) (by omega), w64 (x := ((i * w : Nat) : Int) + (w : Int)) (by omega) (by omega), if_pos (by omega)]
 congr 2 <;> omega
theorem at80r (X : List S55) (w q i : Nat) (r : Int) (hX : X.length = w * q) (hb : w * q ≤ 262144) (hi : i < q) : F135.f (S26.mk (w : Int) r X) (i : Int) = some (win X (i * w) w) := by
 have hp := place (w := w) hi
 unfold F135.f
 simp only [lt]
 rw [show (i : Int) * (w : Int) = ((i * w : Nat) : Int) from by simp, w64 (x := ((i * w : Nat) : Int)) (by omega) (by omega), w64 (x := ((i * w : Nat) : Int) + (w : Int)) (by omega) (by omega), if_pos (by omega), sub_win]
def rowOk (g : S26) (row : Int) (s : S28) : Bool := mayGrid g && (decide (0 ≤ row) && (decide (row < g.f1) && mayStyle s))
def onRow (g : S26) (row : Int) (f : List S55 → List S55) : S26 × Int := (S26.mk g.f0 g.f1 (over g.f2 (row.toNat * g.f0.toNat) (mendL (f (win g.f2 (row.toNat * g.f0.toNat) g.f0.toNat)))), 0)
theorem rowOk_size {g : S26} {row : Int} {s : S28} (h : rowOk g row s = true) : ∃ w q i : Nat, g.f0 = (w : Int) ∧ g.f1 = (q : Int) ∧ row = (i : Int) ∧ 0 < w ∧ w ≤ 512 ∧ q ≤ 512 ∧ i < q ∧ g.f2.length = w * q ∧ w * q ≤ 262144 ∧ i * w + w ≤ g.f2.length := by
 unfold rowOk at h
 simp only [Bool.and_eq_true, decide_eq_true_eq] at h
 obtain ⟨hm, h0, h1, _⟩ := h
 obtain ⟨w, q, e0, e1, a, b, c, d, hl, hb⟩ := may_size hm
 exact ⟨w, q, row.toNat, e0, e1, by omega, a, b, d, by omega, hl, hb, by rw [hl]; exact place (by omega)⟩
end Go.Proofs.YtckilbegmbaeeaaGreat.Z5Sp
namespace Go.Proofs.YtckilbegmbaeeaaGreat.Z5Sp
open Go Go.RowKit Go.Proofs.YtckilbegmbaeeaaGreat.SL Go.Proofs.YtckilbegmbaeeaaGreat.Z5 Go.Proofs.YtckilbegmbaeeaaGreat.Z5May Go.Proofs.YtckilbegmbaeeaaGreat.Z5Ls Go.Proofs.YtckilbegmbaeeaaGreat.Z5Op
set_option linter.unusedVariables false
set_option linter.unusedSimpArgs false
theorem shift_len {W : List S55} {a : Nat} {d : Int} {b : S55} (h : a ≤ W.length) : (over W a (slide (W.drop a) d b)).length = W.length := over_len2 (by rw [slide_len]; simp; omega)
end Go.Proofs.YtckilbegmbaeeaaGreat.Z5Sp
namespace Go.Proofs.YtckilbegmbaeeaaGreat.Z5Sp
open Go Go.RowKit Go.Proofs.YtckilbegmbaeeaaGreat.SL Go.Proofs.YtckilbegmbaeeaaGreat.Z5 Go.Proofs.YtckilbegmbaeeaaGreat.Z5May Go.Proofs.YtckilbegmbaeeaaGreat.Z5Ls Go.Proofs.YtckilbegmbaeeaaGreat.Z5Op
set_option linter.unusedVariables false
set_option linter.unusedSimpArgs false
def scrollOk (g : S26) (t u : Int) (s : S28) : Bool := mayGrid g && (decide (0 ≤ t) && (decide (t ≤ u) && (decide (u < g.f1) && mayStyle s)))
def sScroll (g : S26) (t u by_ : Int) (s : S28) : S26 × Int :=
 if scrollOk g t u s = true then (S26.mk g.f0 g.f1 (over g.f2 (t.toNat * g.f0.toNat) (slide (win g.f2 (t.toNat * g.f0.toNat) ((u.toNat + 1 - t.toNat) * g.f0.toNat)) (by_ * g.f0) (blk s))), 0) else no
theorem scrollOk_size {g : S26} {t u : Int} {s : S28} (h : scrollOk g t u s = true) : ∃ w q i j : Nat, g.f0 = (w : Int) ∧ g.f1 = (q : Int) ∧ t = (i : Int) ∧ u = (j : Int) ∧ 0 < w ∧ w ≤ 512 ∧ q ≤ 512 ∧ i ≤ j ∧ j < q ∧ g.f2.length = w * q ∧ w * q ≤ 262144 := by
 unfold scrollOk at h
 simp only [Bool.and_eq_true, decide_eq_true_eq] at h
 obtain ⟨hm, h0, h1, h2, _⟩ := h
 obtain ⟨w, q, e0, e1, a, b, c, d, hl, hb⟩ := may_size hm
 exact ⟨w, q, t.toNat, u.toNat, e0, e1, by omega, by omega, a, b, d, by omega, by omega, hl, hb⟩
theorem row_lo {p : Int} {c w : Nat} (hc : c < w) : 0 ≤ p * (w : Int) + (c : Int) ↔ 0 ≤ p := by
 constructor
 ·intro h
  by_cases q : 0 ≤ p
  ·exact q
  ·exfalso
   have : p * (w : Int) ≤ -1 * (w : Int) := Int.mul_le_mul_of_nonneg_right (by omega) (by omega)
   omega
 ·intro h
  have : 0 ≤ p * (w : Int) := Int.mul_nonneg h (by omega)
  omega
theorem row_hi {p h : Int} {c w : Nat} (hc : c < w) : p * (w : Int) + (c : Int) < h * (w : Int) ↔ p < h := by
 have := row_lo (p := p - h) hc
 rw [Int.sub_mul] at this
 omega
theorem l40 (a b : S26) (h : a.f2.length = b.f2.length) (hl : a.f2.length < 4611686018427387904) : ∀ (m k i : Nat), i + m = a.f2.length → m < k →
  F18b0b1.l0 a b k (i : Int) = some (if a.f2.drop i = b.f2.drop i then Out.go () else Out.ret false)
 | 0, 0, _, _, hk => by omega
 | 0, k + 1, i, hi, hk => by
  rw [F18b0b1.l0, if_neg (by omega), List.drop_of_length_le (by omega), List.drop_of_length_le (by omega)]; simp
 | m + 1, 0, _, _, hk => by omega
 | m + 1, k + 1, i, hi, hk => by
  have h1 : i < a.f2.length := by omega
  have h2 : i < b.f2.length := by omega
  rw [F18b0b1.l0, if_pos (by omega), if_pos (by omega), if_pos (by omega), rd_lt h1, rd_lt h2, List.drop_eq_getElem_cons h1, List.drop_eq_getElem_cons h2]
  by_cases he : a.f2[i] = b.f2[i]
  ·rw [if_neg (by simpa using he)]
   simp only [lt, wsucc (show i < 4611686018427387904 by omega)]
   rw [l40 a b h hl m k (i + 1) (by omega) (by omega)]
   simp only [List.cons.injEq, he, true_and]
  ·rw [if_pos he, if_neg (by intro q; exact he (List.cons.inj q).1)]
def sameB (a b : S26) : Bool := decide (a.f0 = b.f0) && (decide (a.f1 = b.f1) && decide (a.f2 = b.f2))
theorem f40 (a b : S26) (hl : a.f2.length < 4611686018427387904) (k : Nat) (hk : a.f2.length < k) : F18b0b1.f k a b = some (sameB a b) := by
 unfold F18b0b1.f sameB
 simp only [lt]
 by_cases h0 : a.f0 = b.f0
 ·by_cases h1 : a.f1 = b.f1
  ·by_cases h2 : a.f2.length = b.f2.length
   ·have h3 := l40 a b h2 hl a.f2.length k 0 (by omega) hk
    rw [List.drop_zero, List.drop_zero] at h3
    have e : F18b0b1.l0 a b k 0 = some (if a.f2 = b.f2 then Out.go () else Out.ret false) := h3
    simp only [h0, h1, h2, ne_eq, not_true_eq_false, decide_false, Bool.or_self, Bool.false_eq_true, if_false, e, Option.bind_some]
    by_cases h4 : a.f2 = b.f2
    ·rw [if_pos h4]; simp [el_g, h4]
    ·rw [if_neg h4]; simp [el_r, h4]
   ·have : a.f2 ≠ b.f2 := fun q => h2 (by rw [q])
    have h2' : ¬ ((a.f2.length : Int) = (b.f2.length : Int)) := by omega
    simp [h0, h1, h2, this]
    intro q; exact absurd q h2'
  ·simp [h1]
 ·simp [h0]
theorem same_refl (a : S26) : sameB a a = true := by simp [sameB]
end Go.Proofs.YtckilbegmbaeeaaGreat.Z5Sp
namespace Go.Proofs.YtckilbegmbaeeaaGreat.Z5Sp
open Go Go.RowKit Go.Proofs.YtckilbegmbaeeaaGreat.SL Go.Proofs.YtckilbegmbaeeaaGreat.Z5 Go.Proofs.YtckilbegmbaeeaaGreat.Z5May Go.Proofs.YtckilbegmbaeeaaGreat.Z5Ls Go.Proofs.YtckilbegmbaeeaaGreat.Z5Op
set_option linter.unusedVariables false
set_option linter.unusedSimpArgs false
def sNew (c r : Int) (s : S28) : S26 × Int := if (sizedB c r && mayStyle s) = true then (S26.mk c r (List.replicate (c * r).toNat (blk s)), 0) else no
theorem l116b (X : List S55) (b : S55) (hb : X.length < 4611686018427387904) : ∀ (m k i : Nat), i + m = X.length → m < k →
  F116b0.l0 X b k (i : Int) (over X 0 (List.replicate i b)) = some (over X 0 (List.replicate X.length b))
 | 0, 0, _, _, hk => by omega
 | 0, k + 1, i, hi, hk => by
  rw [F116b0.l0, if_pos (by rw [over_len2 (by simp; omega)]), if_neg (by omega), show i = X.length from by omega]
 | m + 1, 0, _, _, hk => by omega
 | m + 1, k + 1, i, hi, hk => by
  rw [F116b0.l0, if_pos (by rw [over_len2 (by simp; omega)]), if_pos (by omega), if_pos (by rw [over_len2 (by simp; omega)]; omega)]
  simp only [lt]
  rw [wsucc (by omega)]
  have e : ((i : Int)).toNat = 0 + (List.replicate i b).length := by simp
  rw [e, over_set (by simp; omega), ← List.replicate_succ']
  exact l116b X b hb m k (i + 1) (by omega) (by omega)
theorem f116b (X : List S55) (s : S28) (hb : X.length < 4611686018427387904) (k : Nat) (hk : X.length < k) : F116b0.f k X s = some (List.replicate X.length (blk s)) := by
 unfold F116b0.f
 rw [f110]
 have := l116b X (blk s) hb X.length k 0 (by omega) hk
 rw [List.replicate_zero, over_nil] at this
 simp only [Option.bind_some]
 rw [show (0 : Int) = ((0 : Nat) : Int) from rfl, this]
 simp only [Option.bind_some]
 rw [if_pos (over_len2 (by simp))]
 unfold over; simp
theorem f79 (w q : Nat) (s : S28) (hq : w * q ≤ 262144) (k : Nat) (hk : 262144 < k) : F69.f k (w : Int) (q : Int) s = some (S26.mk (w : Int) (q : Int) (List.replicate (w * q) (blk s))) := by
 unfold F69.f
 rw [show (w : Int) * (q : Int) = ((w * q : Nat) : Int) from by simp, w64 (by omega) (by omega), if_pos (by omega), Int.toNat_natCast]
 simp only [lt]
 rw [f116b _ s (by simp; omega) k (by simp; omega)]
 simp
theorem f44 (c r : Int) (s : S28) (k : Nat) (hk : 1100000 ≤ k) : F21.f k c r s = some (sNew c r s) := by
 unfold F21.f sNew
 rw [f78]
 simp only [Option.bind_some, f71]
 cases hs : sizedB c r
 ·simp [no]
 ·cases hm : mayStyle s
  ·simp [no]
  ·obtain ⟨w, q, rfl, rfl, _, _, _, _, hq, hc, _⟩ := sized_mul hs
   simp only [Bool.not_true, Bool.false_eq_true, if_false, Option.bind_some, Bool.and_self, if_true]
   rw [f79 w q s hq k (by omega), hc, Int.toNat_natCast]
   rfl
def resL (X : List S55) (w w' : Nat) : Nat → Nat → List S55 → List S55
 | 0, _, Z => Z
 | n + 1, i, Z => resL X w w' n (i + 1) (over Z (i * w') (mendL (over (win Z (i * w') w') 0 ((win X (i * w) w).take w'))))
theorem res_step {X Z : List S55} {w w' i : Nat} (hz : i * w' + w' ≤ Z.length) : (over Z (i * w') (mendL (over (win Z (i * w') w') 0 ((win X (i * w) w).take w')))).length = Z.length :=
 over_len2 (by rw [mend_len, over_len2 (by rw [List.length_take, wlen hz]; omega), wlen hz]; exact hz)
theorem res_len {X : List S55} {w w' q' : Nat} : ∀ (n i : Nat) (Z : List S55), i + n ≤ q' → Z.length = w' * q' → (resL X w w' n i Z).length = w' * q'
 | 0, i, Z, h, hl => hl
 | n + 1, i, Z, h, hl => by
  have hp := place (w := w') (i := i) (q := q') (by omega)
  rw [resL]
  exact res_len n (i + 1) _ (by omega) (by rw [res_step (by omega)]; exact hl)
def sResize (g : S26) (c r : Int) (s : S28) : S26 × Int :=
 if (mayGrid g && (sizedB c r && mayStyle s)) = true then (S26.mk c r (resL g.f2 g.f0.toNat c.toNat (min r g.f1).toNat 0 (List.replicate (c * r).toNat (blk s))), 0) else no
theorem l38 (g : S26) (w q w' q' : Nat) (e0 : g.f0 = (w : Int)) (e1 : g.f1 = (q : Int)) (hlen : g.f2.length = w * q) (hb : w * q ≤ 262144) (hb' : w' * q' ≤ 262144) (hw' : w' ≤ 512) (hq5 : q' ≤ 512) (Z0 : List S55) (hZ0 : Z0.length = w' * q') : ∀ (m k i : Nat) (Z : List S55), i + m = min q' q → Z.length = w' * q' → m + 520 < k →
  F96.l0 g (q' : Int) (S26.mk (w' : Int) (q' : Int) Z0) k (i : Int) Z = some (resL g.f2 w w' m i Z)
 | 0, 0, _, _, _, _, hk => by omega
 | 0, k + 1, i, Z, hi, hZ, hk => by
  rw [F96.l0, if_pos (show Z.length = Z0.length by omega), minI_eq, e1, if_neg (by omega)]; rfl
 | m + 1, 0, _, _, _, _, hk => by omega
 | m + 1, k + 1, i, Z, hi, hZ, hk => by
  have hp := place (w := w') (i := i) (q := q') (by omega)
  have h1 := at80 Z w' q' i (q' : Int) hZ hb' (by omega)
  have h2 := at80r g.f2 w q i g.f1 hlen hb (by omega)
  rw [← e0] at h2
  have hlt : ((win g.f2 (i * w) w).take w').length ≤ w' := by rw [List.length_take]; omega
  rw [F96.l0, if_pos (show Z.length = Z0.length by omega), minI_eq, e1, if_pos (by omega), h1]
  simp only [Option.bind_some]
  rw [if_pos (by omega), show F135.f g (i : Int) = some (win g.f2 (i * w) w) from h2]
  simp only [Option.bind_some, lt, Int.toNat_natCast]
  have hov : over Z (i * w') ((win g.f2 (i * w) w).take w') = over Z (i * w') (over (win Z (i * w') w') 0 ((win g.f2 (i * w) w).take w')) := by
   have := over_in (X := Z) (ys := (win g.f2 (i * w) w).take w') (o := i * w') (a := 0) (n := w') (by omega) (by omega)
   simpa using this
  have hl2 : (over (win Z (i * w') w') 0 ((win g.f2 (i * w) w).take w')).length = w' := by rw [over_len2 (by rw [wlen (by omega)]; omega), wlen (by omega)]
  have hl1 : (over Z (i * w') ((win g.f2 (i * w) w).take w')).length = Z.length := over_len2 (by omega)
  rw [f81 _ (i * w') w' (by omega) (by omega) k (by omega)]
  simp only [Option.bind_some]
  rw [if_pos (over_len2 (by rw [mend_len, wlen (by omega)]; omega)), hov, mend_in (by omega) hl2, wsucc (by omega), resL]
  exact l38 g w q w' q' e0 e1 hlen hb hb' hw' hq5 Z0 hZ0 m k (i + 1) _ (by omega) (by rw [res_step (by omega)]; exact hZ) (by omega)
theorem f38 (g : S26) (hg : Gr g) (c r : Int) (s : S28) (k : Nat) (hk : 1100000 ≤ k) : F96.f k g c r s = some (sResize g c r s) := by
 unfold F96.f sResize
 rw [f41w g hg k hk, f78]
 simp only [Option.bind_some, f71]
 cases hm : mayGrid g
 ·simp [no]
 ·cases hs : sizedB c r
  ·simp [no]
  ·cases hy : mayStyle s
   ·simp [no]
   ·obtain ⟨w, q, e0, e1, _, _, _, _, hlen, hb⟩ := may_size hm
    obtain ⟨w', q', rfl, rfl, _, _, _, _, hq, hc, _⟩ := sized_mul hs
    simp only [Bool.not_true, Bool.false_eq_true, if_false, Option.bind_some, Bool.and_self, if_true]
    rw [f79 w' q' s hq k (by omega)]
    simp only [Option.bind_some]
    have h0 := l38 g w q w' q' e0 e1 hlen hb hq (by omega) (by omega) (List.replicate (w' * q') (blk s)) (by simp) (min q' q) k 0 (List.replicate (w' * q') (blk s)) (by omega) (by simp) (by omega)
    rw [show (0 : Int) = ((0 : Nat) : Int) from rfl, h0]
    simp only [Option.bind_some]
    rw [if_pos (by rw [res_len (q' := q') _ _ _ (by omega) (by simp)]; simp), hc, e0, e1]
    simp only [Int.toNat_natCast, show (min (q' : Int) (q : Int)).toNat = min q' q from by omega]
theorem l96b (g : S26) (w q w' q' : Nat) (e0 : g.f0 = (w : Int)) (e1 : g.f1 = (q : Int)) (hlen : g.f2.length = w * q) (hb : w * q ≤ 262144) (hb' : w' * q' ≤ 262144) (hw' : w' ≤ 512) (hq5 : q' ≤ 512) (Z0 : List S55) (hZ0 : Z0.length = w' * q') : ∀ (m k i : Nat) (Z : List S55), i + m = min q' q → Z.length = w' * q' → m + 520 < k →
  F96b0.l0 g (q' : Int) (S26.mk (w' : Int) (q' : Int) Z0) k (i : Int) Z = some (resL g.f2 w w' m i Z)
 | 0, 0, _, _, _, _, hk => by omega
 | 0, k + 1, i, Z, hi, hZ, hk => by
  rw [F96b0.l0, if_pos (show Z.length = Z0.length by omega), minI_eq, e1, if_neg (by omega)]; rfl
 | m + 1, 0, _, _, _, _, hk => by omega
 | m + 1, k + 1, i, Z, hi, hZ, hk => by
  have hp := place (w := w') (i := i) (q := q') (by omega)
  have h1 := at80 Z w' q' i (q' : Int) hZ hb' (by omega)
  have h2 := at80 g.f2 w q i g.f1 hlen hb (by omega)
  have hp2 := place (w := w) (i := i) (q := q) (by omega)
  rw [← e0] at h2
  have hlt : ((win g.f2 (i * w) w).take w').length ≤ w' := by rw [List.length_take]; omega
  rw [F96b0.l0, if_pos (show Z.length = Z0.length by omega), minI_eq, e1, if_pos (by omega), h1]
  simp only [Option.bind_some]
  rw [if_pos (by omega), show F135b0.f g (i : Int) = some (((i * w : Nat) : Int), g.f0) from h2, e0]
  simp only [Option.bind_some]
  rw [if_pos (by omega), sub_win]
  simp only [lt, Int.toNat_natCast]
  have hov : over Z (i * w') ((win g.f2 (i * w) w).take w') = over Z (i * w') (over (win Z (i * w') w') 0 ((win g.f2 (i * w) w).take w')) := by
   have := over_in (X := Z) (ys := (win g.f2 (i * w) w).take w') (o := i * w') (a := 0) (n := w') (by omega) (by omega)
   simpa using this
  have hl2 : (over (win Z (i * w') w') 0 ((win g.f2 (i * w) w).take w')).length = w' := by rw [over_len2 (by rw [wlen (by omega)]; omega), wlen (by omega)]
  have hl1 : (over Z (i * w') ((win g.f2 (i * w) w).take w')).length = Z.length := over_len2 (by omega)
  rw [f81 _ (i * w') w' (by omega) (by omega) k (by omega)]
  simp only [Option.bind_some]
  rw [if_pos (over_len2 (by rw [mend_len, wlen (by omega)]; omega)), hov, mend_in (by omega) hl2, wsucc (by omega), resL]
  exact l96b g w q w' q' e0 e1 hlen hb hb' hw' hq5 Z0 hZ0 m k (i + 1) _ (by omega) (by rw [res_step (by omega)]; exact hZ) (by omega)
theorem f96b (g : S26) (hg : Gr g) (c r : Int) (s : S28) (k : Nat) (hk : 1100000 ≤ k) : F96b0.f k g c r s = some (sResize g c r s) := by
 unfold F96b0.f sResize
 rw [f41w g hg k hk, f78]
 simp only [Option.bind_some, f71]
 cases hm : mayGrid g
 ·simp [no]
 ·cases hs : sizedB c r
  ·simp [no]
  ·cases hy : mayStyle s
   ·simp [no]
   ·obtain ⟨w, q, e0, e1, _, _, _, _, hlen, hb⟩ := may_size hm
    obtain ⟨w', q', rfl, rfl, _, _, _, _, hq, hc, _⟩ := sized_mul hs
    simp only [Bool.not_true, Bool.false_eq_true, if_false, Option.bind_some, Bool.and_self, if_true]
    rw [f79 w' q' s hq k (by omega)]
    simp only [Option.bind_some]
    have h0 := l96b g w q w' q' e0 e1 hlen hb hq (by omega) (by omega) (List.replicate (w' * q') (blk s)) (by simp) (min q' q) k 0 (List.replicate (w' * q') (blk s)) (by omega) (by simp) (by omega)
    rw [show (0 : Int) = ((0 : Nat) : Int) from rfl, h0]
    simp only [Option.bind_some]
    rw [if_pos (by rw [res_len (q' := q') _ _ _ (by omega) (by simp)]; simp), hc, e0, e1]
    simp only [Int.toNat_natCast, show (min (q' : Int) (q : Int)).toNat = min q' q from by omega]
end Go.Proofs.YtckilbegmbaeeaaGreat.Z5Sp
namespace Go.Proofs.YtckilbegmbaeeaaGreat.Z5Sp
open Go Go.RowKit Go.Proofs.YtckilbegmbaeeaaGreat.SL Go.Proofs.YtckilbegmbaeeaaGreat.Z5 Go.Proofs.YtckilbegmbaeeaaGreat.Z5May Go.Proofs.YtckilbegmbaeeaaGreat.Z5Ls Go.Proofs.YtckilbegmbaeeaaGreat.Z5Op
set_option linter.unusedVariables false
set_option linter.unusedSimpArgs false
def rowG (W : List S55) (j : Nat) : Prop :=
 mayCell (rd W (j : Int)) = true ∧ ((rd W (j : Int)).f2 = 0 ↔ (0 < j ∧ (rd W ((j - 1 : Nat) : Int)).f2 = 2)) ∧
  ((0 < j ∧ (rd W ((j - 1 : Nat) : Int)).f2 = 2) → (rd W (j : Int)).f3 = (rd W ((j - 1 : Nat) : Int)).f3) ∧ ¬ ((rd W (j : Int)).f2 = 2 ∧ j = W.length - 1)
def RowG (W : List S55) : Prop := ∀ j, j < W.length → rowG W j
theorem okR_row (g : S26) (w i j : Nat) (hj : j < w) (hl : i * w + w ≤ g.f2.length) : okR g w (i * w + j) = true ↔ rowG (win g.f2 (i * w) w) j := by
 rw [okR_iff]; unfold rowG
 have hm : (i * w + j) % w = j := by rw [Nat.mul_comm, Nat.mul_add_mod, Nat.mod_eq_of_lt hj]
 have e1 : rd (win g.f2 (i * w) w) (j : Int) = rd g.f2 ((i * w + j : Nat) : Int) := by rw [rd_win hj hl]; congr 1
 rw [hm, wlen hl, e1]
 by_cases h0 : j = 0
 ·subst h0; simp
 ·have e2 : rd (win g.f2 (i * w) w) ((j - 1 : Nat) : Int) = rd g.f2 ((i * w + j - 1 : Nat) : Int) := by
   rw [rd_win (by omega) hl, show i * w + j - 1 = i * w + (j - 1) from by omega]; congr 1
  rw [e2]
theorem mayGrid_iff (g : S26) : mayGrid g = true ↔ ∃ w q : Nat, g.f0 = (w : Int) ∧ g.f1 = (q : Int) ∧ 0 < w ∧ w ≤ 512 ∧ 0 < q ∧ q ≤ 512 ∧ g.f2.length = w * q ∧ ∀ i, i < q → RowG (win g.f2 (i * w) w) := by
 constructor
 ·intro h
  obtain ⟨w, q, e0, e1, a, b, c, d, hl, _⟩ := may_size h
  refine ⟨w, q, e0, e1, a, b, c, d, hl, fun i hi j hj => ?_⟩
  have hp := place (w := w) hi
  rw [wlen (by omega)] at hj
  unfold mayGrid at h
  simp only [Bool.and_eq_true, List.all_eq_true, List.mem_range] at h
  have := h.2 (i * w + j) (by omega)
  rw [e0, Int.toNat_natCast] at this
  exact (okR_row g w i j hj (by omega)).1 this
 ·rintro ⟨w, q, e0, e1, a, b, c, d, hl, hr⟩
  unfold mayGrid
  simp only [Bool.and_eq_true, List.all_eq_true, List.mem_range, decide_eq_true_eq]
  refine ⟨⟨by omega, by omega, by omega, by omega, by rw [hl, e0, e1]; simp⟩, fun n hn => ?_⟩
  rw [e0, Int.toNat_natCast]
  have h1 := Nat.mod_lt n a
  have h2 := Nat.div_add_mod n w
  have h3 : n / w < q := Nat.div_lt_of_lt_mul (by omega)
  have hp := place (w := w) h3
  have h4 : n = n / w * w + n % w := by rw [Nat.mul_comm]; omega
  rw [h4]
  exact (okR_row g w (n / w) (n % w) h1 (by omega)).2 (hr _ h3 _ (by rw [wlen (by omega)]; exact h1))
theorem mem_rd {l : List S55} {x : S55} (h : x ∈ l) : ∃ i, i < l.length ∧ rd l (i : Int) = x := by
 obtain ⟨i, hi, e⟩ := List.getElem_of_mem h
 exact ⟨i, hi, by rw [rd_lt hi, e]⟩
theorem rd_mem {l : List S55} {i : Nat} (h : i < l.length) : rd l (i : Int) ∈ l := by rw [rd_lt h]; exact List.getElem_mem h
theorem RowG.cells {W : List S55} (h : RowG W) : ∀ x ∈ W, mayCell x = true := fun x hx => by
 obtain ⟨i, hi, e⟩ := mem_rd hx
 rw [← e]; exact (h i hi).1
theorem wid32 : wid 32 = 1 := by kernel_rfl
theorem may_blk {s : S28} (h : mayStyle s = true) : mayCell (blk s) = true := by
 have h1 : colOk s.f1 = true := by unfold mayStyle at h; simp only [Bool.and_eq_true] at h; exact h.2
 have h2 : mayStyle (S28.mk (-1) s.f1 false false false false false false false false) = true := by unfold mayStyle; rw [h1]; rfl
 unfold mayCell blk
 simp only [h2, wid32]
 simp [marksOk]
theorem may_style {x : S55} (h : mayCell x = true) : mayStyle x.f3 = true := by
 unfold mayCell at h
 cases hs : mayStyle x.f3
 ·rw [hs] at h; simp at h
 ·rfl
theorem mend_good {W : List S55} (h : ∀ x ∈ W, mayCell x = true) : RowG (mendL W) := by
 intro j hj
 rw [mend_len] at hj
 have key : ∀ i, i < W.length → mayCell (mendAt W i) = true := fun i hi => by
  have hm := h _ (rd_mem hi)
  unfold mendAt; split
  ·exact may_blk (may_style hm)
  ·exact hm
 have b2 : ∀ i, i < W.length → ((mendAt W i).f2 = 2 ↔ (rd W (i : Int)).f2 = 2 ∧ isW W ((i : Int) + 1) 0 (rd W (i : Int)).f3 = true) := fun i hi => by
  unfold mendAt badAt
  by_cases c1 : (rd W (i : Int)).f2 = 2
  ·cases c2 : isW W ((i : Int) + 1) 0 (rd W (i : Int)).f3 <;> simp [c1, blk]
  ·cases c2 : isW W ((i : Int) - 1) 2 (rd W (i : Int)).f3 <;> by_cases c3 : (rd W (i : Int)).f2 = 0 <;> simp [c1, c3, blk]
 have b0 : ∀ i, i < W.length → ((mendAt W i).f2 = 0 ↔ (rd W (i : Int)).f2 = 0 ∧ isW W ((i : Int) - 1) 2 (rd W (i : Int)).f3 = true) := fun i hi => by
  unfold mendAt badAt
  by_cases c1 : (rd W (i : Int)).f2 = 0
  ·cases c2 : isW W ((i : Int) - 1) 2 (rd W (i : Int)).f3 <;> simp [c1, blk]
  ·cases c2 : isW W ((i : Int) + 1) 0 (rd W (i : Int)).f3 <;> by_cases c3 : (rd W (i : Int)).f2 = 2 <;> simp [c1, c3, blk]
 have k2 : ∀ i, (mendAt W i).f2 = 2 → mendAt W i = rd W (i : Int) := fun i hi => by
  unfold mendAt at hi ⊢; split
  ·rename_i q; rw [if_pos q] at hi; simp [blk] at hi
  ·rfl
 have k0 : ∀ i, (mendAt W i).f2 = 0 → mendAt W i = rd W (i : Int) := fun i hi => by
  unfold mendAt at hi ⊢; split
  ·rename_i q; rw [if_pos q] at hi; simp [blk] at hi
  ·rfl
 unfold rowG
 rw [mend_rd hj, mend_len]
 refine ⟨key j hj, ?_, ?_, ?_⟩
 ·rw [b0 j hj]
  constructor
  ·rintro ⟨c1, c2⟩
   unfold isW at c2
   simp only [decide_eq_true_eq] at c2
   obtain ⟨d1, d2, d3, d4⟩ := c2
   have d0 : 0 < j := by omega
   have ej : (j : Int) - 1 = ((j - 1 : Nat) : Int) := by omega
   rw [ej] at d3 d4
   refine ⟨d0, ?_⟩
   rw [mend_rd (by omega), b2 _ (by omega)]
   refine ⟨d3, ?_⟩
   unfold isW
   rw [show ((j - 1 : Nat) : Int) + 1 = (j : Int) from by omega]
   simp only [decide_eq_true_eq]
   exact ⟨by omega, by omega, c1, d4.symm⟩
  ·rintro ⟨d0, c⟩
   rw [mend_rd (by omega), b2 _ (by omega)] at c
   obtain ⟨c1, c2⟩ := c
   unfold isW at c2
   rw [show ((j - 1 : Nat) : Int) + 1 = (j : Int) from by omega] at c2
   simp only [decide_eq_true_eq] at c2
   obtain ⟨e1, e2, e3, e4⟩ := c2
   refine ⟨e3, ?_⟩
   unfold isW
   rw [show (j : Int) - 1 = ((j - 1 : Nat) : Int) from by omega]
   simp only [decide_eq_true_eq]
   exact ⟨by omega, by omega, c1, e4.symm⟩
 ·rintro ⟨d0, c⟩
  rw [mend_rd (by omega)] at c ⊢
  have c' := (b2 _ (by omega)).1 c
  rw [k2 _ c]
  obtain ⟨c1, c2⟩ := c'
  unfold isW at c2
  rw [show ((j - 1 : Nat) : Int) + 1 = (j : Int) from by omega] at c2
  simp only [decide_eq_true_eq] at c2
  obtain ⟨e1, e2, e3, e4⟩ := c2
  have z : (mendAt W j).f2 = 0 := by
   rw [b0 j hj]; refine ⟨e3, ?_⟩
   unfold isW
   rw [show (j : Int) - 1 = ((j - 1 : Nat) : Int) from by omega]
   simp only [decide_eq_true_eq]
   exact ⟨by omega, by omega, c1, e4.symm⟩
  rw [k0 _ z]; exact e4
 ·rintro ⟨c, e⟩
  rw [b2 j hj] at c
  have c2 := c.2
  unfold isW at c2
  simp only [decide_eq_true_eq] at c2
  omega
theorem over_mem {xs ys : List S55} {o : Nat} {x : S55} (h : x ∈ over xs o ys) : x ∈ xs ∨ x ∈ ys := by
 unfold over at h
 simp only [List.mem_append] at h
 rcases h with (h | h) | h
 ·exact .inl (List.mem_of_mem_take h)
 ·exact .inr h
 ·exact .inl (List.mem_of_mem_drop h)
theorem slide_mem {W : List S55} {d : Int} {b x : S55} (h : x ∈ slide W d b) : x ∈ W ∨ x = b := by
 unfold slide at h
 simp only [List.mem_map, List.mem_range] at h
 obtain ⟨j, hj, e⟩ := h
 split at e
 ·rename_i q
  rw [← e, List.getD_eq_getElem?_getD, List.getElem?_eq_getElem (by omega)]
  exact .inl (List.getElem_mem _)
 ·exact .inr e.symm
theorem onRow_may {g : S26} {row : Int} {s : S28} {f : List S55 → List S55} (h : rowOk g row s = true) (hf : ∀ W : List S55, W.length = g.f0.toNat → (∀ x ∈ W, mayCell x = true) → (f W).length = W.length ∧ ∀ x ∈ f W, mayCell x = true) : mayGrid (onRow g row f).1 = true := by
 have hm : mayGrid g = true := by unfold rowOk at h; simp only [Bool.and_eq_true] at h; exact h.1
 obtain ⟨w, q, e0, e1, a, b, c, d, hl, hr⟩ := (mayGrid_iff g).1 hm
 obtain ⟨w', q', i, e0', e1', rfl, _, _, _, hi', hl', hb, hp⟩ := rowOk_size h
 obtain rfl : w' = w := by omega
 obtain rfl : q' = q := by omega
 unfold onRow
 rw [e0] at hf ⊢
 simp only [Int.toNat_natCast] at hf ⊢
 have hw := wlen (xs := g.f2) hp
 obtain ⟨f1, f2⟩ := hf _ hw (hr i hi').cells
 have hR : (mendL (f (win g.f2 (i * w') w'))).length = w' := by rw [mend_len, f1, hw]
 rw [mayGrid_iff]
 refine ⟨w', q', rfl, e1, a, b, c, d, by rw [over_len2 (by omega)]; exact hl, fun j hj => ?_⟩
 by_cases hij : j = i
 ·subst hij
  show RowG (win (over g.f2 (j * w') _) (j * w') w')
  rw [win_over hR hp]
  exact mend_good f2
 ·show RowG (win (over g.f2 (i * w') _) (j * w') w')
  rw [win_over_out hp hR]
  ·exact hr j hj
  ·rcases Nat.lt_or_ge j i with z | z
   ·left; have := Nat.mul_le_mul_right w' (show j + 1 ≤ i from z); rw [Nat.add_mul] at this; omega
   ·right; have := Nat.mul_le_mul_right w' (show i + 1 ≤ j from by omega); rw [Nat.add_mul] at this; omega
theorem blank_good (n : Nat) {s : S28} (h : mayStyle s = true) : RowG (List.replicate n (blk s)) := by
 intro j hj
 rw [List.length_replicate] at hj
 have e : ∀ i, i < n → rd (List.replicate n (blk s)) (i : Int) = blk s := fun i hi => by rw [rd_lt (by simpa using hi)]; simp
 unfold rowG
 rw [e j hj]
 refine ⟨may_blk h, ?_, ?_, ?_⟩
 ·constructor
  ·intro z; simp [blk] at z
  ·rintro ⟨z, y⟩; rw [e _ (by omega)] at y; simp [blk] at y
 ·rintro ⟨z, y⟩; rw [e _ (by omega)] at y; simp [blk] at y
 ·rintro ⟨z, _⟩; simp [blk] at z
theorem slide_row {W : List S55} {w h p : Nat} {d : Int} {b : S55} (hl : W.length = h * w) (hp : p < h) :
  win (slide W (d * (w : Int)) b) (p * w) w = if 0 ≤ (p : Int) + d ∧ (p : Int) + d < (h : Int) then win W (((p : Int) + d).toNat * w) w else List.replicate w b := by
 have hpw := place (w := w) hp
 rw [Nat.mul_comm w h, ← hl] at hpw
 apply List.ext_getElem?
 intro c
 rw [win_get]
 by_cases hc : c < w
 ·rw [if_pos hc, slide_get (by omega)]
  have e : ((p * w + c : Nat) : Int) + d * (w : Int) = ((p : Int) + d) * (w : Int) + (c : Int) := by rw [Int.add_mul]; push_cast; omega
  rw [e, hl, show ((h * w : Nat) : Int) = (h : Int) * (w : Int) from by simp]
  have r1 := row_lo (p := (p : Int) + d) hc
  have r2 := row_hi (p := (p : Int) + d) (h := (h : Int)) hc
  by_cases q : 0 ≤ (p : Int) + d ∧ (p : Int) + d < (h : Int)
  ·rw [if_pos ⟨r1.2 q.1, r2.2 q.2⟩, if_pos q, win_get, if_pos hc]
   obtain ⟨z, hz⟩ : ∃ z : Nat, (p : Int) + d = (z : Int) := ⟨((p : Int) + d).toNat, by omega⟩
   rw [hz] at q ⊢
   have hz2 := place (w := w) (show z < h by omega)
   rw [Nat.mul_comm w h, ← hl] at hz2
   rw [show ((z : Int) * (w : Int) + (c : Int)).toNat = z * w + c from by rw [show (z : Int) * (w : Int) + (c : Int) = ((z * w + c : Nat) : Int) from by simp]; exact Int.toNat_natCast _, Int.toNat_natCast, List.getD_eq_getElem?_getD, List.getElem?_eq_getElem (show z * w + c < W.length by omega)]
   rfl
  ·rw [if_neg (fun z => q ⟨r1.1 z.1, r2.1 z.2⟩), if_neg q, List.getElem?_replicate, if_pos hc]
 ·rw [if_neg hc]
  split
  ·rw [win_get, if_neg hc]
  ·rw [List.getElem?_replicate, if_neg hc]
theorem scroll_may {g : S26} {t u d : Int} {s : S28} (h : (sScroll g t u d s).2 = 0) : mayGrid (sScroll g t u d s).1 = true := by
 unfold sScroll at h ⊢
 split
 ·rename_i h
  have hs : mayStyle s = true := by unfold scrollOk at h; simp only [Bool.and_eq_true] at h; exact h.2.2.2.2
  have hm : mayGrid g = true := by unfold scrollOk at h; simp only [Bool.and_eq_true] at h; exact h.1
  obtain ⟨w, q, e0, e1, a, b, c, d', hl, hr⟩ := (mayGrid_iff g).1 hm
  obtain ⟨w', q', i, j, e0', e1', rfl, rfl, _, _, _, hij, hj, hl', hb⟩ := scrollOk_size h
  obtain rfl : w' = w := by omega
  obtain rfl : q' = q := by omega
  rw [e0]
  simp only [Int.toNat_natCast]
  have hm2 : i * w' + (j + 1 - i) * w' ≤ w' * q' := by
   rw [← Nat.add_mul, Nat.mul_comm w' q']
   exact Nat.mul_le_mul_right _ (by omega)
  have hW := wlen (xs := g.f2) (o := i * w') (n := (j + 1 - i) * w') (by omega)
  have hS : (slide (win g.f2 (i * w') ((j + 1 - i) * w')) (d * (w' : Int)) (blk s)).length = (j + 1 - i) * w' := by rw [slide_len, hW]
  have hgood : ∀ p, p < j + 1 - i → RowG (win (slide (win g.f2 (i * w') ((j + 1 - i) * w')) (d * (w' : Int)) (blk s)) (p * w') w') := fun p hp => by
   rw [slide_row hW hp]
   split
   ·rename_i z
    obtain ⟨y, hy⟩ : ∃ y : Nat, (p : Int) + d = (y : Int) := ⟨((p : Int) + d).toNat, by omega⟩
    rw [hy] at z ⊢
    rw [Int.toNat_natCast]
    have hy2 := place (w := w') (show y < j + 1 - i by omega)
    rw [Nat.mul_comm w' (j + 1 - i)] at hy2
    have : win (win g.f2 (i * w') ((j + 1 - i) * w')) (y * w') w' = win g.f2 ((i + y) * w') w' := by
     apply List.ext_getElem?
     intro c'
     rw [win_get, win_get, win_get]
     by_cases hc : c' < w'
     ·rw [if_pos hc, if_pos (by omega), if_pos hc, Nat.add_mul]; congr 1; omega
     ·rw [if_neg hc, if_neg hc]
    rw [this]
    exact hr _ (by omega)
   ·exact blank_good w' hs
  generalize slide (win g.f2 (i * w') ((j + 1 - i) * w')) (d * (w' : Int)) (blk s) = R at hS hgood
  rw [mayGrid_iff]
  refine ⟨w', q', rfl, e1, a, b, c, d', by rw [over_len2 (by omega)]; exact hl, fun p hp => ?_⟩
  show RowG (win (over g.f2 (i * w') R) (p * w') w')
  have hpp := place (w := w') hp
  by_cases c1 : p < i
  ·have e : win (over g.f2 (i * w') R) (p * w') w' = win g.f2 (p * w') w' := by
    have := Nat.mul_le_mul_right w' (show p + 1 ≤ i from c1)
    rw [Nat.add_mul] at this
    apply List.ext_getElem?
    intro c'
    rw [win_get, win_get, over_get (by omega)]
    by_cases hc : c' < w'
    ·rw [if_pos hc, if_pos hc, if_pos (by omega)]
    ·rw [if_neg hc, if_neg hc]
   rw [e]; exact hr p hp
  ·by_cases c2 : p ≤ j
   ·have e : win (over g.f2 (i * w') R) (p * w') w' = win R ((p - i) * w') w' := by
     have e1 : p * w' = i * w' + (p - i) * w' := by rw [← Nat.add_mul]; congr 1; omega
     have e2 := place (w := w') (show p - i < j + 1 - i by omega)
     rw [Nat.mul_comm w' (j + 1 - i)] at e2
     apply List.ext_getElem?
     intro c'
     rw [win_get, win_get, over_get (by omega)]
     by_cases hc : c' < w'
     ·rw [if_pos hc, if_pos hc, if_neg (by omega), if_pos (by omega)]; congr 1; omega
     ·rw [if_neg hc, if_neg hc]
    rw [e]; exact hgood _ (by omega)
   ·have e : win (over g.f2 (i * w') R) (p * w') w' = win g.f2 (p * w') w' := by
     have := Nat.mul_le_mul_right w' (show j + 1 ≤ p by omega)
     have e1 : i * w' + (j + 1 - i) * w' = (j + 1) * w' := by rw [← Nat.add_mul]; congr 1; omega
     apply List.ext_getElem?
     intro c'
     rw [win_get, win_get, over_get (by omega)]
     by_cases hc : c' < w'
     ·rw [if_pos hc, if_pos hc, if_neg (by omega), if_neg (by omega)]
     ·rw [if_neg hc, if_neg hc]
    rw [e]; exact hr p hp
 ·rename_i q; rw [if_neg q] at h; simp [no] at h
theorem res_may {X : List S55} {w w' q q' : Nat} (hX : ∀ i, i < q → ∀ x ∈ win X (i * w) w, mayCell x = true) : ∀ (n i : Nat) (Z : List S55), i + n ≤ q' → i + n ≤ q → Z.length = w' * q' → (∀ p, p < q' → RowG (win Z (p * w') w')) → ∀ p, p < q' → RowG (win (resL X w w' n i Z) (p * w') w')
 | 0, i, Z, _, _, hl, h, p, hp => h p hp
 | n + 1, i, Z, h1, h2, hl, h, p, hp => by
  have hi := place (w := w') (i := i) (q := q') (by omega)
  have ht : ((win X (i * w) w).take w').length ≤ w' := by rw [List.length_take]; omega
  have hR : (mendL (over (win Z (i * w') w') 0 ((win X (i * w) w).take w'))).length = w' := by rw [mend_len, over_len2 (by rw [wlen (by omega)]; omega), wlen (by omega)]
  rw [resL]
  refine res_may hX n (i + 1) _ (by omega) (by omega) (by rw [res_step (by omega)]; exact hl) (fun r hr => ?_) p hp
  by_cases hir : r = i
  ·subst hir
   rw [win_over hR (by omega)]
   refine mend_good fun x hx => ?_
   rcases over_mem hx with z | z
   ·exact (h r hr).cells x z
   ·exact hX r (by omega) x (List.mem_of_mem_take z)
  ·rw [win_over_out (by omega) hR]
   ·exact h r hr
   ·rcases Nat.lt_or_ge r i with z | z
    ·left; have := Nat.mul_le_mul_right w' (show r + 1 ≤ i from z); rw [Nat.add_mul] at this; omega
    ·right; have := Nat.mul_le_mul_right w' (show i + 1 ≤ r from by omega); rw [Nat.add_mul] at this; omega
theorem blanks_row {w q p : Nat} {b : S55} (hp : p < q) : win (List.replicate (w * q) b) (p * w) w = List.replicate w b := by
 have := place (w := w) hp
 apply List.ext_getElem?
 intro c
 rw [win_get, List.getElem?_replicate, List.getElem?_replicate]
 by_cases hc : c < w
 ·rw [if_pos hc, if_pos hc, if_pos (by omega)]
 ·rw [if_neg hc, if_neg hc]
theorem resize_may {g : S26} {c r : Int} {s : S28} (h : (sResize g c r s).2 = 0) : mayGrid (sResize g c r s).1 = true := by
 unfold sResize at h ⊢
 split
 ·rename_i h
  simp only [Bool.and_eq_true] at h
  obtain ⟨hm, hs, hy⟩ := h
  obtain ⟨w, q, e0, e1, _, _, _, _, hlen, hr⟩ := (mayGrid_iff g).1 hm
  obtain ⟨w', q', rfl, rfl, a, b, c', d, hq, hc, _⟩ := sized_mul hs
  rw [hc, e0, e1]
  simp only [Int.toNat_natCast]
  rw [mayGrid_iff]
  refine ⟨w', q', rfl, rfl, a, b, c', d, res_len _ _ _ (by omega) (by simp), ?_⟩
  exact res_may (q := q) (fun i hi => (hr i hi).cells) _ _ _ (by omega) (by omega) (by simp) (fun p hp => by rw [blanks_row hp]; exact blank_good _ hy)
 ·rename_i q; rw [if_neg q] at h; simp [no] at h
end Go.Proofs.YtckilbegmbaeeaaGreat.Z5Sp
namespace Go.Proofs.YtckilbegmbaeeaaGreat.Z5May
open Go Go.RowKit Go.Proofs.YtckilbegmbaeeaaGreat.SL Go.Proofs.YtckilbegmbaeeaaGreat.Z5 Go.Proofs.YtckilbegmbaeeaaGreat.Z5Sp
set_option linter.unusedVariables false
set_option linter.unusedSimpArgs false
def posOk (g : S26) (r c : Int) (p : Bool) : Bool := decide (0 ≤ r) && decide (r < g.f1) && decide (0 ≤ c) && decide (c < g.f0) && (!p || decide (c = g.f0 - 1))
def tabsOk (w : Int) : Int → List Int → Bool
 | _, [] => true
 | last, c :: r => decide (last < c) && decide (c < w) && tabsOk w c r
def altOk (s : S34) : Bool := if s.f15 = true then mayGrid s.f16 && decide (s.f16.f0 = s.f0.f0) && decide (s.f16.f1 = s.f0.f1) else decide (s.f16.f0 = 0) && decide (s.f16.f1 = 0) && decide (s.f16.f2.length = 0)
def nn (l : List Int) : Bool := l.all fun c => decide (0 ≤ c)
theorem nn_cons {c : Int} {r : List Int} : nn (c :: r) = (decide (0 ≤ c) && nn r) := rfl
theorem nn_nil : nn [] = true := rfl
def titleOk (l : List Int) : Bool := decide (l.length ≤ 256) && nn l
def mayScreen (s : S34) : Bool := mayGrid s.f0 && mayStyle s.f4 && mayStyle s.f14.f4 && (decide (0 ≤ s.f5) && decide (s.f5 ≤ s.f6) && decide (s.f6 < s.f0.f1)) &&
 posOk s.f0 s.f1 s.f2 s.f3 && posOk s.f0 s.f14.f0 s.f14.f1 s.f14.f2 && tabsOk s.f0.f0 (-1) s.f7 && altOk s && titleOk s.f17
theorem mayGrid_w {g : S26} (h : mayGrid g = true) : 1 ≤ g.f0 ∧ g.f0 ≤ 512 := by
 unfold mayGrid at h
 simp only [Bool.and_eq_true, decide_eq_true_eq] at h
 exact ⟨h.1.1, h.1.2.1⟩
theorem r20 {α : Type} [Inhabited α] (a b : α) : rd [a, b] 0 = a := rfl
theorem r21 {α : Type} [Inhabited α] (a b : α) : rd [a, b] 1 = b := rfl
theorem dn {a b : Int} : decide (a ≤ b) = !decide (b < a) := by by_cases h : b < a <;> simp [h] <;> omega
theorem pos_q {r c h w v : Int} {p : Bool} : (if (decide (r < 0) || decide (r ≥ h) || decide (c < 0) || decide (c ≥ w)) = true then some true else (if p = true then some (decide (c ≠ v)) else some false) : Option Bool) =
  some (!(decide (0 ≤ r) && decide (r < h) && decide (0 ≤ c) && decide (c < w) && (!p || decide (c = v)))) := by
 have e1 : decide (r ≥ h) = !decide (r < h) := dn
 have e2 : decide (c ≥ w) = !decide (c < w) := dn
 have e3 : decide (c ≠ v) = !decide (c = v) := by simp
 rw [e1, e2, e3, dn (a := 0) (b := r), dn (a := 0) (b := c)]
 generalize decide (r < 0) = b1
 generalize decide (r < h) = b2
 generalize decide (c < 0) = b3
 generalize decide (c < w) = b4
 generalize decide (c = v) = b5
 cases b1 <;> cases b2 <;> cases b3 <;> cases b4 <;> cases b5 <;> cases p <;> rfl
theorem l74a (s : S34) (hw : 1 ≤ s.f0.f0 ∧ s.f0.f0 ≤ 512) (k : Nat) (hk : 44 ≤ k) : F16b0.l0 s k 0 = some (if (posOk s.f0 s.f1 s.f2 s.f3 && posOk s.f0 s.f14.f0 s.f14.f1 s.f14.f2) = true then Out.go () else Out.ret false) := by
 obtain ⟨k, rfl⟩ : ∃ j, k = j + 3 := ⟨k - 3, by omega⟩
 have ew : IntKind.i64.wrap (s.f0.f0 - 1) = s.f0.f0 - 1 := w64 (by omega) (by omega)
 unfold posOk
 have n0 : (0 : Int) < 2 := by decide
 have n1 : (1 : Int) < 2 := by decide
 have n2 : ¬ (2 : Int) < 2 := by decide
 have m0 : (0 : Int) ≤ 0 ∧ (0 : Int) < 2 := by decide
 have m1 : (0 : Int) ≤ 1 ∧ (1 : Int) < 2 := by decide
 rw [F16b0.l0, if_pos n0, if_pos m0, r20, ww0, F16b0.l0, if_pos n1, if_pos m1, r21, ww1, F16b0.l0, if_neg n2]
 simp only [lt]
 rw [ew, pos_q, pos_q]
 simp only [Option.bind_some]
 generalize (decide (0 ≤ s.f1) && decide (s.f1 < s.f0.f1) && decide (0 ≤ s.f2) && decide (s.f2 < s.f0.f0) && (!s.f3 || decide (s.f2 = s.f0.f0 - 1))) = b1
 generalize (decide (0 ≤ s.f14.f0) && decide (s.f14.f0 < s.f0.f1) && decide (0 ≤ s.f14.f1) && decide (s.f14.f1 < s.f0.f0) && (!s.f14.f2 || decide (s.f14.f1 = s.f0.f0 - 1))) = b2
 cases b1 <;> cases b2 <;> simp
theorem f108 (g : S26) (hw : 1 ≤ g.f0 ∧ g.f0 ≤ 512) (r c : Int) (p : Bool) : F55b0.f g r c p = some (posOk g r c p) := by
 have ew : IntKind.i64.wrap (g.f0 - 1) = g.f0 - 1 := w64 (by omega) (by omega)
 unfold F55b0.f posOk
 simp only [lt, ew, ge_iff_le, Option.bind_some]
 generalize decide (0 ≤ r) = b1
 generalize decide (r < g.f1) = b2
 generalize decide (0 ≤ c) = b3
 generalize decide (c < g.f0) = b4
 generalize decide (c = g.f0 - 1) = b5
 cases b1 <;> cases b2 <;> cases b3 <;> cases b4 <;> cases b5 <;> cases p <;> rfl
theorem l74b (s : S34) (hs : s.f7.length < 4611686018427387904) : ∀ (n k : Nat) (a : Int) (i : Nat), i + n = s.f7.length → n < k → F16b0.l1 s k a (i : Int) = some (if tabsOk s.f0.f0 a (s.f7.drop i) = true then Out.go () else Out.ret false)
 | n, 0, _, _, _, h => by omega
 | 0, k + 1, a, i, h, hk => by rw [F16b0.l1, if_neg (by omega), List.drop_of_length_le (by omega)]; rfl
 | n + 1, k + 1, a, i, h, hk => by
  have hi : i < s.f7.length := by omega
  have ew : IntKind.i64.wrap ((i : Int) + 1) = ((i + 1 : Nat) : Int) := by rw [w64 (by omega) (by omega)]; rfl
  rw [F16b0.l1, if_pos (by omega), if_pos (by omega), ew, rd_lt hi, List.drop_eq_getElem_cons hi, tabsOk]
  simp only [lt]
  rw [l74b s hs n k _ (i + 1) (by omega) (by omega)]
  generalize tabsOk s.f0.f0 s.f7[i] (s.f7.drop (i + 1)) = b
  generalize s.f7[i] = c
  by_cases h1 : a < c <;> by_cases h2 : c < s.f0.f0 <;> simp [h1, h2] <;> first | omega | (rw [if_pos (by omega)]) | (rw [if_neg (by omega)])
theorem l75a (s : S34) (hs : s.f7.length < 4611686018427387904) : ∀ (n k : Nat) (i : Nat), i + n = s.f7.length → n < k → (0 < i → 0 ≤ rd s.f7 ((i - 1 : Nat) : Int)) →
  F15b0.l0 s k (i : Int) = some (if tabsOk s.f0.f0 (if i = 0 then -1 else rd s.f7 ((i - 1 : Nat) : Int)) (s.f7.drop i) = true then Out.go () else Out.ret false)
 | n, 0, _, _, h, _ => by omega
 | 0, k + 1, i, h, hk, _ => by rw [F15b0.l0, if_neg (by omega), List.drop_of_length_le (by omega)]; rfl
 | n + 1, k + 1, i, h, hk, hp => by
  have hi : i < s.f7.length := by omega
  have ew : IntKind.i64.wrap ((i : Int) + 1) = ((i + 1 : Nat) : Int) := by rw [w64 (by omega) (by omega)]; rfl
  have hb2 : 0 ≤ (i : Int) ∧ (i : Int) < (s.f7.length : Int) := by omega
  have ih : 0 ≤ rd s.f7 (i : Int) → F15b0.l0 s k ((i + 1 : Nat) : Int) = some (if tabsOk s.f0.f0 (rd s.f7 (i : Int)) (s.f7.drop (i + 1)) = true then Out.go () else Out.ret false) := fun q => by
   have z := l75a s hs n k (i + 1) (by omega) (by omega) (fun _ => q)
   rwa [if_neg (Nat.succ_ne_zero i)] at z
  rw [F15b0.l0, if_pos (by omega), ew, List.drop_eq_getElem_cons hi, tabsOk]
  simp only [lt, if_pos hb2, if_true]
  rw [← rd_lt hi]
  rcases Nat.eq_zero_or_pos i with h0 | h0
  ·subst h0
   have hz : ¬ (((0 : Nat) : Int) > 0) := by omega
   simp only [hz, if_false, if_true]
   by_cases h1 : rd s.f7 ((0 : Nat) : Int) < 0
   ·have h3 : ¬ (-1 < rd s.f7 ((0 : Nat) : Int)) := by omega
    simp only [h1, h3, if_true, decide_false, Bool.false_and, Option.bind_some, Bool.false_eq_true, if_false]
   ·have h3 : -1 < rd s.f7 ((0 : Nat) : Int) := by omega
    rw [ih (by omega)]
    generalize tabsOk s.f0.f0 (rd s.f7 ((0 : Nat) : Int)) (s.f7.drop (0 + 1)) = b
    by_cases h2 : rd s.f7 ((0 : Nat) : Int) < s.f0.f0
    ·have h4 : ¬ (rd s.f7 ((0 : Nat) : Int) ≥ s.f0.f0) := by omega
     simp only [h1, h2, h3, h4, if_false, decide_true, Bool.true_and, Option.bind_some, Bool.false_eq_true]
    ·have h4 : rd s.f7 ((0 : Nat) : Int) ≥ s.f0.f0 := by omega
     simp only [h1, h2, h3, h4, if_false, if_true, decide_true, decide_false, Bool.true_and, Bool.false_and, Option.bind_some, Bool.false_eq_true]
  ·have hz : ((i : Int) > 0) := by omega
   have ew2 : IntKind.i64.wrap ((i : Int) - 1) = ((i - 1 : Nat) : Int) := by rw [w64 (by omega) (by omega)]; omega
   have hb : 0 ≤ ((i - 1 : Nat) : Int) ∧ ((i - 1 : Nat) : Int) < (s.f7.length : Int) := by omega
   have hp1 := hp h0
   have hi0 : ¬ i = 0 := by omega
   simp only [hz, ew2, if_pos hb, if_true, hi0, if_false]
   generalize rd s.f7 ((i - 1 : Nat) : Int) = p at hp1
   by_cases h1 : rd s.f7 (i : Int) < 0
   ·have h3 : ¬ (p < rd s.f7 (i : Int)) := by omega
    simp only [h1, h3, if_true, decide_false, Bool.false_and, Option.bind_some, Bool.false_eq_true, if_false]
   ·rw [ih (by omega)]
    generalize tabsOk s.f0.f0 (rd s.f7 (i : Int)) (s.f7.drop (i + 1)) = b
    by_cases h2 : rd s.f7 (i : Int) < s.f0.f0
    ·have h4 : ¬ (rd s.f7 (i : Int) ≥ s.f0.f0) := by omega
     by_cases h5 : p < rd s.f7 (i : Int)
     ·have h6 : ¬ (rd s.f7 (i : Int) ≤ p) := by omega
      simp only [h1, h2, h4, h5, h6, if_false, decide_true, decide_false, Bool.true_and, Option.bind_some, Bool.false_eq_true]
     ·have h6 : rd s.f7 (i : Int) ≤ p := by omega
      simp only [h1, h2, h4, h5, h6, if_false, if_true, decide_true, decide_false, Bool.true_and, Bool.false_and, Option.bind_some, Bool.false_eq_true]
    ·have h4 : rd s.f7 (i : Int) ≥ s.f0.f0 := by omega
     simp only [h1, h2, h4, if_false, if_true, decide_true, decide_false, Bool.and_false, Bool.false_and, Option.bind_some, Bool.false_eq_true]
theorem f91nil (a : List S55) (k : Nat) (hk : 0 < k) : F114b0.f k a ([] : List S55) = some (decide (a.length = 0)) := by
 unfold F114b0.f
 obtain ⟨k, rfl⟩ : ∃ j, k = j + 1 := ⟨k - 1, by omega⟩
 by_cases h : a.length = 0
 ·rw [if_neg (by simp [h]), F114b0.l0, if_neg (by omega)]; simp [el_r, el_g, h]
 ·rw [if_pos (by simpa using h)]; simp [h]
theorem l119 (l : List Int) (hl : l.length < 4611686018427387904) : ∀ (n k : Nat) (i : Nat), i + n = l.length → n < k → ∃ t, F115b0.l0 l (fun x => F61.f x) k (i : Int) = some t ∧ (nn (l.drop i) = true → t = Out.go ()) ∧ (nn (l.drop i) = false → ∃ j : Nat, t = Out.ret (j : Int))
 | n, 0, _, _, h => by omega
 | 0, k + 1, i, h, hk => ⟨_, by rw [F115b0.l0, if_neg (by omega)], fun _ => rfl, fun q => by rw [List.drop_of_length_le (by omega), nn_nil] at q; cases q⟩
 | n + 1, k + 1, i, h, hk => by
  have hi : i < l.length := by omega
  have ew : IntKind.i64.wrap ((i : Int) + 1) = ((i + 1 : Nat) : Int) := by rw [w64 (by omega) (by omega)]; rfl
  obtain ⟨t, h1, h2, h3⟩ := l119 l hl n k (i + 1) (by omega) (by omega)
  rw [F115b0.l0, if_pos (by omega), if_pos (by omega), ew, rd_lt hi, List.drop_eq_getElem_cons hi, h1]
  rw [nn_cons]
  simp only [F61.f, Option.bind_some]
  by_cases hc : l[i] < 0
  ·refine ⟨_, by rw [if_pos (by simpa using hc)], fun q => ?_, fun _ => ⟨i, rfl⟩⟩
   simp only [Bool.and_eq_true, decide_eq_true_eq] at q; omega
  ·have e : decide (0 ≤ l[i]) = true := decide_eq_true (by omega)
   refine ⟨t, by rw [if_neg (by simpa using hc)], fun q => ?_, fun q => ?_⟩
   ·rw [e, Bool.true_and] at q; exact h2 q
   ·rw [e, Bool.true_and] at q; exact h3 q
theorem f106 (l : List Int) (hl : l.length < 4611686018427387904) (k : Nat) (hk : l.length < k) : F60b0.f k l (fun x => F61.f x) = some (!nn l) := by
 obtain ⟨t, h1, h2, h3⟩ := l119 l hl l.length k 0 (by omega) hk
 rw [show ((0 : Nat) : Int) = 0 from rfl] at h1
 rw [List.drop_zero] at h2 h3
 unfold F60b0.f F115b0.f
 rw [h1]
 cases hb : nn l
 ·obtain ⟨j, rfl⟩ := h3 hb
  simp [el_r, el_g]
 ·rw [h2 hb]; simp [el_r, el_g]
theorem l75b (s : S34) (hs : s.f17.length < 4611686018427387904) : ∀ (n k : Nat) (i : Nat), i + n = s.f17.length → n < k → F15b0.l1 s k (i : Int) = some (if nn (s.f17.drop i) = true then Out.go () else Out.ret false)
 | n, 0, _, _, h => by omega
 | 0, k + 1, i, h, hk => by rw [F15b0.l1, if_neg (by omega), List.drop_of_length_le (by omega)]; rfl
 | n + 1, k + 1, i, h, hk => by
  have hi : i < s.f17.length := by omega
  have ew : IntKind.i64.wrap ((i : Int) + 1) = ((i + 1 : Nat) : Int) := by rw [w64 (by omega) (by omega)]; rfl
  rw [F15b0.l1, if_pos (by omega), if_pos (by omega), ew, rd_lt hi, List.drop_eq_getElem_cons hi]
  simp only [lt]
  rw [nn_cons, l75b s hs n k (i + 1) (by omega) (by omega)]
  generalize nn (s.f17.drop (i + 1)) = b
  generalize s.f17[i] = c
  by_cases h1 : c < 0
  ·have : ¬ (0 ≤ c) := by omega
   simp [h1, this]
  ·have : 0 ≤ c := by omega
   simp [h1, this]
structure Sg (s : S34) : Prop where
 g : Gr s.f0
 m : Gr s.f16
 t : s.f7.length < 17592186044416
 u : s.f17.length < 35184372088832
theorem f74 (s : S34) (hs : Sg s) (k : Nat) (hk : 40000000000000 ≤ k) : F16b0.f k s = some (mayScreen s) := by
 have h2 : s.f7.length < 4611686018427387904 := by have := hs.t; omega
 have h4 : s.f17.length < 4611686018427387904 := by have := hs.u; omega
 have h4' := hs.u
 have h2' := hs.t
 unfold F16b0.f mayScreen
 rw [f41w _ hs.g k (by omega), f41w _ hs.m k (by omega), f71, f71, f106 _ h4 k (by omega)]
 simp only [Option.bind_some]
 cases hg : mayGrid s.f0
 ·simp [lt]
 ·have hb := l74b s h2 s.f7.length k (-1) 0 (by omega) (by omega)
  rw [show ((0 : Nat) : Int) = 0 from rfl, List.drop_zero] at hb
  have h50 : F59b0.f k s.f16 (S26.mk 0 0 ([] : List S55)) = some (decide (s.f16.f0 = 0) && decide (s.f16.f1 = 0) && decide (s.f16.f2.length = 0)) := by
   unfold F59b0.f
   simp only [lt, f91nil _ k (by omega), Option.bind_some]
   by_cases q : (decide (s.f16.f0 = 0) && decide (s.f16.f1 = 0)) = true
   ·rw [if_pos q, q]; simp
   ·rw [if_neg q]; simp only [Bool.not_eq_true] at q; rw [q]; simp
  rw [l74a s (mayGrid_w hg) k (by omega), hb, h50]
  unfold altOk titleOk
  have e5 : decide (0 ≤ s.f5) = !decide (s.f5 < 0) := dn
  have e6 : decide (s.f5 ≤ s.f6) = !decide (s.f5 > s.f6) := dn
  have e7 : decide (s.f6 ≥ s.f0.f1) = !decide (s.f6 < s.f0.f1) := dn
  have et : ((s.f17.length : Int) ≤ 256) ↔ s.f17.length ≤ 256 := by omega
  simp only [lt, e5, e6, e7, et]
  generalize mayStyle s.f4 = b1
  generalize mayStyle s.f14.f4 = b2
  generalize decide (s.f5 < 0) = b3
  generalize decide (s.f5 > s.f6) = b4
  generalize decide (s.f6 < s.f0.f1) = b5
  generalize posOk s.f0 s.f1 s.f2 s.f3 = b6
  generalize posOk s.f0 s.f14.f0 s.f14.f1 s.f14.f2 = b7
  generalize tabsOk s.f0.f0 (-1) s.f7 = b8
  generalize nn s.f17 = b9
  cases b1 <;> cases b2 <;> cases b3 <;> cases b4 <;> cases b5 <;> cases b6 <;> cases b7 <;> cases b8 <;> simp [el_r, el_g]
  by_cases ht : s.f17.length ≤ 256 <;> cases ha : s.f15
  ·by_cases q3 : s.f16.f0 = 0 <;> by_cases q4 : s.f16.f1 = 0 <;> by_cases q5 : s.f16.f2 = [] <;> cases b9 <;> simp [ht, q3, q4, q5]
  ·cases hm : mayGrid s.f16 <;> by_cases q1 : s.f16.f0 = s.f0.f0 <;> by_cases q2 : s.f16.f1 = s.f0.f1 <;> cases b9 <;> simp [ht, q1, q2]
  ·by_cases q3 : s.f16.f0 = 0 <;> by_cases q4 : s.f16.f1 = 0 <;> by_cases q5 : s.f16.f2 = [] <;> cases b9 <;> simp [ht, q3, q4, q5]
  ·cases hm : mayGrid s.f16 <;> by_cases q1 : s.f16.f0 = s.f0.f0 <;> by_cases q2 : s.f16.f1 = s.f0.f1 <;> cases b9 <;> simp [ht, q1, q2]
theorem f75 (s : S34) (hs : Sg s) (k : Nat) (hk : 40000000000000 ≤ k) : F15b0.f k s = some (mayScreen s) := by
 have h2 : s.f7.length < 4611686018427387904 := by have := hs.t; omega
 have h4 : s.f17.length < 4611686018427387904 := by have := hs.u; omega
 have h4' := hs.u
 have h2' := hs.t
 unfold F15b0.f mayScreen
 rw [f30w _ hs.g k (by omega), f30w _ hs.m k (by omega), f89, f89]
 simp only [Option.bind_some]
 cases hg : mayGrid s.f0
 ·simp [lt]
 ·have ha := l75a s h2 s.f7.length k 0 (by omega) (by omega) (fun h => by omega)
  rw [if_pos rfl, show ((0 : Nat) : Int) = 0 from rfl, List.drop_zero] at ha
  have hb := l75b s h4 s.f17.length k 0 (by omega) (by omega)
  rw [show ((0 : Nat) : Int) = 0 from rfl, List.drop_zero] at hb
  rw [f108 _ (mayGrid_w hg), f108 _ (mayGrid_w hg), ha, hb]
  unfold altOk titleOk
  have e5 : decide (0 ≤ s.f5) = !decide (s.f5 < 0) := dn
  have e6 : decide (s.f5 ≤ s.f6) = !decide (s.f5 > s.f6) := dn
  have e7 : decide (s.f6 ≥ s.f0.f1) = !decide (s.f6 < s.f0.f1) := dn
  have et : ((s.f17.length : Int) > 256) ↔ ¬ s.f17.length ≤ 256 := by omega
  simp only [lt, e5, e6, e7, et]
  generalize mayStyle s.f4 = b1
  generalize mayStyle s.f14.f4 = b2
  generalize decide (s.f5 < 0) = b3
  generalize decide (s.f5 > s.f6) = b4
  generalize decide (s.f6 < s.f0.f1) = b5
  generalize posOk s.f0 s.f1 s.f2 s.f3 = b6
  generalize posOk s.f0 s.f14.f0 s.f14.f1 s.f14.f2 = b7
  generalize tabsOk s.f0.f0 (-1) s.f7 = b8
  generalize nn s.f17 = b9
  cases b1 <;> cases b2 <;> cases b3 <;> cases b4 <;> cases b5 <;> cases b6 <;> cases b7 <;> cases b8 <;> simp [el_r, el_g]
  by_cases ht : s.f17.length ≤ 256 <;> cases ha : s.f15
  ·by_cases q3 : s.f16.f0 = 0 <;> by_cases q4 : s.f16.f1 = 0 <;> by_cases q5 : s.f16.f2 = [] <;> cases b9 <;> simp [ht, q3, q4, q5, el_r, el_g]
  ·cases hm : mayGrid s.f16 <;> by_cases q1 : s.f16.f0 = s.f0.f0 <;> by_cases q2 : s.f16.f1 = s.f0.f1 <;> cases b9 <;> simp [ht, q1, q2, el_r, el_g]
  ·by_cases q3 : s.f16.f0 = 0 <;> by_cases q4 : s.f16.f1 = 0 <;> by_cases q5 : s.f16.f2 = [] <;> cases b9 <;> simp [ht, q3, q4, q5, el_r, el_g]
  ·cases hm : mayGrid s.f16 <;> by_cases q1 : s.f16.f0 = s.f0.f0 <;> by_cases q2 : s.f16.f1 = s.f0.f1 <;> cases b9 <;> simp [ht, q1, q2, el_r, el_g]
end Go.Proofs.YtckilbegmbaeeaaGreat.Z5May
namespace Go.Proofs.YtckilbegmbaeeaaGreat.Z5Sc
open Go Go.RowKit Go.Proofs.YtckilbegmbaeeaaGreat.SL Go.Proofs.YtckilbegmbaeeaaGreat.Z5 Go.Proofs.YtckilbegmbaeeaaGreat.Z5May Go.Proofs.YtckilbegmbaeeaaGreat.Z5Ls Go.Proofs.YtckilbegmbaeeaaGreat.Z5Op Go.Proofs.YtckilbegmbaeeaaGreat.Z5Sp
set_option linter.unusedVariables false
set_option linter.unusedSimpArgs false
def byte (x : S55) : Prop := 0 ≤ x.f2 ∧ x.f2 < 256
theorem byte_blk (s : S28) : byte (blk s) := by constructor <;> simp [blk]
theorem mend_all {W : List S55} (h : ∀ x ∈ W, byte x) : ∀ x ∈ mendL W, byte x := fun x hx => by
 unfold mendL at hx
 simp only [List.mem_map, List.mem_range] at hx
 obtain ⟨i, hi, rfl⟩ := hx
 unfold mendAt; split
 ·exact byte_blk _
 ·exact h _ (rd_mem hi)
theorem win_all {X : List S55} {o n : Nat} (h : ∀ x ∈ X, byte x) : ∀ x ∈ win X o n, byte x := fun x hx => h x (List.mem_of_mem_drop (List.mem_of_mem_take hx))
theorem over_all {X Y : List S55} {o : Nat} (h : ∀ x ∈ X, byte x) (h2 : ∀ x ∈ Y, byte x) : ∀ x ∈ over X o Y, byte x := fun x hx => by
 rcases over_mem hx with q | q
 ·exact h x q
 ·exact h2 x q
theorem rep_all {n : Nat} {s : S28} : ∀ x ∈ List.replicate n (blk s), byte x := fun x hx => by rw [(List.mem_replicate.1 hx).2]; exact byte_blk s
theorem slide_all {W : List S55} {d : Int} {s : S28} (h : ∀ x ∈ W, byte x) : ∀ x ∈ slide W d (blk s), byte x := fun x hx => by
 rcases slide_mem hx with q | q
 ·exact h x q
 ·rw [q]; exact byte_blk s
theorem onRow_all {g : S26} {row : Int} {f : List S55 → List S55} (h : ∀ x ∈ g.f2, byte x) (hf : ∀ W : List S55, (∀ x ∈ W, byte x) → ∀ x ∈ f W, byte x) : ∀ x ∈ (onRow g row f).1.f2, byte x :=
 over_all h (mend_all (hf _ (win_all h)))
theorem no_all : ∀ x ∈ no.1.f2, byte x := fun x hx => by simp [no] at hx
theorem scroll_all {g : S26} {t u d : Int} {s : S28} (h : ∀ x ∈ g.f2, byte x) : ∀ x ∈ (sScroll g t u d s).1.f2, byte x := by
 unfold sScroll; split
 ·exact over_all h (slide_all (win_all h))
 ·exact no_all
theorem res_all {X : List S55} {w w' : Nat} (h : ∀ x ∈ X, byte x) : ∀ (n i : Nat) (Z : List S55), (∀ x ∈ Z, byte x) → ∀ x ∈ resL X w w' n i Z, byte x
 | 0, i, Z, hZ => hZ
 | n + 1, i, Z, hZ => res_all h n (i + 1) _ (over_all hZ (mend_all (over_all (win_all hZ) fun x hx => win_all h x (List.mem_of_mem_take hx))))
theorem resize_all {g : S26} {c r : Int} {s : S28} (h : ∀ x ∈ g.f2, byte x) : ∀ x ∈ (sResize g c r s).1.f2, byte x := by
 unfold sResize; split
 ·exact res_all h _ _ _ rep_all
 ·exact no_all
theorem grr {g : S26} (h1 : g.f2.length ≤ 262144) (h2 : ∀ x ∈ g.f2, byte x) : Gr g := ⟨by omega, h2⟩
theorem rows_ext {X Y : List S55} {w q : Nat} (hX : X.length = w * q) (hY : Y.length = w * q) (h : ∀ n, n < q → win X (n * w) w = win Y (n * w) w) : X = Y := by
 apply List.ext_getElem?
 intro i
 by_cases hi : i < w * q
 ·have hw : 0 < w := by
   rcases Nat.eq_zero_or_pos w with h | h
   ·subst h; simp at hi
   ·exact h
  have h1 := Nat.mod_lt i hw
  have h2 := Nat.div_add_mod i w
  have h3 : i / w < q := Nat.div_lt_of_lt_mul hi
  have e := congrArg (·[i % w]?) (h _ h3)
  simp only [win_get, h1, if_true] at e
  rwa [show i / w * w + i % w = i from by rw [Nat.mul_comm]; omega] at e
 ·rw [List.getElem?_eq_none (by omega), List.getElem?_eq_none (by omega)]
theorem mend_id {W : List S55} (h : RowG W) : mendL W = W := by
 apply List.ext_getElem?
 intro i
 by_cases hi : i < W.length
 ·rw [some_rd (xs := mendL W) (by rw [mend_len]; exact hi), mend_rd hi, some_rd hi]
  congr 1
  unfold mendAt
  rw [if_neg]
  intro hb
  obtain ⟨h1, h2, h3, h4⟩ := h i hi
  unfold badAt at hb
  simp only [Bool.or_eq_true, Bool.and_eq_true, decide_eq_true_eq, Bool.not_eq_true'] at hb
  rcases hb with ⟨b1, b2⟩ | ⟨b1, b2⟩
  ·have hl : i + 1 < W.length := by
    rcases Nat.lt_or_ge (i + 1) W.length with z | z
    ·exact z
    ·exact absurd ⟨b1, by omega⟩ h4
   obtain ⟨k1, k2, k3, k4⟩ := h (i + 1) hl
   have hz : (rd W ((i + 1 : Nat) : Int)).f2 = 0 := k2.2 ⟨by omega, by rw [show i + 1 - 1 = i from by omega]; exact b1⟩
   have hs := k3 ⟨by omega, by rw [show i + 1 - 1 = i from by omega]; exact b1⟩
   rw [show i + 1 - 1 = i from by omega] at hs
   unfold isW at b2
   rw [show (i : Int) + 1 = ((i + 1 : Nat) : Int) from by omega, decide_eq_false_iff_not] at b2
   exact b2 ⟨by omega, by omega, hz, hs⟩
  ·obtain ⟨h0, h5⟩ := h2.1 b1
   have hs := h3 ⟨h0, h5⟩
   unfold isW at b2
   rw [show (i : Int) - 1 = ((i - 1 : Nat) : Int) from by omega, decide_eq_false_iff_not] at b2
   exact b2 ⟨by omega, by omega, h5, hs.symm⟩
 ·rw [List.getElem?_eq_none (by rw [mend_len]; omega), List.getElem?_eq_none (by omega)]
structure M (s : S34) : Prop where
 g : mayGrid s.f0 = true
 y : mayStyle s.f4 = true
 y2 : mayStyle s.f14.f4 = true
 t0 : 0 ≤ s.f5
 t1 : s.f5 ≤ s.f6
 t2 : s.f6 < s.f0.f1
 p : posOk s.f0 s.f1 s.f2 s.f3 = true
 p2 : posOk s.f0 s.f14.f0 s.f14.f1 s.f14.f2 = true
 tabs : tabsOk s.f0.f0 (-1) s.f7 = true
 alt : altOk s = true
 ti : titleOk s.f17 = true
theorem may_iff (s : S34) : mayScreen s = true ↔ M s := by
 unfold mayScreen
 simp only [Bool.and_eq_true, decide_eq_true_eq]
 constructor
 ·rintro ⟨⟨⟨⟨⟨⟨⟨⟨a, b⟩, c⟩, ⟨d, e⟩, f⟩, g⟩, h⟩, i⟩, j⟩, k⟩; exact ⟨a, b, c, d, e, f, g, h, i, j, k⟩
 ·rintro ⟨a, b, c, d, e, f, g, h, i, j, k⟩; exact ⟨⟨⟨⟨⟨⟨⟨⟨a, b⟩, c⟩, ⟨d, e⟩, f⟩, g⟩, h⟩, i⟩, j⟩, k⟩
theorem pos_iff {g : S26} {r c : Int} {p : Bool} : posOk g r c p = true ↔ 0 ≤ r ∧ r < g.f1 ∧ 0 ≤ c ∧ c < g.f0 ∧ (p = true → c = g.f0 - 1) := by
 unfold posOk
 cases p <;> simp [and_assoc]
theorem tabs_iff {w : Int} : ∀ {l : List Int} {a : Int}, tabsOk w a l = true ↔ List.Pairwise (· < ·) l ∧ ∀ x ∈ l, a < x ∧ x < w
 | [], a => by simp [tabsOk]
 | c :: r, a => by
  unfold tabsOk
  simp only [Bool.and_eq_true, decide_eq_true_eq, List.pairwise_cons, List.mem_cons, tabs_iff (l := r)]
  constructor
  ·rintro ⟨⟨h1, h2⟩, h3, h4⟩
   refine ⟨⟨fun x hx => (h4 x hx).1, h3⟩, ?_⟩
   rintro x (rfl | hx)
   ·exact ⟨h1, h2⟩
   ·exact ⟨by have := (h4 x hx).1; omega, (h4 x hx).2⟩
  ·rintro ⟨⟨h1, h2⟩, h3⟩
   exact ⟨h3 c (.inl rfl), h2, fun x hx => ⟨h1 x hx, (h3 x (.inr hx)).2⟩⟩
theorem tabs_len {w : Int} : ∀ {l : List Int} {a : Int}, a < w → tabsOk w a l = true → (l.length : Int) < w - a
 | [], a, h, _ => by simp; omega
 | c :: r, a, h, q => by
  unfold tabsOk at q
  simp only [Bool.and_eq_true, decide_eq_true_eq] at q
  have := tabs_len (l := r) q.1.2 q.2
  rw [List.length_cons]; push_cast; omega
structure Ok (s : S34) : Prop where
 m : M s
 b : ∀ x ∈ s.f0.f2, byte x
 b2 : ∀ x ∈ s.f16.f2, byte x
theorem Ok.size {s : S34} (h : Ok s) : ∃ w q : Nat, s.f0.f0 = (w : Int) ∧ s.f0.f1 = (q : Int) ∧ 0 < w ∧ w ≤ 512 ∧ 0 < q ∧ q ≤ 512 ∧ s.f0.f2.length = w * q ∧ w * q ≤ 262144 := may_size h.m.g
theorem alt_len {s : S34} (h : M s) : s.f16.f2.length ≤ 262144 := by
 have := h.alt
 unfold altOk at this
 split at this
 ·simp only [Bool.and_eq_true, decide_eq_true_eq] at this
  obtain ⟨w, q, _, _, _, _, _, _, hl, hb⟩ := may_size this.1.1
  omega
 ·simp only [Bool.and_eq_true, decide_eq_true_eq] at this
  omega
theorem Ok.gr {s : S34} (h : Ok s) : Gr s.f0 := by
 obtain ⟨w, q, _, _, _, _, _, _, hl, hb⟩ := h.size
 exact grr (by omega) h.b
theorem Ok.grm {s : S34} (h : Ok s) : Gr s.f16 := grr (alt_len h.m) h.b2
theorem tabs_small {s : S34} (h : M s) : s.f7.length ≤ 512 := by
 obtain ⟨w, q, e0, _, _, _, _, _, _, _⟩ := may_size h.g
 have := tabs_len (by omega) h.tabs
 omega
theorem title_small {s : S34} (h : M s) : s.f17.length ≤ 256 := by
 have := h.ti
 unfold titleOk at this
 simp only [Bool.and_eq_true, decide_eq_true_eq] at this
 exact this.1
theorem Ok.sg {s : S34} (h : Ok s) : Sg s := by
 have h1 := tabs_small h.m
 have h2 := title_small h.m
 exact ⟨h.gr, h.grm, by omega, by omega⟩
theorem Ok.may {s : S34} (h : Ok s) : mayScreen s = true := (may_iff s).2 h.m
theorem ok_of {s : S34} (hs : Sg s) (hm : mayScreen s = true) : Ok s := ⟨(may_iff s).1 hm, hs.g.wide, hs.m.wide⟩
theorem f97 (s : S34) (h : Ok s) : F97.f s = some s := by
 obtain ⟨w, q, _, _, _, _, _, _, hl, hb⟩ := h.size
 have h1 := alt_len h.m
 have h2 := tabs_small h.m
 have h3 := title_small h.m
 unfold F97.f F138.f F139.f
 rw [f72 _ (by omega), f72 _ (by omega)]
 simp only [Option.bind_some, lt, List.nil_append, List.length_nil]
 rw [if_pos (by omega), if_pos (by omega)]
 rfl
def zS : S34 := S34.mk (S26.mk 0 0 ([] : (List S55))) 0 0 false (S28.mk 0 0 false false false false false false false false) 0 0 ([] : (List Int)) false false false false false false (S31.mk 0 0 false false (S28.mk 0 0 false false false false false false false false)) false (S26.mk 0 0 ([] : (List S55))) ([] : (List Int))
def res (s t : S34) : S34 × Int := if mayScreen s = true then (t, 0) else (zS, 2)
end Go.Proofs.YtckilbegmbaeeaaGreat.Z5Sc
namespace Go.Proofs.YtckilbegmbaeeaaGreat.Z5Sc
open Go Go.RowKit Go.Proofs.YtckilbegmbaeeaaGreat.SL Go.Proofs.YtckilbegmbaeeaaGreat.Z5 Go.Proofs.YtckilbegmbaeeaaGreat.Z5May Go.Proofs.YtckilbegmbaeeaaGreat.Z5Ls Go.Proofs.YtckilbegmbaeeaaGreat.Z5Op Go.Proofs.YtckilbegmbaeeaaGreat.Z5Sp
set_option linter.unusedVariables false
set_option linter.unusedSimpArgs false
theorem f127 (a b c : Int) : F127.f a b c = some (max b (min a c)) := by
 unfold F127.f; simp only [lt, maxI_eq, minI_eq]
theorem f128 (a : Int) : F128.f a = some (max (-1024) (min a 1024)) := by
 unfold F128.f; rw [f127]; rfl
def mv (n by_ lo hi : Int) : Int := max lo (min (n + by_) hi)
theorem cl_mv {n by_ lo hi : Int} (h0 : 0 ≤ n) (h1 : n ≤ 600) (h2 : 0 ≤ lo) (h3 : lo ≤ hi) (h5 : hi ≤ 600) : F127.f (IntKind.i64.wrap (n + max (-1024) (min by_ 1024))) lo hi = some (mv n by_ lo hi) := by
 rw [w64 (by omega) (by omega), f127]; unfold mv; congr 1; omega
structure Mg (s : S34) : Prop where
 g : mayGrid s.f0 = true
 b : ∀ x ∈ s.f0.f2, byte x
 y : mayStyle s.f4 = true
 t0 : 0 ≤ s.f5
 t1 : s.f5 ≤ s.f6
 t2 : s.f6 < s.f0.f1
 r0 : 0 ≤ s.f1
 r1 : s.f1 < s.f0.f1
theorem Ok.mg {s : S34} (h : Ok s) : Mg s := by
 have hp := pos_iff.1 h.m.p
 exact ⟨h.m.g, h.b, h.m.y, h.m.t0, h.m.t1, h.m.t2, hp.1, hp.2.1⟩
theorem Mg.size {s : S34} (h : Mg s) : ∃ w q : Nat, s.f0.f0 = (w : Int) ∧ s.f0.f1 = (q : Int) ∧ 0 < w ∧ w ≤ 512 ∧ 0 < q ∧ q ≤ 512 ∧ s.f0.f2.length = w * q ∧ w * q ≤ 262144 := may_size h.g
theorem Mg.gr {s : S34} (h : Mg s) : Gr s.f0 := by
 obtain ⟨w, q, _, _, _, _, _, _, hl, hb⟩ := h.size
 exact grr (by omega) h.b
def scr (s : S34) (t u by_ : Int) : S34 := { s with f0 := (sScroll s.f0 t u by_ s.f4).1 }
theorem scrollOk_of {s : S34} (h : Mg s) {t u : Int} (h0 : 0 ≤ t) (h1 : t ≤ u) (h2 : u < s.f0.f1) : scrollOk s.f0 t u s.f4 = true := by
 unfold scrollOk
 simp only [h.g, h.y, Bool.true_and, Bool.and_true, Bool.and_eq_true, decide_eq_true_eq]
 exact ⟨h0, h1, h2⟩
theorem up (s : S34) (h : Mg s) (t u by_ : Int) (h0 : 0 ≤ t) (h1 : t ≤ u) (h2 : u < s.f0.f1) (k : Nat) (hk : 1100000 ≤ k) : F131i34m0b_0_.f k s t u by_ s.f4 = some (scr s t u by_) := by
 have hok := scrollOk_of h h0 h1 h2
 obtain ⟨w, q, i, j, e0, e1, rfl, rfl, hw0, hw5, hq5, hij, hj, hl, hb⟩ := scrollOk_size hok
 rw [f73 s s.f0.f2 w q i j s.f0.f1 by_ s.f4 (by rw [← e0]) hl hw0 hw5 hq5 hij hj k (by omega)]
 unfold scr sScroll
 rw [if_pos hok, e0]
 simp only [Int.toNat_natCast]
theorem scr_dims {s : S34} (h : Mg s) {t u by_ : Int} (h0 : 0 ≤ t) (h1 : t ≤ u) (h2 : u < s.f0.f1) : (scr s t u by_).f0.f0 = s.f0.f0 ∧ (scr s t u by_).f0.f1 = s.f0.f1 := by
 have hok := scrollOk_of h h0 h1 h2
 unfold scr sScroll
 rw [if_pos hok]; exact ⟨rfl, rfl⟩
theorem scr_mg {s : S34} (h : Mg s) {t u by_ : Int} (h0 : 0 ≤ t) (h1 : t ≤ u) (h2 : u < s.f0.f1) : Mg (scr s t u by_) := by
 obtain ⟨d0, d1⟩ := scr_dims (by_ := by_) h h0 h1 h2
 have hok := scrollOk_of h h0 h1 h2
 refine ⟨scroll_may (by unfold sScroll; rw [if_pos hok]), scroll_all h.b, h.y, h.t0, h.t1, ?_, h.r0, ?_⟩
 ·rw [d1]; exact h.t2
 ·rw [d1]; exact h.r1
theorem scr_clip {s : S34} (h : Mg s) {t u x y : Int} (h0 : 0 ≤ t) (h1 : t ≤ u) (h2 : u < s.f0.f1) (e : clip 512 x = clip 512 y) : scr s t u x = scr s t u y := by
 have hok := scrollOk_of h h0 h1 h2
 obtain ⟨w, q, i, j, e0, e1, rfl, rfl, hw0, hw5, hq5, hij, hj, hl, hb⟩ := scrollOk_size hok
 unfold scr sScroll
 rw [if_pos hok, if_pos hok, e0]
 simp only [Int.toNat_natCast]
 have hm : i * w + (j + 1 - i) * w ≤ w * q := by
  rw [← Nat.add_mul, Nat.mul_comm w q]
  exact Nat.mul_le_mul_right _ (by omega)
 have hW := wlen (xs := s.f0.f2) (o := i * w) (n := (j + 1 - i) * w) (by omega)
 have e2 : clip ((j + 1 - i : Nat) : Int) x = clip ((j + 1 - i : Nat) : Int) y := by
  unfold clip at e ⊢; omega
 rw [← slide_clipm (x := x) hW hw0, ← slide_clipm (x := y) hW hw0, e2]
def dFeed (s : S34) : S34 := if s.f1 = s.f6 then scr s s.f5 s.f6 1 else if s.f1 < s.f0.f1 - 1 then { s with f1 := s.f1 + 1 } else s
def dBack (s : S34) : S34 := if s.f1 = s.f5 then scr s s.f5 s.f6 (-1) else if s.f1 > 0 then { s with f1 := s.f1 - 1 } else s
theorem pfeed (s : S34) (h : Mg s) (k : Nat) (hk : 1100000 ≤ k) : F119Lb_0_.f k s = some (dFeed s) := by
 obtain ⟨w, q, e0, e1, _, _, _, _, _, _⟩ := h.size
 have := h.r0; have := h.r1
 unfold F119Lb_0_.f dFeed
 rw [up s h _ _ _ h.t0 h.t1 h.t2 k hk, w64 (x := s.f0.f1 - 1) (by omega) (by omega), w64 (x := s.f1 + 1) (by omega) (by omega)]
 simp only [Option.bind_some]
 split
 ·rfl
 ·split <;> rfl
theorem pback (s : S34) (h : Mg s) (k : Nat) (hk : 1100000 ≤ k) : F126Lb_0_.f k s = some (dBack s) := by
 obtain ⟨w, q, e0, e1, _, _, _, _, _, _⟩ := h.size
 have := h.r0; have := h.r1
 unfold F126Lb_0_.f dBack
 rw [up s h _ _ _ h.t0 h.t1 h.t2 k hk, w64 (x := s.f1 - 1) (by omega) (by omega)]
 simp only [Option.bind_some]
 split
 ·rfl
 ·split <;> rfl
theorem feed_mg {s : S34} (h : Mg s) : Mg (dFeed s) := by
 unfold dFeed
 split
 ·exact scr_mg h h.t0 h.t1 h.t2
 ·split
  ·exact ⟨h.g, h.b, h.y, h.t0, h.t1, h.t2, by have := h.r0; show 0 ≤ s.f1 + 1; omega, by show s.f1 + 1 < s.f0.f1; omega⟩
  ·exact h
theorem back_mg {s : S34} (h : Mg s) : Mg (dBack s) := by
 unfold dBack
 split
 ·exact scr_mg h h.t0 h.t1 h.t2
 ·split
  ·exact ⟨h.g, h.b, h.y, h.t0, h.t1, h.t2, by show 0 ≤ s.f1 - 1; omega, by have := h.r1; show s.f1 - 1 < s.f0.f1; omega⟩
  ·exact h
structure Like (s t : S34) : Prop where
 d0 : t.f0.f0 = s.f0.f0
 d1 : t.f0.f1 = s.f0.f1
 f4 : t.f4 = s.f4
 f5 : t.f5 = s.f5
 f6 : t.f6 = s.f6
 f7 : t.f7 = s.f7
 f8 : t.f8 = s.f8
 f9 : t.f9 = s.f9
 f10 : t.f10 = s.f10
 f14 : t.f14 = s.f14
 f15 : t.f15 = s.f15
 f16 : t.f16 = s.f16
 f17 : t.f17 = s.f17
theorem Like.refl (s : S34) : Like s s := ⟨rfl, rfl, rfl, rfl, rfl, rfl, rfl, rfl, rfl, rfl, rfl, rfl, rfl⟩
theorem Like.trans {s t u : S34} (a : Like s t) (b : Like t u) : Like s u := ⟨b.d0.trans a.d0, b.d1.trans a.d1, b.f4.trans a.f4, b.f5.trans a.f5, b.f6.trans a.f6, b.f7.trans a.f7, b.f8.trans a.f8, b.f9.trans a.f9, b.f10.trans a.f10, b.f14.trans a.f14, b.f15.trans a.f15, b.f16.trans a.f16, b.f17.trans a.f17⟩
theorem scr_like {s : S34} (h : Mg s) {t u by_ : Int} (h0 : 0 ≤ t) (h1 : t ≤ u) (h2 : u < s.f0.f1) : Like s (scr s t u by_) := by
 obtain ⟨d0, d1⟩ := scr_dims (by_ := by_) h h0 h1 h2
 exact ⟨d0, d1, rfl, rfl, rfl, rfl, rfl, rfl, rfl, rfl, rfl, rfl, rfl⟩
theorem feed_like {s : S34} (h : Mg s) : Like s (dFeed s) ∧ (dFeed s).f2 = s.f2 ∧ (dFeed s).f3 = s.f3 := by
 unfold dFeed
 split
 ·exact ⟨scr_like h h.t0 h.t1 h.t2, rfl, rfl⟩
 ·split
  ·exact ⟨⟨rfl, rfl, rfl, rfl, rfl, rfl, rfl, rfl, rfl, rfl, rfl, rfl, rfl⟩, rfl, rfl⟩
  ·exact ⟨Like.refl s, rfl, rfl⟩
theorem back_like {s : S34} (h : Mg s) : Like s (dBack s) ∧ (dBack s).f2 = s.f2 ∧ (dBack s).f3 = s.f3 := by
 unfold dBack
 split
 ·exact ⟨scr_like h h.t0 h.t1 h.t2, rfl, rfl⟩
 ·split
  ·exact ⟨⟨rfl, rfl, rfl, rfl, rfl, rfl, rfl, rfl, rfl, rfl, rfl, rfl, rfl⟩, rfl, rfl⟩
  ·exact ⟨Like.refl s, rfl, rfl⟩
theorem ok_like {s t : S34} (h : Ok s) (l : Like s t) (hg : Mg t) (hc : 0 ≤ t.f2 ∧ t.f2 < t.f0.f0 ∧ (t.f3 = true → t.f2 = t.f0.f0 - 1)) : Ok t := by
 refine ⟨⟨hg.g, hg.y, ?_, hg.t0, hg.t1, hg.t2, pos_iff.2 ⟨hg.r0, hg.r1, hc⟩, ?_, ?_, ?_, ?_⟩, hg.b, ?_⟩
 ·rw [l.f14]; exact h.m.y2
 ·rw [l.f14]; have := pos_iff.1 h.m.p2; rw [pos_iff, l.d0, l.d1]; exact this
 ·rw [l.f7, l.d0]; exact h.m.tabs
 ·have := h.m.alt; unfold altOk at this ⊢; rw [l.f15, l.f16, l.d0, l.d1]; exact this
 ·rw [l.f17]; exact h.m.ti
 ·rw [l.f16]; exact h.b2
def dMove (s : S34) (a b : Int) : S34 :=
 { s with f1 := mv s.f1 a (if s.f1 ≥ s.f5 then s.f5 else 0) (if s.f1 ≤ s.f6 then s.f6 else s.f0.f1 - 1), f2 := mv s.f2 b 0 (s.f0.f0 - 1), f3 := false }
def dPlace (s : S34) (a b : Int) : S34 :=
 { s with f1 := mv (if s.f9 = true then s.f5 else 0) a (if s.f9 = true then s.f5 else 0) (if s.f9 = true then s.f6 else s.f0.f1 - 1), f2 := mv 0 b 0 (s.f0.f0 - 1), f3 := false }
theorem plast (s : S34) (h0 : 1 ≤ s.f0.f0) (h1 : s.f0.f0 ≤ 512) : F120Lb_0_.f s = some (s.f0.f0 - 1) := by
 unfold F120Lb_0_.f; rw [w64 (by omega) (by omega)]; rfl
theorem pmove (s : S34) (h : Ok s) (a b : Int) : F77Lb_0_.f s a b = some (dMove s a b) := by
 obtain ⟨w, q, e0, e1, _, _, _, _, _, _⟩ := h.size
 have hp := pos_iff.1 h.m.p
 have := h.m.t0; have := h.m.t1; have := h.m.t2
 unfold F77Lb_0_.f dMove
 rw [w64 (x := s.f0.f1 - 1) (by omega) (by omega), f128, f128]
 simp only [lt]
 by_cases c1 : s.f1 ≤ s.f6
 ·by_cases c2 : s.f1 ≥ s.f5
  ·simp only [c1, c2, if_true, Option.bind_some]
   rw [cl_mv (by omega) (by omega) (by omega) (by omega) (by omega)]
   simp only [Option.bind_some]
   rw [plast _ (by show 1 ≤ s.f0.f0; omega) (by show s.f0.f0 ≤ 512; omega)]
   simp only [Option.bind_some]
   rw [cl_mv (by omega) (by omega) (by omega) (by omega) (by omega)]; rfl
  ·simp only [c1, c2, if_true, if_false, Option.bind_some]
   rw [cl_mv (by omega) (by omega) (by omega) (by omega) (by omega)]
   simp only [Option.bind_some]
   rw [plast _ (by show 1 ≤ s.f0.f0; omega) (by show s.f0.f0 ≤ 512; omega)]
   simp only [Option.bind_some]
   rw [cl_mv (by omega) (by omega) (by omega) (by omega) (by omega)]; rfl
 ·have c2 : s.f1 ≥ s.f5 := by omega
  simp only [c1, c2, if_true, if_false, Option.bind_some]
  rw [cl_mv (by omega) (by omega) (by omega) (by omega) (by omega)]
  simp only [Option.bind_some]
  rw [plast _ (by show 1 ≤ s.f0.f0; omega) (by show s.f0.f0 ≤ 512; omega)]
  simp only [Option.bind_some]
  rw [cl_mv (by omega) (by omega) (by omega) (by omega) (by omega)]; rfl
theorem mv_le {n b lo hi : Int} (h : lo ≤ hi) : lo ≤ mv n b lo hi ∧ mv n b lo hi ≤ hi := by unfold mv; omega
theorem okMove {s : S34} (h : Ok s) (a b : Int) : Ok (dMove s a b) := by
 obtain ⟨w, q, e0, e1, _, _, _, _, _, _⟩ := h.size
 have hp := pos_iff.1 h.m.p
 have := h.m.t0; have := h.m.t1; have := h.m.t2
 have hm := h.mg
 have z1 := mv_le (n := s.f1) (b := a) (lo := if s.f1 ≥ s.f5 then s.f5 else 0) (hi := if s.f1 ≤ s.f6 then s.f6 else s.f0.f1 - 1) (by split <;> split <;> omega)
 have z2 := mv_le (n := s.f2) (b := b) (lo := 0) (hi := s.f0.f0 - 1) (by omega)
 refine ok_like h ⟨rfl, rfl, rfl, rfl, rfl, rfl, rfl, rfl, rfl, rfl, rfl, rfl, rfl⟩ ⟨hm.g, hm.b, hm.y, hm.t0, hm.t1, hm.t2, ?_, ?_⟩ ⟨z2.1, ?_, fun q => by cases q⟩
 ·refine Int.le_trans ?_ z1.1; split <;> omega
 ·refine Int.lt_of_le_of_lt z1.2 ?_
  show _ < s.f0.f1
  split <;> omega
 ·show mv s.f2 b 0 (s.f0.f0 - 1) < s.f0.f0
  omega
theorem pplace (s : S34) (h0 : 1 ≤ s.f0.f0) (h1 : s.f0.f0 ≤ 512) (h2 : 1 ≤ s.f0.f1) (h3 : s.f0.f1 ≤ 512) (t0 : 0 ≤ s.f5) (t1 : s.f5 ≤ s.f6) (t2 : s.f6 < s.f0.f1) (a b : Int) : F79Lb_0_.f s a b = some (dPlace s a b) := by
 have col : F127.f b 0 (s.f0.f0 - 1) = some (mv 0 b 0 (s.f0.f0 - 1)) := by rw [f127]; unfold mv; congr 1; omega
 unfold F79Lb_0_.f dPlace
 rw [w64 (x := s.f0.f1 - 1) (by omega) (by omega), f128]
 simp only [lt]
 cases hf : s.f9
 ·simp only [Bool.false_eq_true, if_false, Option.bind_some]
  rw [cl_mv (by omega) (by omega) (by omega) (by omega) (by omega)]
  simp only [Option.bind_some]
  rw [plast _ (by show 1 ≤ s.f0.f0; omega) (by show s.f0.f0 ≤ 512; omega)]
  simp only [Option.bind_some]
  rw [col]; simp only [hf, Option.bind_some]
 ·simp only [if_true, Option.bind_some]
  rw [cl_mv (by omega) (by omega) (by omega) (by omega) (by omega)]
  simp only [Option.bind_some]
  rw [plast _ (by show 1 ≤ s.f0.f0; omega) (by show s.f0.f0 ≤ 512; omega)]
  simp only [Option.bind_some]
  rw [col]; simp only [hf, Option.bind_some]
theorem okPlace {s : S34} (h : Ok s) (a b : Int) : Ok (dPlace s a b) := by
 obtain ⟨w, q, e0, e1, _, _, _, _, _, _⟩ := h.size
 have := h.m.t0; have := h.m.t1; have := h.m.t2
 have hm := h.mg
 have z1 := mv_le (n := if s.f9 = true then s.f5 else 0) (b := a) (lo := if s.f9 = true then s.f5 else 0) (hi := if s.f9 = true then s.f6 else s.f0.f1 - 1) (by split <;> omega)
 have z2 := mv_le (n := 0) (b := b) (lo := 0) (hi := s.f0.f0 - 1) (by omega)
 refine ok_like h ⟨rfl, rfl, rfl, rfl, rfl, rfl, rfl, rfl, rfl, rfl, rfl, rfl, rfl⟩ ⟨hm.g, hm.b, hm.y, hm.t0, hm.t1, hm.t2, ?_, ?_⟩ ⟨z2.1, ?_, fun q => by cases q⟩
 ·refine Int.le_trans ?_ z1.1; split <;> omega
 ·refine Int.lt_of_le_of_lt z1.2 ?_
  show _ < s.f0.f1
  split <;> omega
 ·show mv 0 b 0 (s.f0.f0 - 1) < s.f0.f0
  omega
def dRegion (s : S34) (t b : Int) : S34 := if t < 0 ∨ t ≥ b ∨ b ≥ s.f0.f1 then s else dPlace { s with f5 := t, f6 := b } 0 0
theorem pregion (s : S34) (h : Ok s) (t b : Int) : F89Lb_0_.f s t b = some (dRegion s t b) := by
 obtain ⟨w, q, e0, e1, _, _, _, _, _, _⟩ := h.size
 unfold F89Lb_0_.f dRegion
 simp only [lt]
 by_cases c : t < 0 ∨ t ≥ b ∨ b ≥ s.f0.f1
 ·rw [if_pos c, if_pos (by simpa [or_assoc] using c)]
 ·rw [if_neg c, if_neg (by simpa [or_assoc] using c), pplace _ (by show 1 ≤ s.f0.f0; omega) (by show s.f0.f0 ≤ 512; omega) (by show 1 ≤ s.f0.f1; omega) (by show s.f0.f1 ≤ 512; omega) (by show 0 ≤ t; omega) (by show t ≤ b; omega) (by show b < s.f0.f1; omega)]
  rfl
theorem region_ok {s : S34} (h : Ok s) {t b : Int} (c : ¬ (t < 0 ∨ t ≥ b ∨ b ≥ s.f0.f1)) : Ok { s with f5 := t, f6 := b } :=
 ⟨⟨h.m.g, h.m.y, h.m.y2, by show 0 ≤ t; omega, by show t ≤ b; omega, by show b < s.f0.f1; omega, h.m.p, h.m.p2, h.m.tabs, h.m.alt, h.m.ti⟩, h.b, h.b2⟩
theorem okRegion {s : S34} (h : Ok s) (t b : Int) : Ok (dRegion s t b) := by
 unfold dRegion
 split
 ·exact h
 ·rename_i c; exact okPlace (region_ok h c) 0 0
def dKeep (s : S34) (back : Bool) : S34 := if back = true then { s with f1 := s.f14.f0, f2 := s.f14.f1, f3 := s.f14.f2, f9 := s.f14.f3, f4 := s.f14.f4 } else { s with f14 := S31.mk s.f1 s.f2 s.f3 s.f9 s.f4 }
theorem pkeep (s : S34) (b : Bool) : F64Lb_0_.f s b = some (dKeep s b) := by
 unfold F64Lb_0_.f dKeep; split <;> rfl
theorem okKeep {s : S34} (h : Ok s) (b : Bool) : Ok (dKeep s b) := by
 unfold dKeep
 split
 ·exact ⟨⟨h.m.g, h.m.y2, h.m.y2, h.m.t0, h.m.t1, h.m.t2, h.m.p2, h.m.p2, h.m.tabs, h.m.alt, h.m.ti⟩, h.b, h.b2⟩
 ·exact ⟨⟨h.m.g, h.m.y, h.m.y, h.m.t0, h.m.t1, h.m.t2, h.m.p, h.m.p, h.m.tabs, h.m.alt, h.m.ti⟩, h.b, h.b2⟩
def dScroll (s : S34) (n : Int) : S34 := { scr s s.f5 s.f6 n with f3 := false }
def dLines (s : S34) (n : Int) : S34 := if s.f1 < s.f5 ∨ s.f1 > s.f6 then s else { scr s s.f1 s.f6 (-n) with f2 := 0, f3 := false }
theorem pscroll (s : S34) (h : Ok s) (n : Int) (k : Nat) (hk : 1100000 ≤ k) : F87Lb_0_.f k s n = some (dScroll s n) := by
 unfold F87Lb_0_.f
 rw [up s h.mg _ _ _ h.m.t0 h.m.t1 h.m.t2 k hk]; rfl
theorem cursor {s : S34} (h : Ok s) : 0 ≤ s.f2 ∧ s.f2 < s.f0.f0 ∧ (s.f3 = true → s.f2 = s.f0.f0 - 1) := (pos_iff.1 h.m.p).2.2
theorem mg_cur {s : S34} (h : Mg s) (c : Int) (p : Bool) : Mg { s with f2 := c, f3 := p } := ⟨h.g, h.b, h.y, h.t0, h.t1, h.t2, h.r0, h.r1⟩
theorem like_cur {s t : S34} (l : Like s t) (c : Int) (p : Bool) : Like s { t with f2 := c, f3 := p } := ⟨l.d0, l.d1, l.f4, l.f5, l.f6, l.f7, l.f8, l.f9, l.f10, l.f14, l.f15, l.f16, l.f17⟩
theorem okScroll {s : S34} (h : Ok s) (n : Int) : Ok (dScroll s n) := by
 have hm := scr_mg (by_ := n) h.mg h.m.t0 h.m.t1 h.m.t2
 have hl := scr_like (by_ := n) h.mg h.m.t0 h.m.t1 h.m.t2
 have hc := cursor h
 exact ok_like h (like_cur hl s.f2 false) (mg_cur hm s.f2 false) ⟨hc.1, by have := hl.d0; show s.f2 < (scr s s.f5 s.f6 n).f0.f0; omega, fun q => by cases q⟩
theorem lines_by {n : Int} : clip 512 (-(max (-1024) (min n 1024))) = clip 512 (-n) := by unfold clip; omega
theorem plines (s : S34) (h : Ok s) (n : Int) (k : Nat) (hk : 1100000 ≤ k) : F83Lb_0_.f k s n = some (dLines s n) := by
 have hp := pos_iff.1 h.m.p
 unfold F83Lb_0_.f dLines
 rw [f128]
 by_cases c1 : s.f1 < s.f5
 ·simp [c1]
 ·by_cases c2 : s.f1 > s.f6
  ·simp [c1, c2]
  ·have c3 : ¬ (s.f1 < s.f5 ∨ s.f1 > s.f6) := by omega
   simp only [c1, c2, c3, if_false, decide_false, Option.bind_some, Bool.false_eq_true]
   rw [up s h.mg _ _ _ (by omega) (by omega) h.m.t2 k hk, w64 (by omega) (by omega), show (0 : Int) - max (-1024) (min n 1024) = -(max (-1024) (min n 1024)) from by omega, scr_clip h.mg (by omega) (by omega) h.m.t2 lines_by]
   rfl
theorem okLines {s : S34} (h : Ok s) (n : Int) : Ok (dLines s n) := by
 unfold dLines
 split
 ·exact h
 ·have hp := pos_iff.1 h.m.p
  have hm := scr_mg (t := s.f1) (u := s.f6) (by_ := -n) h.mg (by omega) (by omega) h.m.t2
  have hl := scr_like (t := s.f1) (u := s.f6) (by_ := -n) h.mg (by omega) (by omega) h.m.t2
  obtain ⟨w, q, e0, e1, _, _, _, _, _, _⟩ := h.size
  exact ok_like h (like_cur hl 0 false) (mg_cur hm 0 false) ⟨by show (0 : Int) ≤ 0; omega, by have := hl.d0; show (0 : Int) < (scr s s.f1 s.f6 (-n)).f0.f0; omega, fun q => by cases q⟩
end Go.Proofs.YtckilbegmbaeeaaGreat.Z5Sc
namespace Go.Proofs.YtckilbegmbaeeaaGreat.Z5Sc
open Go Go.RowKit Go.Proofs.YtckilbegmbaeeaaGreat.SL Go.Proofs.YtckilbegmbaeeaaGreat.Z5 Go.Proofs.YtckilbegmbaeeaaGreat.Z5May Go.Proofs.YtckilbegmbaeeaaGreat.Z5Ls Go.Proofs.YtckilbegmbaeeaaGreat.Z5Op Go.Proofs.YtckilbegmbaeeaaGreat.Z5Sp
set_option linter.unusedVariables false
set_option linter.unusedSimpArgs false
theorem Mg.at {s : S34} (h : Mg s) : ∃ w q i : Nat, s.f0.f0 = (w : Int) ∧ s.f0.f1 = (q : Int) ∧ s.f1 = (i : Int) ∧ 0 < w ∧ w ≤ 512 ∧ 0 < q ∧ q ≤ 512 ∧ i < q ∧ s.f0.f2.length = w * q ∧ w * q ≤ 262144 ∧ i * w + w ≤ s.f0.f2.length := by
 obtain ⟨w, q, e0, e1, a, b, c, d, hl, hb⟩ := h.size
 have r0 := h.r0
 have r1 := h.r1
 have hp := place (w := w) (i := s.f1.toNat) (q := q) (by omega)
 exact ⟨w, q, s.f1.toNat, e0, e1, by omega, a, b, c, d, by omega, hl, hb, by rw [hl]; exact hp⟩
theorem at135 (s : S34) (w q i : Nat) (e0 : s.f0.f0 = (w : Int)) (hl : s.f0.f2.length = w * q) (hb : w * q ≤ 262144) (hi : i < q) : F135i34m0b_0_.f s (i : Int) = some (((i * w : Nat) : Int), (w : Int)) := by
 have hp := place (w := w) hi
 unfold F135i34m0b_0_.f
 simp only [lt]
 rw [e0, show (i : Int) * (w : Int) = ((i * w : Nat) : Int) from by simp, w64 (x := ((i * w : Nat) : Int)) (by omega) (by omega), w64 (x := ((i * w : Nat) : Int) + (w : Int)) (by omega) (by omega), if_pos (by omega)]
 congr 2 <;> omega
theorem prow (s : S34) (w q i : Nat) (e0 : s.f0.f0 = (w : Int)) (e2 : s.f1 = (i : Int)) (hl : s.f0.f2.length = w * q) (hb : w * q ≤ 262144) (hi : i < q) : F121Lb_0_.f s = some (((i * w : Nat) : Int), (w : Int)) := by
 have hp := place (w := w) hi
 unfold F121Lb_0_.f
 rw [e2, at135 s w q i e0 hl hb hi]
 simp only [Option.bind_some]
 rw [if_pos (by omega)]
def onR (s : S34) (f : List S55 → List S55) : S34 := { s with f0 := (onRow s.f0 s.f1 f).1 }
theorem onR_eq {s : S34} {w i : Nat} {f : List S55 → List S55} (e0 : s.f0.f0 = (w : Int)) (e2 : s.f1 = (i : Int)) :
  onR s f = { s with f0 := S26.mk s.f0.f0 s.f0.f1 (over s.f0.f2 (i * w) (mendL (f (win s.f0.f2 (i * w) w)))) } := by
 unfold onR onRow; rw [e0, e2]; simp only [Int.toNat_natCast]
theorem rowOk_of {s : S34} (h : Mg s) : rowOk s.f0 s.f1 s.f4 = true := by
 unfold rowOk
 simp only [h.g, h.y, Bool.true_and, Bool.and_true, Bool.and_eq_true, decide_eq_true_eq]
 exact ⟨h.r0, h.r1⟩
theorem onR_like (s : S34) (f : List S55 → List S55) : Like s (onR s f) := ⟨rfl, rfl, rfl, rfl, rfl, rfl, rfl, rfl, rfl, rfl, rfl, rfl, rfl⟩
theorem onR_mg {s : S34} (h : Mg s) {f : List S55 → List S55} (hf : ∀ W : List S55, W.length = s.f0.f0.toNat → (∀ x ∈ W, mayCell x = true) → (f W).length = W.length ∧ ∀ x ∈ f W, mayCell x = true) (hb : ∀ W : List S55, (∀ x ∈ W, byte x) → ∀ x ∈ f W, byte x) : Mg (onR s f) :=
 ⟨onRow_may (rowOk_of h) hf, onRow_all h.b hb, h.y, h.t0, h.t1, h.t2, h.r0, h.r1⟩
def fSh (s : S34) (n : Int) : List S55 → List S55 := fun W => over W s.f2.toNat (slide (W.drop s.f2.toNat) (-n) (blk s.f4))
def dChars (s : S34) (n : Int) : S34 := { onR s (fSh s n) with f3 := false }
theorem shift_mg {s : S34} (h : Mg s) (hc : 0 ≤ s.f2 ∧ s.f2 < s.f0.f0) (n : Int) : Mg (onR s (fSh s n)) := by
 refine onR_mg h (fun W hW hm => ⟨shift_len (by omega), fun x hx => ?_⟩) (fun W hW => over_all hW (slide_all fun x hx => hW x (List.mem_of_mem_drop hx)))
 rcases over_mem hx with q | q
 ·exact hm x q
 ·rcases slide_mem q with q | q
  ·exact hm x (List.mem_of_mem_drop q)
  ·rw [q]; exact may_blk h.y
theorem pshift (s : S34) (h : Mg s) (hc : 0 ≤ s.f2 ∧ s.f2 < s.f0.f0) (n : Int) (w q i : Nat) (e0 : s.f0.f0 = (w : Int)) (e2 : s.f1 = (i : Int)) (hw : w ≤ 512) (hl : s.f0.f2.length = w * q) (hb : w * q ≤ 262144) (hp : i * w + w ≤ s.f0.f2.length) (k : Nat) (hk : 1100000 ≤ k) :
  F122w0.f k s.f0.f2 ((i * w : Nat) : Int) (w : Int) s.f2 n s.f4 = some (over s.f0.f2 (i * w) (mendL (fSh s n (win s.f0.f2 (i * w) w)))) := by
 obtain ⟨c, hc2⟩ : ∃ c : Nat, s.f2 = (c : Int) := ⟨s.f2.toNat, by omega⟩
 unfold fSh
 rw [hc2, f88 s.f0.f2 (i * w) w c n s.f4 hp (by omega) (by omega) (by omega) k (by omega)]
 simp only [Int.toNat_natCast]
theorem fSh_len {s : S34} {n : Int} {W : List S55} (h : s.f2.toNat ≤ W.length) : (fSh s n W).length = W.length := shift_len h
theorem pchars (s : S34) (h : Ok s) (n : Int) (k : Nat) (hk : 1100000 ≤ k) : F85Lb_0_.f k s n = some (dChars s n) := by
 obtain ⟨w, q, i, e0, e1, e2, a, b, c, d, hi, hl, hb, hp⟩ := h.mg.at
 have hc := cursor h
 unfold F85Lb_0_.f dChars
 rw [prow s w q i e0 e2 hl hb hi]
 simp only [Option.bind_some]
 rw [if_pos (by omega), pshift s h.mg ⟨hc.1, hc.2.1⟩ n w q i e0 e2 b hl hb hp k hk]
 simp only [Option.bind_some]
 have hw := wlen hp
 rw [if_pos (over_len2 (by rw [mend_len, fSh_len (by omega), hw]; exact hp)), onR_eq e0 e2]
theorem okRow {s : S34} (h : Ok s) {f : List S55 → List S55} (hm : Mg (onR s f)) : Ok { onR s f with f3 := false } := by
 have hc := cursor h
 exact ok_like h (like_cur (onR_like s f) s.f2 false) (mg_cur hm s.f2 false) ⟨hc.1, hc.2.1, fun q => by cases q⟩
theorem okChars {s : S34} (h : Ok s) (n : Int) : Ok (dChars s n) := by
 have hc := cursor h
 exact okRow h (shift_mg h.mg ⟨hc.1, hc.2.1⟩ n)
def fEr (s : S34) (a b : Int) : List S55 → List S55 := fun W => over W a.toNat (List.replicate (b.toNat - a.toNat) (blk s.f4))
def dWipe (s : S34) (n : Int) : S34 := { onR s (fEr s s.f2 (mv s.f2 n s.f2 s.f0.f0)) with f3 := false }
theorem fEr_len {s : S34} {a b : Int} {W : List S55} (h : a ≤ b) (h0 : 0 ≤ a) (h2 : b.toNat ≤ W.length) : (fEr s a b W).length = W.length := over_len2 (by rw [List.length_replicate]; omega)
theorem erase_mg {s : S34} (h : Mg s) {a b : Int} (h0 : 0 ≤ a) (h1 : a ≤ b) (h2 : b ≤ s.f0.f0) : Mg (onR s (fEr s a b)) := by
 refine onR_mg h (fun W hW hm => ⟨fEr_len h1 h0 (by omega), fun x hx => ?_⟩) (fun W hW => over_all hW rep_all)
 rcases over_mem hx with q | q
 ·exact hm x q
 ·rw [(List.mem_replicate.1 q).2]; exact may_blk h.y
theorem perase (X : List S55) (s : S34) (a b : Int) (h0 : 0 ≤ a) (h1 : a ≤ b) (w o : Nat) (h2 : b ≤ (w : Int)) (hp : o + w ≤ X.length) (hl : X.length ≤ 262144) (k : Nat) (hk : 1100000 ≤ k) :
  F129w0.f k X (o : Int) (w : Int) a b s.f4 = some (over X o (mendL (fEr s a b (win X o w)))) := by
 obtain ⟨a, rfl⟩ : ∃ c : Nat, a = (c : Int) := ⟨a.toNat, by omega⟩
 obtain ⟨b, rfl⟩ : ∃ c : Nat, b = (c : Int) := ⟨b.toNat, by omega⟩
 unfold fEr
 rw [f77 X o w a b s.f4 hp (by omega) (by omega) (by omega) k (by omega)]
 simp only [Int.toNat_natCast]
theorem pwipe (s : S34) (h : Ok s) (n : Int) (k : Nat) (hk : 1100000 ≤ k) : F95Lb_0_.f k s n = some (dWipe s n) := by
 obtain ⟨w, q, i, e0, e1, e2, a, b, c, d, hi, hl, hb, hp⟩ := h.mg.at
 have hc := cursor h
 have hm := mv_le (n := s.f2) (b := n) (lo := s.f2) (hi := s.f0.f0) (by omega)
 unfold F95Lb_0_.f dWipe
 rw [prow s w q i e0 e2 hl hb hi]
 simp only [Option.bind_some]
 rw [if_pos (by omega), f128]
 simp only [Option.bind_some]
 rw [cl_mv (by omega) (by omega) (by omega) (by omega) (by omega)]
 simp only [Option.bind_some]
 have hw := wlen hp
 rw [perase s.f0.f2 s s.f2 _ hc.1 hm.1 w (i * w) (by omega) hp (by omega) k hk]
 simp only [Option.bind_some]
 rw [if_pos (over_len2 (by rw [mend_len, fEr_len hm.1 hc.1 (by omega), hw]; exact hp)), onR_eq e0 e2]
theorem okWipe {s : S34} (h : Ok s) (n : Int) : Ok (dWipe s n) := by
 have hc := cursor h
 obtain ⟨w, q, e0, e1, _, _, _, _, _, _⟩ := h.size
 have hv := mv_le (n := s.f2) (b := n) (lo := s.f2) (hi := s.f0.f0) (by omega)
 exact okRow h (erase_mg h.mg hc.1 hv.1 hv.2)
theorem flat_len {w : Nat} {R : Nat → List S55} : ∀ (q : Nat), (∀ n, n < q → (R n).length = w) → ((List.range q).flatMap R).length = w * q
 | 0, _ => by simp
 | q + 1, h => by
  rw [List.range_succ, List.flatMap_append, List.length_append, flat_len q fun n hn => h n (by omega)]
  simp only [List.flatMap_cons, List.flatMap_nil, List.append_nil]
  rw [h q (by omega), Nat.mul_add, Nat.mul_one]
theorem win_flat {w : Nat} {R : Nat → List S55} : ∀ (q n : Nat), (∀ n, n < q → (R n).length = w) → n < q → win ((List.range q).flatMap R) (n * w) w = R n
 | 0, n, _, h => by omega
 | q + 1, n, h, hn => by
  have hl := flat_len q fun n hn => h n (by omega)
  rw [List.range_succ, List.flatMap_append]
  simp only [List.flatMap_cons, List.flatMap_nil, List.append_nil]
  have hR := h q (by omega)
  apply List.ext_getElem?
  intro j
  rw [win_get]
  by_cases hj : j < w
  ·rw [if_pos hj]
   by_cases hq : n < q
   ·have hp := place (w := w) hq
    have e := congrArg (·[j]?) (win_flat q n (fun n hn => h n (by omega)) hq)
    simp only [win_get, hj, if_true] at e
    rw [List.getElem?_append_left (by omega)]; exact e
   ·obtain rfl : n = q := by omega
    rw [List.getElem?_append_right (by rw [hl, Nat.mul_comm]; omega), hl]
    congr 1; rw [Nat.mul_comm]; omega
  ·rw [if_neg hj, List.getElem?_eq_none (by rw [h n hn]; omega)]
theorem is_flat {X : List S55} {w q : Nat} {R : Nat → List S55} (hl : X.length = w * q) (hR : ∀ n, n < q → (R n).length = w) (h : ∀ n, n < q → win X (n * w) w = R n) : X = (List.range q).flatMap R :=
 rows_ext hl (flat_len q hR) fun n hn => by rw [h n hn, win_flat q n hR hn]
theorem win_row {X R : List S55} {w q n r : Nat} (hl : X.length = w * q) (hn : n < q) (hr : r < q) (hR : R.length = w) : win (over X (n * w) R) (r * w) w = if r = n then R else win X (r * w) w := by
 have hp := place (w := w) hn
 split
 ·rename_i e; subst e; exact win_over hR (by omega)
 ·rename_i e
  refine win_over_out (by omega) hR ?_
  rcases Nat.lt_or_ge r n with z | z
  ·left; have := Nat.mul_le_mul_right w (show r + 1 ≤ n from z); rw [Nat.add_mul] at this; omega
  ·right; have := Nat.mul_le_mul_right w (show n + 1 ≤ r from by omega); rw [Nat.add_mul] at this; omega
def eAB (s : S34) (lines : Bool) (kind : Int) (n : Int) : Int × Int :=
 if n = s.f1 ∧ kind = 0 then (s.f2, s.f0.f0) else if n = s.f1 ∧ kind = 1 then (0, s.f2 + 1) else
 if (kind = 2 ∧ (lines = true ∨ n = s.f1)) ∨ (lines = true ∧ kind = 0 ∧ n > s.f1) ∨ (lines = true ∧ kind = 1 ∧ n < s.f1) then (0, s.f0.f0) else (0, 0)
theorem eAB_in {s : S34} (h : 0 ≤ s.f2 ∧ s.f2 < s.f0.f0) (lines : Bool) (kind n : Int) : 0 ≤ (eAB s lines kind n).1 ∧ (eAB s lines kind n).1 ≤ (eAB s lines kind n).2 ∧ (eAB s lines kind n).2 ≤ s.f0.f0 := by
 unfold eAB
 split
 ·exact ⟨by simp; omega, by simp; omega, by simp⟩
 ·split
  ·exact ⟨by simp, by simp; omega, by simp; omega⟩
  ·split
   ·exact ⟨by simp, by simp; omega, by simp⟩
   ·exact ⟨by simp, by simp, by simp; omega⟩
def eRow (s : S34) (lines : Bool) (kind : Int) (n : Nat) : List S55 :=
 mendL (fEr s (eAB s lines kind n).1 (eAB s lines kind n).2 (win s.f0.f2 (n * s.f0.f0.toNat) s.f0.f0.toNat))
def dErase (s : S34) (lines : Bool) (kind : Int) : S34 :=
 { s with f0 := S26.mk s.f0.f0 s.f0.f1 ((List.range s.f0.f1.toNat).flatMap (eRow s lines kind)), f3 := false }
theorem eRow_len {s : S34} {w q : Nat} (e0 : s.f0.f0 = (w : Int)) (hl : s.f0.f2.length = w * q) (hc : 0 ≤ s.f2 ∧ s.f2 < s.f0.f0) {lines : Bool} {kind : Int} {n : Nat} (hn : n < q) : (eRow s lines kind n).length = w := by
 have hp := place (w := w) hn
 have hi := eAB_in hc lines kind n
 unfold eRow
 rw [mend_len, e0, Int.toNat_natCast]
 have hw := wlen (xs := s.f0.f2) (o := n * w) (n := w) (by omega)
 rw [fEr_len hi.2.1 hi.1 (by omega), hw]
theorem fEr_none {s : S34} {W : List S55} : fEr s 0 0 W = W := by unfold fEr over; simp
theorem grid_rows {s : S34} (h : Mg s) {w q n : Nat} (e0 : s.f0.f0 = (w : Int)) (e1 : s.f0.f1 = (q : Int)) (hn : n < q) : RowG (win s.f0.f2 (n * w) w) := by
 obtain ⟨w', q', e0', e1', _, _, _, _, _, hr⟩ := (mayGrid_iff s.f0).1 h.g
 obtain rfl : w' = w := by omega
 obtain rfl : q' = q := by omega
 exact hr n hn
theorem okErase {s : S34} (h : Ok s) (lines : Bool) (kind : Int) : Ok (dErase s lines kind) := by
 obtain ⟨w, q, e0, e1, a, b, c, d, hl, hb⟩ := h.size
 have hc := cursor h
 have hm := h.mg
 refine ok_like h ⟨rfl, rfl, rfl, rfl, rfl, rfl, rfl, rfl, rfl, rfl, rfl, rfl, rfl⟩ ⟨?_, ?_, hm.y, hm.t0, hm.t1, hm.t2, hm.r0, hm.r1⟩ ⟨hc.1, hc.2.1, fun q => by cases q⟩
 ·rw [mayGrid_iff]
  refine ⟨w, q, e0, e1, a, b, c, d, ?_, fun r hr => ?_⟩
  ·show (List.flatMap _ _).length = _
   rw [e1, Int.toNat_natCast]; exact flat_len q fun r hr => eRow_len e0 hl ⟨hc.1, hc.2.1⟩ hr
  ·show RowG (win (List.flatMap _ _) (r * w) w)
   rw [e1, Int.toNat_natCast, win_flat q r (fun r hr => eRow_len e0 hl ⟨hc.1, hc.2.1⟩ hr) hr]
   unfold eRow
   refine mend_good fun x hx => ?_
   unfold fEr at hx
   rcases over_mem hx with z | z
   ·rw [e0, Int.toNat_natCast] at z
    exact (grid_rows h.mg e0 e1 hr).cells x z
   ·rw [(List.mem_replicate.1 z).2]; exact may_blk h.m.y
 ·intro x hx
  replace hx : x ∈ (List.range s.f0.f1.toNat).flatMap (eRow s lines kind) := hx
  simp only [List.mem_flatMap] at hx
  obtain ⟨r, _, hx⟩ := hx
  unfold eRow at hx
  exact mend_all (over_all (win_all h.b) rep_all) x hx
theorem l130 (s : S34) (w q b : Nat) (e0 : s.f0.f0 = (w : Int)) (hw5 : w ≤ 512) (hq5 : q ≤ 512) (hl : s.f0.f2.length = w * q) (hb : w * q ≤ 262144) (hbq : b ≤ q) : ∀ (m k n : Nat) (X : List S55), n + m = b → m + 1100000 < k → X.length = w * q →
  ∃ Y, F130Lb_0_.l0 s (b : Int) k (n : Int) X = some Y ∧ Y.length = w * q ∧ ∀ r, r < q → win Y (r * w) w = if n ≤ r ∧ r < b then mendL (fEr s 0 (w : Int) (win X (r * w) w)) else win X (r * w) w
 | _, 0, _, _, _, hk, _ => by omega
 | 0, k + 1, n, X, hn, hk, hX => ⟨X, by rw [F130Lb_0_.l0, if_pos (by omega), if_neg (by omega)], hX, fun r hr => by rw [if_neg (by omega)]⟩
 | m + 1, k + 1, n, X, hn, hk, hX => by
  have hp := place (w := w) (i := n) (q := q) (by omega)
  have hwX := wlen (xs := X) (o := n * w) (n := w) (by omega)
  have hRl : (mendL (fEr s 0 (w : Int) (win X (n * w) w))).length = w := by rw [mend_len, fEr_len (by omega) (by omega) (by omega), hwX]
  obtain ⟨Y, h1, h2, h3⟩ := l130 s w q b e0 hw5 hq5 hl hb hbq m k (n + 1) (over X (n * w) (mendL (fEr s 0 (w : Int) (win X (n * w) w)))) (by omega) (by omega) (by rw [over_len2 (by omega)]; exact hX)
  refine ⟨Y, ?_, h2, fun r hr => ?_⟩
  ·rw [F130Lb_0_.l0, if_pos (by omega), if_pos (by omega)]
   have hat := at135 { s with f0 := S26.mk s.f0.f0 s.f0.f1 X } w q n e0 hX hb (by omega)
   rw [show F135i34m0b_0_.f (S34.mk (S26.mk s.f0.f0 s.f0.f1 X) s.f1 s.f2 s.f3 s.f4 s.f5 s.f6 s.f7 s.f8 s.f9 s.f10 s.f11 s.f12 s.f13 s.f14 s.f15 s.f16 s.f17) (n : Int) = _ from hat]
   simp only [Option.bind_some]
   rw [if_pos (by omega), e0, perase X s 0 (w : Int) (by omega) (by omega) w (n * w) (by omega) (by omega) (by omega) k (by omega)]
   simp only [Option.bind_some, lt]
   rw [if_pos (over_len2 (by omega)), w64 (by omega) (by omega)]
   exact h1
  ·rw [h3 r hr, win_row hX (by omega) hr hRl]
   by_cases z : r = n
   ·subst z; rw [if_neg (by omega), if_pos rfl, if_pos (by omega)]
   ·rw [if_neg z]
    by_cases z2 : n + 1 ≤ r ∧ r < b
    ·rw [if_pos z2, if_pos (by omega)]
    ·rw [if_neg z2, if_neg (by omega)]
theorem f130 (s : S34) (w q a b : Nat) (e0 : s.f0.f0 = (w : Int)) (hw5 : w ≤ 512) (hq5 : q ≤ 512) (hl : s.f0.f2.length = w * q) (hb : w * q ≤ 262144) (hbq : b ≤ q) (k : Nat) (hk : 1200000 ≤ k) :
  ∃ Y, F130Lb_0_.f k s (a : Int) (b : Int) = some { s with f0 := S26.mk s.f0.f0 s.f0.f1 Y } ∧ Y.length = w * q ∧ ∀ r, r < q → win Y (r * w) w = if a ≤ r ∧ r < b then mendL (fEr s 0 (w : Int) (win s.f0.f2 (r * w) w)) else win s.f0.f2 (r * w) w := by
 obtain ⟨k, rfl⟩ : ∃ j, k = j + 1 := ⟨k - 1, by omega⟩
 by_cases hab : a ≤ b
 ·obtain ⟨Y, h1, h2, h3⟩ := l130 s w q b e0 hw5 hq5 hl hb hbq (b - a) (k + 1) a s.f0.f2 (by omega) (by omega) hl
  exact ⟨Y, by unfold F130Lb_0_.f; rw [h1]; simp only [Option.bind_some]; rw [if_pos (by omega)], h2, h3⟩
 ·refine ⟨s.f0.f2, ?_, hl, fun r hr => by rw [if_neg (by omega)]⟩
  unfold F130Lb_0_.f
  rw [F130Lb_0_.l0, if_pos rfl, if_neg (by omega)]
  simp
theorem perases (s : S34) (h : Ok s) (lines : Bool) (kind : Int) (k : Nat) (hk : 1200000 ≤ k) : F81Lb_0_.f k s lines kind = some (dErase s lines kind) := by
 obtain ⟨w, q, i, e0, e1, e2, a, b, c, d, hi, hl, hb, hp⟩ := h.mg.at
 have hc := cursor h
 have hpair : ∃ A B ab be : Nat, (∀ (G : Int × Int × Int × Int → Option S34), (if kind = 0 then (some (s.f2, s.f0.f0, 0, s.f0.f1)) else (if kind = 1 then (lt (IntKind.i64.wrap (s.f2 + 1)) fun n1273 => some (0, n1273, s.f1, 0)) else (if kind = 2 then (some (0, s.f0.f0, s.f1, s.f0.f1)) else (some (0, 0, 0, 0)))) : Option (Int × Int × Int × Int)).bind G = G ((A : Int), (B : Int), (ab : Int), (be : Int))) ∧
   eAB s lines kind (i : Int) = ((A : Int), (B : Int)) ∧ ab ≤ i ∧ be ≤ q ∧ (∀ r : Nat, r < q → r ≠ i → eAB s lines kind (r : Int) = if lines = true ∧ (r < ab ∨ (i + 1 ≤ r ∧ r < be)) then (0, (w : Int)) else (0, 0)) := by
  unfold eAB
  rw [w64 (x := s.f2 + 1) (by omega) (by omega), e2]
  obtain ⟨cc, hcc⟩ : ∃ cc : Nat, s.f2 = (cc : Int) := ⟨s.f2.toNat, by omega⟩
  by_cases k0 : kind = 0
  ·refine ⟨cc, w, 0, q, fun G => by simp [k0, hcc, e0, e1], by simp [k0, hcc, e0], by omega, by omega, fun r hr hri => ?_⟩
   by_cases z : r > i
   ·cases lines <;> simp [k0, e0, z, show ¬ (r : Int) = (i : Int) from by omega, show (r : Int) > (i : Int) from by omega, show i + 1 ≤ r from z, hr]
   ·cases lines <;> simp [k0, e0, show ¬ (r : Int) = (i : Int) from by omega, show ¬ (r : Int) > (i : Int) from by omega, show ¬ i + 1 ≤ r from z]; try omega
  ·by_cases k1 : kind = 1
   ·refine ⟨0, cc + 1, i, 0, fun G => by simp [k1, hcc, lt], by simp [k1, hcc], by omega, by omega, fun r hr hri => ?_⟩
    by_cases z : r < i
    ·cases lines <;> simp [k1, e0, z, show ¬ (r : Int) = (i : Int) from by omega, show (r : Int) < (i : Int) from by omega]
    ·cases lines <;> simp [k1, e0, z, show ¬ (r : Int) = (i : Int) from by omega, show ¬ (r : Int) < (i : Int) from by omega]; try omega
   ·by_cases k2 : kind = 2
    ·refine ⟨0, w, i, q, fun G => by simp [k2, e0, e1], by simp [k2, e0], by omega, by omega, fun r hr hri => ?_⟩
     cases lines
     ·simp [k2, e0, show ¬ (r : Int) = (i : Int) from by omega]
     ·have : r < i ∨ (i + 1 ≤ r ∧ r < q) := by omega
      simp [k2, e0, this, show ¬ (r : Int) = (i : Int) from by omega]
    ·exact ⟨0, 0, 0, 0, fun G => by simp [k0, k1, k2], by simp [k0, k1, k2], by omega, by omega, fun r hr hri => by simp [k0, k1, k2]⟩
 obtain ⟨A, B, ab, be, hG, hE, hab, hbe, hO⟩ := hpair
 have hin := eAB_in ⟨hc.1, hc.2.1⟩ lines kind (i : Int)
 rw [hE] at hin
 simp only at hin
 unfold F81Lb_0_.f
 rw [hG, prow s w q i e0 e2 hl hb hi]
 simp only [Option.bind_some]
 have hwX := wlen hp
 have hRl : (mendL (fEr s (A : Int) (B : Int) (win s.f0.f2 (i * w) w))).length = w := by rw [mend_len, fEr_len (by omega) (by omega) (by omega), hwX]
 have hXl : (over s.f0.f2 (i * w) (mendL (fEr s (A : Int) (B : Int) (win s.f0.f2 (i * w) w)))).length = w * q := by rw [over_len2 (by omega)]; exact hl
 rw [if_pos (by omega), perase s.f0.f2 s (A : Int) (B : Int) (by omega) (by omega) w (i * w) (by omega) hp (by omega) k (by omega)]
 simp only [Option.bind_some]
 rw [if_pos (by omega)]
 generalize hX1 : over s.f0.f2 (i * w) (mendL (fEr s (A : Int) (B : Int) (win s.f0.f2 (i * w) w))) = X1 at hXl
 have hw1 : ∀ r, r < q → win X1 (r * w) w = if r = i then mendL (fEr s (A : Int) (B : Int) (win s.f0.f2 (i * w) w)) else win s.f0.f2 (r * w) w := fun r hr => by rw [← hX1]; exact win_row hl hi hr hRl
 have fin : ∀ Y : List S55, Y.length = w * q → (∀ r, r < q → win Y (r * w) w = eRow s lines kind r) → ({ s with f0 := S26.mk s.f0.f0 s.f0.f1 Y, f3 := false } : S34) = dErase s lines kind := fun Y hY hw => by
  unfold dErase
  rw [e1, Int.toNat_natCast, ← is_flat hY (fun r hr => eRow_len e0 hl ⟨hc.1, hc.2.1⟩ hr) hw]
 have hself : ∀ r, r < q → r ≠ i → eAB s lines kind (r : Int) = (0, 0) → win s.f0.f2 (r * w) w = eRow s lines kind r := fun r hr hri he => by
  unfold eRow
  rw [he, fEr_none, e0, Int.toNat_natCast, mend_id (grid_rows h.mg e0 e1 hr)]
 have hrow : mendL (fEr s (A : Int) (B : Int) (win s.f0.f2 (i * w) w)) = eRow s lines kind i := by
  unfold eRow; rw [hE, e0, Int.toNat_natCast]
 cases lines
 ·simp only [Bool.false_eq_true, if_false, Option.bind_some]
  refine congrArg some (fin X1 hXl fun r hr => ?_)
  rw [hw1 r hr]
  by_cases z : r = i
  ·subst z; rw [if_pos rfl]; exact hrow
  ·rw [if_neg z]; exact hself r hr z (by rw [hO r hr z]; simp)
 ·simp only [if_true]
  obtain ⟨Y, y1, y2, y3⟩ := f130 { s with f0 := S26.mk s.f0.f0 s.f0.f1 X1 } w q 0 ab e0 b d hXl hb (by omega) k hk
  rw [show F130Lb_0_.f k (S34.mk (S26.mk s.f0.f0 s.f0.f1 X1) s.f1 s.f2 s.f3 s.f4 s.f5 s.f6 s.f7 s.f8 s.f9 s.f10 s.f11 s.f12 s.f13 s.f14 s.f15 s.f16 s.f17) 0 (ab : Int) = _ from y1]
  simp only [Option.bind_some]
  rw [show IntKind.i64.wrap (s.f1 + 1) = ((i + 1 : Nat) : Int) from by rw [e2, w64 (by omega) (by omega)]; rfl]
  obtain ⟨Z, z1, z2, z3⟩ := f130 { s with f0 := S26.mk s.f0.f0 s.f0.f1 Y } w q (i + 1) be e0 b d y2 hb hbe k hk
  rw [show F130Lb_0_.f k (S34.mk (S26.mk s.f0.f0 s.f0.f1 Y) s.f1 s.f2 s.f3 s.f4 s.f5 s.f6 s.f7 s.f8 s.f9 s.f10 s.f11 s.f12 s.f13 s.f14 s.f15 s.f16 s.f17) ((i + 1 : Nat) : Int) (be : Int) = _ from z1]
  simp only [Option.bind_some]
  refine congrArg some (fin Z z2 fun r hr => ?_)
  have y3' := y3 r hr
  have z3' := z3 r hr
  replace y3' : win Y (r * w) w = if 0 ≤ r ∧ r < ab then mendL (fEr s 0 (w : Int) (win X1 (r * w) w)) else win X1 (r * w) w := y3'
  replace z3' : win Z (r * w) w = if i + 1 ≤ r ∧ r < be then mendL (fEr s 0 (w : Int) (win Y (r * w) w)) else win Y (r * w) w := z3'
  rw [z3', y3', hw1 r hr]
  have hfull : eAB s true kind (r : Int) = (0, (w : Int)) → mendL (fEr s 0 (w : Int) (win s.f0.f2 (r * w) w)) = eRow s true kind r := fun he => by
   unfold eRow; rw [he, e0, Int.toNat_natCast]
  by_cases z : r = i
  ·subst z
   rw [if_neg (by omega), if_neg (by omega), if_pos rfl]; exact hrow
  ·rw [if_neg z]
   have ho := hO r hr z
   by_cases c1 : r < ab
   ·rw [if_neg (by omega), if_pos (by omega)]
    exact hfull (by rw [ho, if_pos ⟨rfl, .inl c1⟩])
   ·rw [if_neg (c := 0 ≤ r ∧ r < ab) (by omega)]
    by_cases c2 : i + 1 ≤ r ∧ r < be
    ·rw [if_pos c2]
     exact hfull (by rw [ho, if_pos ⟨rfl, .inr c2⟩])
    ·rw [if_neg c2]
     exact hself r hr z (by rw [ho, if_neg (by rintro ⟨_, z⟩; omega)])
end Go.Proofs.YtckilbegmbaeeaaGreat.Z5Sc
namespace Go.Proofs.YtckilbegmbaeeaaGreat.Z5Sc
open Go Go.RowKit Go.Proofs.YtckilbegmbaeeaaGreat.SL Go.Proofs.YtckilbegmbaeeaaGreat.Z5 Go.Proofs.YtckilbegmbaeeaaGreat.Z5May Go.Proofs.YtckilbegmbaeeaaGreat.Z5Ls Go.Proofs.YtckilbegmbaeeaaGreat.Z5Op Go.Proofs.YtckilbegmbaeeaaGreat.Z5Sp
set_option linter.unusedVariables false
set_option linter.unusedSimpArgs false
def setMark (x : S55) (c : Int) : S55 :=
 if x.f1.f0 = 0 then { x with f1 := S53.mk c x.f1.f1 x.f1.f2 } else if x.f1.f1 = 0 then { x with f1 := S53.mk x.f1.f0 c x.f1.f2 } else if x.f1.f2 = 0 then { x with f1 := S53.mk x.f1.f0 x.f1.f1 c } else x
def markC (x : S55) (c : Int) : S55 := if wid c ≠ 0 ∨ x.f2 = 0 ∨ x.f2 > 2 then x else setMark x c
theorem f151 (x : S55) (c : Int) (k : Nat) (hk : 44 ≤ k) : F151.f k x c = some (markC x c) := by
 obtain ⟨k, rfl⟩ : ∃ j, k = j + 4 := ⟨k - 4, by omega⟩
 have n0 : (0 : Int) < 3 := by decide
 have n1 : (1 : Int) < 3 := by decide
 have n2 : (2 : Int) < 3 := by decide
 have n3 : ¬ (3 : Int) < 3 := by decide
 have m0 : (0 : Int) ≤ 0 ∧ (0 : Int) < 3 := by decide
 have m1 : (0 : Int) ≤ 1 ∧ (1 : Int) < 3 := by decide
 have m2 : (0 : Int) ≤ 2 ∧ (2 : Int) < 3 := by decide
 have hl : F151.l0 x c (k + 4) x 0 = some (setMark x c) := by
  unfold setMark
  simp only [F151.l0, lt, r30, r31, r32, ww0, ww1, ww2, n0, n1, n2, n3, m0, m1, m2, and_self, if_true, if_false]
  by_cases ha : x.f1.f0 = 0
  ·simp [ha]
  ·by_cases hb : x.f1.f1 = 0
   ·simp [ha, hb]
   ·by_cases hc : x.f1.f2 = 0
    ·simp [ha, hb, hc]
    ·simp [ha, hb, hc]
 unfold F151.f markC
 rw [f111 c (k + 4) (by omega), hl]
 simp only [Option.bind_some, lt]
 by_cases h0 : wid c = 0
 ·by_cases h1 : x.f2 = 0
  ·simp [h0, h1]
  ·by_cases h2 : x.f2 > 2
   ·simp [h0, h1, h2]
   ·simp [h0, h1, h2]
 ·simp [h0]
theorem mark_f2 (x : S55) (c : Int) : (markC x c).f2 = x.f2 ∧ (markC x c).f3 = x.f3 := by
 unfold markC setMark
 split
 ·exact ⟨rfl, rfl⟩
 ·split
  ·exact ⟨rfl, rfl⟩
  ·split
   ·exact ⟨rfl, rfl⟩
   ·split <;> exact ⟨rfl, rfl⟩
theorem wid0 : wid 0 = -1 := by kernel_rfl
theorem mark_may {x : S55} {c : Int} (h : mayCell x = true) : mayCell (markC x c) = true := by
 unfold markC
 split
 ·exact h
 ·rename_i q
  have q0 : wid c = 0 := by
   by_cases z : wid c = 0
   ·exact z
   ·exact absurd (.inl z) q
  have q1 : ¬ x.f2 = 0 := fun z => q (.inr (.inl z))
  have q2 : ¬ x.f2 > 2 := fun z => q (.inr (.inr z))
  have hc0 : c ≠ 0 := fun z => by rw [z, wid0] at q0; omega
  unfold mayCell at h
  by_cases hy : mayStyle x.f3 = false
  ·rw [if_pos hy] at h; cases h
  ·rw [if_neg hy, if_neg q1, if_neg q2] at h
   by_cases hw : wid x.f0 = x.f2
   ·rw [if_pos hw] at h
    unfold setMark
    unfold marksOk at h
    by_cases ha : x.f1.f0 = 0
    ·rw [if_pos ha] at h ⊢
     simp only [Bool.and_eq_true, decide_eq_true_eq] at h
     unfold mayCell
     simp only [hy, q1, q2, hw, if_false, if_true]
     unfold marksOk
     simp [hc0, h.1, h.2, q0]
    ·rw [if_neg ha] at h ⊢
     by_cases hb : x.f1.f1 = 0
     ·rw [if_pos hb] at h ⊢
      simp only [Bool.and_eq_true, decide_eq_true_eq] at h
      unfold mayCell
      simp only [hy, q1, q2, hw, if_false, if_true]
      unfold marksOk
      simp [hc0, ha, h.1, h.2, q0]
     ·rw [if_neg hb] at h ⊢
      simp only [Bool.and_eq_true, Bool.or_eq_true, decide_eq_true_eq] at h
      by_cases hd : x.f1.f2 = 0
      ·rw [if_pos hd]
       unfold mayCell
       simp only [hy, q1, q2, hw, if_false, if_true]
       unfold marksOk
       simp [hc0, ha, hb, h.1, q0]
      ·rw [if_neg hd]
       unfold mayCell
       simp only [hy, q1, q2, hw, if_false, if_true]
       unfold marksOk
       rcases h.2 with z | z
       ·exact absurd z hd
       ·simp [ha, hb, hd, h.1, z]
   ·rw [if_neg hw] at h; cases h
theorem may_map {g : S26} {Y : List S55} (h : mayGrid g = true) (hl : Y.length = g.f2.length) (hY : ∀ i, i < Y.length → (rd Y (i : Int)).f2 = (rd g.f2 (i : Int)).f2 ∧ (rd Y (i : Int)).f3 = (rd g.f2 (i : Int)).f3 ∧ mayCell (rd Y (i : Int)) = true) : mayGrid (S26.mk g.f0 g.f1 Y) = true := by
 unfold mayGrid at h ⊢
 simp only [Bool.and_eq_true, List.all_eq_true, List.mem_range] at h ⊢
 refine ⟨by rw [hl]; exact h.1, fun i hi => ?_⟩
 have h2 := h.2 i (by omega)
 rw [okR_iff] at h2 ⊢
 obtain ⟨a, b, c, d⟩ := h2
 obtain ⟨e1, e2, e3⟩ := hY i hi
 simp only at e1 e2 e3 ⊢
 by_cases h0 : i = 0
 ·subst h0
  rw [e1, e2]
  refine ⟨e3, ⟨fun z => absurd (b.1 z).1 (by simp), fun z => absurd z.1 (by simp)⟩, fun z => absurd z.1 (by simp), d⟩
 ·obtain ⟨p1, p2, _⟩ := hY (i - 1) (by omega)
  rw [e1, e2, p1, p2]
  exact ⟨e3, b, c, d⟩
theorem rd_set {X : List S55} {n i : Nat} {v : S55} (hn : n < X.length) (hi : i < X.length) : rd (X.set n v) (i : Int) = if i = n then v else rd X (i : Int) := by
 refine rd_some (by omega) ?_
 rw [Int.toNat_natCast, List.getElem?_set]
 by_cases z : n = i
 ·rw [if_pos z, if_pos z.symm, if_pos (by omega)]
 ·rw [if_neg z, if_neg (Ne.symm z), some_rd hi]
def mAt (s : S34) : Nat :=
 let n := s.f1.toNat * s.f0.f0.toNat + (if s.f3 = true then s.f2 else s.f2 - 1).toNat
 if (rd s.f0.f2 (n : Int)).f2 = 0 then n - 1 else n
def dMark (s : S34) (c : Int) : S34 :=
 if (if s.f3 = true then s.f2 else s.f2 - 1) < 0 then s else { s with f0 := S26.mk s.f0.f0 s.f0.f1 (s.f0.f2.set (mAt s) (markC (rd s.f0.f2 (mAt s : Int)) c)) }
theorem half {s : S34} (h : Mg s) {w q i j : Nat} (e0 : s.f0.f0 = (w : Int)) (e1 : s.f0.f1 = (q : Int)) (hi : i < q) (hj : j < w) (hp : i * w + w ≤ s.f0.f2.length) (hz : (rd s.f0.f2 ((i * w + j : Nat) : Int)).f2 = 0) : 0 < j := by
 have hr := grid_rows h e0 e1 hi j (by rw [wlen hp]; exact hj)
 have e : rd (win s.f0.f2 (i * w) w) (j : Int) = rd s.f0.f2 ((i * w + j : Nat) : Int) := by rw [rd_win hj hp]; congr 1
 have := hr.2.1.1 (by rw [e]; exact hz)
 exact this.1
theorem pmark (s : S34) (h : Ok s) (c : Int) (k : Nat) (hk : 1100000 ≤ k) : F118Lb_0_.f k s c = some (dMark s c) := by
 obtain ⟨w, q, i, e0, e1, e2, a, b, c', d, hi, hl, hb, hp⟩ := h.mg.at
 have hc := cursor h
 have e1' : (if (!s.f3) = true then (lt (IntKind.i64.wrap (s.f2 - 1)) fun n10 => some n10) else (some s.f2) : Option Int) = some (if s.f3 = true then s.f2 else s.f2 - 1) := by
  rw [w64 (by omega) (by omega)]; cases s.f3 <;> rfl
 unfold F118Lb_0_.f dMark mAt
 rw [e1', e0, e2]
 simp only [Option.bind_some, Int.toNat_natCast]
 have hlt : (if s.f3 = true then s.f2 else s.f2 - 1) < (w : Int) := by split <;> omega
 generalize (if s.f3 = true then s.f2 else s.f2 - 1) = t at hlt ⊢
 by_cases ht : t < 0
 ·rw [if_pos ht, if_pos ht]
 ·obtain ⟨j, rfl⟩ : ∃ j : Nat, t = (j : Int) := ⟨t.toNat, by omega⟩
  have hj : j < w := by omega
  rw [if_neg ht, if_neg ht, prow s w q i e0 e2 hl hb hi]
  simp only [Option.bind_some, Int.toNat_natCast]
  rw [if_pos (by omega), if_pos (by omega), show ((i * w : Nat) : Int) + (j : Int) = ((i * w + j : Nat) : Int) from by omega]
  by_cases hz : (rd s.f0.f2 ((i * w + j : Nat) : Int)).f2 = 0
  ·have h0 := half h.mg e0 e1 hi hj hp hz
   rw [if_pos hz, if_pos hz, w64 (by omega) (by omega)]
   simp only [lt, Option.bind_some]
   rw [if_pos (by omega), show ((i * w : Nat) : Int) + ((j : Int) - 1) = ((i * w + j - 1 : Nat) : Int) from by omega, f151 _ c k (by omega)]
   simp only [Option.bind_some, Int.toNat_natCast]
   rw [if_pos (by omega)]
  ·rw [if_neg hz, if_neg hz]
   simp only [lt, Option.bind_some]
   rw [if_pos (by omega), show ((i * w : Nat) : Int) + (j : Int) = ((i * w + j : Nat) : Int) from by omega, f151 _ c k (by omega)]
   simp only [Option.bind_some, Int.toNat_natCast]
   rw [if_pos (by omega)]
theorem okMark {s : S34} (h : Ok s) (c : Int) : Ok (dMark s c) := by
 obtain ⟨w, q, i, e0, e1, e2, a, b, c', d, hi, hl, hb, hp⟩ := h.mg.at
 have hc := cursor h
 unfold dMark
 by_cases ht : (if s.f3 = true then s.f2 else s.f2 - 1) < 0
 ·rw [if_pos ht]; exact h
 ·rw [if_neg ht]
  have hn : mAt s < s.f0.f2.length := by
   unfold mAt
   rw [e0, e2]
   simp only [Int.toNat_natCast]
   have : (if s.f3 = true then s.f2 else s.f2 - 1).toNat < w := by split <;> omega
   generalize (if s.f3 = true then s.f2 else s.f2 - 1).toNat = j at this ⊢
   split <;> omega
  generalize mAt s = n at hn
  have hm := h.mg
  refine ok_like h ⟨rfl, rfl, rfl, rfl, rfl, rfl, rfl, rfl, rfl, rfl, rfl, rfl, rfl⟩ ⟨may_map h.m.g (by simp) fun r hr => ?_, fun x hx => ?_, hm.y, hm.t0, hm.t1, hm.t2, hm.r0, hm.r1⟩ hc
  ·rw [List.length_set] at hr
   rw [rd_set hn hr]
   have hcell : mayCell (rd s.f0.f2 (r : Int)) = true := by
    have := h.m.g
    unfold mayGrid at this
    simp only [Bool.and_eq_true, List.all_eq_true, List.mem_range] at this
    exact ((okR_iff _ _ _).1 (this.2 r hr)).1
   by_cases z : r = n
   ·subst z; rw [if_pos rfl]
    have := mark_f2 (rd s.f0.f2 (r : Int)) c
    exact ⟨this.1, this.2, mark_may hcell⟩
   ·rw [if_neg z]; exact ⟨rfl, rfl, hcell⟩
  ·replace hx : x ∈ s.f0.f2.set n _ := hx
   rcases List.mem_or_eq_of_mem_set hx with z | z
   ·exact h.b x z
   ·have := mark_f2 (rd s.f0.f2 (n : Int)) c
    have h2 := h.b _ (rd_mem hn)
    unfold byte at h2 ⊢
    rw [z, this.1]; exact h2
theorem wid_in (c : Int) : wid c = -1 ∨ wid c = 0 ∨ wid c = 1 ∨ wid c = 2 := by
 unfold wid; split
 ·exact .inl rfl
 ·split
  ·exact .inr (.inl rfl)
  ·split
   ·exact .inr (.inr (.inr rfl))
   ·exact .inr (.inr (.inl rfl))
def putL (c w : Int) (y : S28) : List S55 := S55.mk c (S53.mk 0 0 0) w y :: (if w = 2 then [S55.mk 0 (S53.mk 0 0 0) 0 y] else [])
theorem putL_may {c w : Int} {y : S28} (hy : mayStyle y = true) (hw : wid c = w) (h : w = 1 ∨ w = 2) : ∀ x ∈ putL c w y, mayCell x = true := by
 have h1 : mayCell (S55.mk c (S53.mk 0 0 0) w y) = true := by
  unfold mayCell
  have q1 : ¬ w = 0 := by omega
  have q2 : ¬ w > 2 := by omega
  simp only [hy, q1, q2, hw, if_false, if_true, Bool.true_eq_false]
  decide
 have h2 : mayCell (S55.mk 0 (S53.mk 0 0 0) 0 y) = true := by
  unfold mayCell
  simp only [hy, if_true, Bool.true_eq_false, if_false]
  decide
 intro x hx
 unfold putL at hx
 split at hx
 ·simp only [List.mem_cons, List.not_mem_nil, or_false] at hx
  rcases hx with rfl | rfl
  ·exact h1
  ·exact h2
 ·simp only [List.mem_cons, List.not_mem_nil, or_false] at hx
  rw [hx]; exact h1
theorem putL_byte {c w : Int} {y : S28} (h : w = 1 ∨ w = 2) : ∀ x ∈ putL c w y, byte x := by
 intro x hx
 unfold putL at hx
 unfold byte
 split at hx
 ·simp only [List.mem_cons, List.not_mem_nil, or_false] at hx
  rcases hx with rfl | rfl
  ·simp only; omega
  ·simp only; omega
 ·simp only [List.mem_cons, List.not_mem_nil, or_false] at hx
  rw [hx]; simp only; omega
theorem f124 (c : Int) (y : S28) {w : Int} (hw : wid c = w) (h : w = 1 ∨ w = 2) (k : Nat) (hk : 44 ≤ k) : F124.f k c y = some (putL c w y) := by
 unfold F124.f F152.f putL
 rw [f111 c k (by omega), hw]
 rcases h with rfl | rfl
 ·simp only [Option.bind_some, if_true, decide_true]
  simp [lt, show IntKind.u8.wrap 1 = 1 from by decide]
 ·simp only [Option.bind_some, decide_true]
  simp [lt, show IntKind.u8.wrap 2 = 2 from by decide]
def fPut (s : S34) (c w : Int) : List S55 → List S55 := fun W => over W s.f2.toNat ((putL c w s.f4).take (s.f0.f0.toNat - s.f2.toNat))
theorem fPut_len {s : S34} {c w : Int} {W : List S55} (hW : W.length = s.f0.f0.toNat) (h : s.f2.toNat ≤ s.f0.f0.toNat) : (fPut s c w W).length = W.length := over_len2 (by rw [List.length_take]; omega)
def dPut (s : S34) (c w : Int) : S34 :=
 let t := if s.f10 = true then onR s (fSh s w) else s
 let u := onR t (fPut t c w)
 if s.f2 + w > s.f0.f0 - 1 then { u with f2 := s.f0.f0 - 1, f3 := true } else { u with f2 := s.f2 + w }
theorem put_mg {s : S34} (h : Mg s) (hc : 0 ≤ s.f2 ∧ s.f2 < s.f0.f0) {c w : Int} (hw : wid c = w) (h1 : w = 1 ∨ w = 2) : Mg (onR s (fPut s c w)) := by
 refine onR_mg h (fun W hW hm => ⟨fPut_len hW (by omega), fun x hx => ?_⟩) (fun W hW => over_all hW fun x hx => putL_byte h1 x (List.mem_of_mem_take hx))
 rcases over_mem hx with q | q
 ·exact hm x q
 ·exact putL_may h.y hw h1 x (List.mem_of_mem_take q)
structure Pr (s : S34) : Prop where
 m : Mg s
 c : 0 ≤ s.f2 ∧ s.f2 < s.f0.f0
 p : s.f3 = false
theorem ok_put {s0 s : S34} (h : Ok s0) (l : Like s0 s) (hp : Pr s) {c w : Int} (hw : wid c = w) (h1 : w = 1 ∨ w = 2) : Ok (dPut s c w) := by
 have ht : Mg (if s.f10 = true then onR s (fSh s w) else s) := by
  split
  ·exact shift_mg hp.m hp.c w
  ·exact hp.m
 have hl : Like s (if s.f10 = true then onR s (fSh s w) else s) := by
  split
  ·exact onR_like s _
  ·exact Like.refl s
 have h2 : (if s.f10 = true then onR s (fSh s w) else s).f2 = s.f2 := by split <;> rfl
 have h3 : (if s.f10 = true then onR s (fSh s w) else s).f3 = s.f3 := by split <;> rfl
 unfold dPut
 simp only
 generalize (if s.f10 = true then onR s (fSh s w) else s) = t at ht hl h2 h3
 have hu := put_mg ht (by rw [h2, hl.d0]; exact hp.c) hw h1
 have hlu : Like s0 (onR t (fPut t c w)) := (l.trans hl).trans (onR_like t _)
 have d0 : (onR t (fPut t c w)).f0.f0 = s.f0.f0 := hl.d0
 have hc := hp.c
 split
 ·exact ok_like h (like_cur hlu _ _) (mg_cur hu _ _) ⟨by show 0 ≤ s.f0.f0 - 1; omega, by show s.f0.f0 - 1 < (onR t (fPut t c w)).f0.f0; omega, fun _ => by show s.f0.f0 - 1 = (onR t (fPut t c w)).f0.f0 - 1; omega⟩
 ·refine ok_like h (like_cur hlu (s.f2 + w) (onR t (fPut t c w)).f3) (mg_cur hu _ _) ⟨by show 0 ≤ s.f2 + w; omega, by show s.f2 + w < (onR t (fPut t c w)).f0.f0; omega, fun q => ?_⟩
  have : (onR t (fPut t c w)).f3 = s.f3 := h3
  replace q : (onR t (fPut t c w)).f3 = true := q
  rw [this, hp.p] at q; cases q
def Tp (k : Nat) (a1 r8 : Int) (s794 : S34) : Option S34 := (F121Lb_0_.f s794).bind (fun r837 => if (0 ≤ r837.1 ∧ 0 ≤ r837.2 ∧ r837.1 + r837.2 ≤ (s794.f0.f2.length : Int)) then ((if s794.f10 = true then ((F122w0.f k s794.f0.f2 r837.1 r837.2 s794.f2 r8 s794.f4).bind (fun r1564 => if r1564.length = s794.f0.f2.length then (some r1564) else none)) else (some s794.f0.f2) : Option ((List S55))).bind (fun t842 => if t842.length = s794.f0.f2.length then ((F124.f k a1 s794.f4).bind (fun r2346 => (F123w0b2.f k t842 r837.1 r837.2 s794.f2 r2346).bind (fun r2406 => if r2406.length = t842.length then ((F120Lb_0_.f (S34.mk (S26.mk s794.f0.f0 s794.f0.f1 r2406) s794.f1 (IntKind.i64.wrap (s794.f2 + r8)) s794.f3 s794.f4 s794.f5 s794.f6 s794.f7 s794.f8 s794.f9 s794.f10 s794.f11 s794.f12 s794.f13 s794.f14 s794.f15 s794.f16 s794.f17)).bind (fun r2828 => if (IntKind.i64.wrap (s794.f2 + r8)) > r2828 then ((F120Lb_0_.f (S34.mk (S26.mk s794.f0.f0 s794.f0.f1 r2406) s794.f1 (IntKind.i64.wrap (s794.f2 + r8)) s794.f3 s794.f4 s794.f5 s794.f6 s794.f7 s794.f8 s794.f9 s794.f10 s794.f11 s794.f12 s794.f13 s794.f14 s794.f15 s794.f16 s794.f17)).bind (fun r3250 => some ((S34.mk (S26.mk s794.f0.f0 s794.f0.f1 r2406) s794.f1 r3250 true s794.f4 s794.f5 s794.f6 s794.f7 s794.f8 s794.f9 s794.f10 s794.f11 s794.f12 s794.f13 s794.f14 s794.f15 s794.f16 s794.f17)))) else (some ((S34.mk (S26.mk s794.f0.f0 s794.f0.f1 r2406) s794.f1 (IntKind.i64.wrap (s794.f2 + r8)) s794.f3 s794.f4 s794.f5 s794.f6 s794.f7 s794.f8 s794.f9 s794.f10 s794.f11 s794.f12 s794.f13 s794.f14 s794.f15 s794.f16 s794.f17))))) else none))) else none)) else none)
theorem ptail (s : S34) (h : Pr s) (c : Int) {w' : Int} (hw' : wid c = w') (h1 : w' = 1 ∨ w' = 2) (k : Nat) (hk : 1100000 ≤ k) : Tp k c w' s = some (dPut s c w') := by
 obtain ⟨w, q, i, e0, e1, e2, a, b, c', d, hi, hl, hb, hp⟩ := h.m.at
 have hc := h.c
 unfold Tp
 rw [prow s w q i e0 e2 hl hb hi]
 simp only [Option.bind_some]
 rw [if_pos (by omega)]
 obtain ⟨X, hX, hXl, hT⟩ : ∃ X : List S55, (if s.f10 = true then ((F122w0.f k s.f0.f2 ((i * w : Nat) : Int) (w : Int) s.f2 w' s.f4).bind (fun r1564 => if r1564.length = s.f0.f2.length then (some r1564) else none)) else (some s.f0.f2) : Option ((List S55))) = some X ∧ X.length = s.f0.f2.length ∧ (if s.f10 = true then onR s (fSh s w') else s) = { s with f0 := S26.mk s.f0.f0 s.f0.f1 X } := by
  by_cases c10 : s.f10 = true
  ·have hw := wlen hp
   have hXl : (over s.f0.f2 (i * w) (mendL (fSh s w' (win s.f0.f2 (i * w) w)))).length = s.f0.f2.length := over_len2 (by rw [mend_len, fSh_len (by omega), hw]; exact hp)
   refine ⟨_, ?_, hXl, ?_⟩
   ·rw [if_pos c10, pshift s h.m hc w' w q i e0 e2 b hl hb hp k hk]
    simp only [Option.bind_some]
    rw [if_pos hXl]
   ·rw [if_pos c10, onR_eq e0 e2]
  ·refine ⟨s.f0.f2, by rw [if_neg c10], rfl, by rw [if_neg c10]⟩
 rw [hX]
 simp only [Option.bind_some]
 rw [if_pos hXl, f124 c s.f4 hw' h1 k (by omega)]
 simp only [Option.bind_some]
 obtain ⟨cc, hcc⟩ : ∃ cc : Nat, s.f2 = (cc : Int) := ⟨s.f2.toNat, by omega⟩
 have hput : F123w0b2.f k X ((i * w : Nat) : Int) (w : Int) s.f2 (putL c w' s.f4) = some (over X (i * w) (mendL (over (win X (i * w) w) cc ((putL c w' s.f4).take (w - cc))))) := by
  rw [hcc]; exact f87 X (i * w) w cc (putL c w' s.f4) (by omega) (by omega) (by omega) k (by omega)
 rw [hput]
 simp only [Option.bind_some]
 have hYl : (over X (i * w) (mendL (over (win X (i * w) w) cc ((putL c w' s.f4).take (w - cc))))).length = X.length := over_len2 (by rw [mend_len, over_len2 (by rw [List.length_take, wlen (by omega)]; omega), wlen (by omega)]; omega)
 rw [if_pos hYl, plast _ (by show 1 ≤ s.f0.f0; omega) (by show s.f0.f0 ≤ 512; omega)]
 simp only [Option.bind_some]
 rw [w64 (x := s.f2 + w') (by omega) (by omega)]
 unfold dPut
 simp only
 rw [hT, onR_eq (s := { s with f0 := S26.mk s.f0.f0 s.f0.f1 X }) (w := w) (i := i) e0 e2]
 have hf : fPut { s with f0 := S26.mk s.f0.f0 s.f0.f1 X } c w' (win X (i * w) w) = over (win X (i * w) w) cc ((putL c w' s.f4).take (w - cc)) := by
  unfold fPut
  simp only [e0, hcc, Int.toNat_natCast]
 simp only
 rw [hf]
 split <;> rfl
def wrapS (s : S34) : S34 := if (s.f3 && s.f8) = true then dFeed { s with f2 := 0 } else s
def dPr2 (u : S34) (c : Int) : S34 :=
 if wid c = 2 ∧ u.f2 = u.f0.f0 - 1 then
  if u.f8 = false ∨ u.f0.f0 - 1 = 0 then u else dPut (dFeed { u with f2 := 0 }) c (wid c)
 else dPut u c (wid c)
def dPrint (s : S34) (c : Int) : S34 :=
 if wid c ≤ 0 then (if wid c = 0 then dMark s c else s) else dPr2 { wrapS s with f3 := false } c
theorem wrap_pr {s : S34} (h : Ok s) : Pr { wrapS s with f3 := false } ∧ Like s { wrapS s with f3 := false } ∧ Mg (wrapS s) := by
 have hc := cursor h
 have hm : Mg (wrapS s) := by
  unfold wrapS
  split
  ·exact feed_mg (mg_cur h.mg 0 s.f3)
  ·exact h.mg
 have hl : Like s (wrapS s) := by
  unfold wrapS
  split
  ·exact (like_cur (Like.refl s) 0 s.f3).trans (feed_like (mg_cur h.mg 0 s.f3)).1
  ·exact Like.refl s
 have h2 : 0 ≤ (wrapS s).f2 ∧ (wrapS s).f2 < s.f0.f0 := by
  unfold wrapS
  split
  ·rw [(feed_like (mg_cur h.mg 0 s.f3)).2.1]; exact ⟨Int.le_refl _, by show (0 : Int) < s.f0.f0; omega⟩
  ·exact ⟨hc.1, hc.2.1⟩
 exact ⟨⟨mg_cur hm (wrapS s).f2 false, ⟨h2.1, by show (wrapS s).f2 < (wrapS s).f0.f0; rw [hl.d0]; exact h2.2⟩, rfl⟩, like_cur hl (wrapS s).f2 false, hm⟩
theorem again_pr {s u : S34} (hu : Pr u) (l : Like s u) : Pr (dFeed { u with f2 := 0 }) ∧ Like s (dFeed { u with f2 := 0 }) := by
 have hm := mg_cur hu.m 0 u.f3
 have hf := feed_like hm
 have hc := hu.c
 refine ⟨⟨feed_mg hm, ?_, ?_⟩, (like_cur l 0 u.f3).trans hf.1⟩
 ·rw [hf.2.1, hf.1.d0]; exact ⟨Int.le_refl _, by show (0 : Int) < u.f0.f0; omega⟩
 ·rw [hf.2.2]; exact hu.p
theorem okPrint {s : S34} (h : Ok s) (c : Int) : Ok (dPrint s c) := by
 unfold dPrint
 split
 ·split
  ·exact okMark h c
  ·exact h
 ·rename_i hw
  have h1 : wid c = 1 ∨ wid c = 2 := by have := wid_in c; omega
  obtain ⟨hp, hl, _⟩ := wrap_pr h
  generalize ({ wrapS s with f3 := false } : S34) = u at hp hl ⊢
  unfold dPr2
  split
  ·split
   ·exact ok_like h hl hp.m ⟨hp.c.1, hp.c.2, fun q => by rw [hp.p] at q; cases q⟩
   ·obtain ⟨a, b⟩ := again_pr hp hl
    exact ok_put h b a rfl h1
  ·exact ok_put h hl hp rfl h1
theorem pprint (s : S34) (h : Ok s) (c : Int) (k : Nat) (hk : 1100100 ≤ k) : F73Lb_0_.f k s c = some (dPrint s c) := by
 have hT : ∀ (u : S34), Pr u → wid c = 1 ∨ wid c = 2 → Tp k c (wid c) u = some (dPut u c (wid c)) := fun u hu h1 => ptail u hu c rfl h1 k (by omega)
 obtain ⟨w, q, e0, e1, a, b, c', d, hl, hb⟩ := h.size
 unfold F73Lb_0_.f dPrint
 rw [f111 c k (by omega)]
 simp only [Option.bind_some]
 by_cases hw : wid c ≤ 0
 ·rw [if_pos hw, if_pos hw, pmark s h c k (by omega)]
  by_cases hz : wid c = 0
  ·rw [if_pos hz, if_pos hz]; rfl
  ·rw [if_neg hz, if_neg hz]
 ·have h1 : wid c = 1 ∨ wid c = 2 := by have := wid_in c; omega
  obtain ⟨hp, hl', hm⟩ := wrap_pr h
  rw [if_neg hw, if_neg hw]
  simp only [lt]
  have e : (if (s.f3 && s.f8) = true then ((F119Lb_0_.f k (S34.mk s.f0 s.f1 0 s.f3 s.f4 s.f5 s.f6 s.f7 s.f8 s.f9 s.f10 s.f11 s.f12 s.f13 s.f14 s.f15 s.f16 s.f17)).bind (fun r50 => some r50)) else (some s) : Option (S34)) = some (wrapS s) := by
   unfold wrapS
   split
   ·have := pfeed { s with f2 := 0 } (mg_cur h.mg 0 s.f3) k (by omega)
    rw [show F119Lb_0_.f k (S34.mk s.f0 s.f1 0 s.f3 s.f4 s.f5 s.f6 s.f7 s.f8 s.f9 s.f10 s.f11 s.f12 s.f13 s.f14 s.f15 s.f16 s.f17) = _ from this]; rfl
   ·rfl
  rw [e]
  simp only [Option.bind_some]
  generalize hu : ({ wrapS s with f3 := false } : S34) = u at hp hl' ⊢
  unfold dPr2
  have hu' : S34.mk (wrapS s).f0 (wrapS s).f1 (wrapS s).f2 false (wrapS s).f4 (wrapS s).f5 (wrapS s).f6 (wrapS s).f7 (wrapS s).f8 (wrapS s).f9 (wrapS s).f10 (wrapS s).f11 (wrapS s).f12 (wrapS s).f13 (wrapS s).f14 (wrapS s).f15 (wrapS s).f16 (wrapS s).f17 = u := hu
  have hu0 : S34.mk (wrapS s).f0 (wrapS s).f1 0 false (wrapS s).f4 (wrapS s).f5 (wrapS s).f6 (wrapS s).f7 (wrapS s).f8 (wrapS s).f9 (wrapS s).f10 (wrapS s).f11 (wrapS s).f12 (wrapS s).f13 (wrapS s).f14 (wrapS s).f15 (wrapS s).f16 (wrapS s).f17 = { u with f2 := 0 } := by rw [← hu]
  have g2 : (wrapS s).f2 = u.f2 := by rw [← hu]
  have g8 : (wrapS s).f8 = u.f8 := by rw [← hu]
  try rw [hu']
  rw [hu0, g2, g8, plast u (by rw [hl'.d0]; omega) (by rw [hl'.d0]; omega)]
  obtain ⟨ha, hb'⟩ := again_pr hp hl'
  have hf := pfeed { u with f2 := 0 } (mg_cur hp.m 0 u.f3) k (by omega)
  rw [hf]
  simp only [Option.bind_some]
  by_cases c1 : wid c = 2
  ·rw [if_pos c1]
   simp only [Option.bind_some, decide_eq_true_eq]
   by_cases c2 : u.f2 = u.f0.f0 - 1
   ·rw [if_pos c2, if_pos (⟨c1, c2⟩ : wid c = 2 ∧ u.f2 = u.f0.f0 - 1)]
    by_cases c3 : u.f8 = false ∨ u.f0.f0 - 1 = 0
    ·rw [if_pos c3]
     cases h8 : u.f8
     ·simp [el_r]
     ·rcases c3 with z | z
      ·rw [h8] at z; cases z
      ·simp [z, el_r]
    ·rw [if_neg c3]
     have z1 : u.f8 = true := by cases h8 : u.f8 <;> simp_all
     have z2 : ¬ (u.f0.f0 - 1 = 0) := fun z => c3 (.inr z)
     rw [if_neg (show ¬ ((!u.f8) = true) by rw [z1]; decide)]
     simp only [z2, Bool.false_eq_true, if_false, Option.bind_some, decide_false, el_g]
     exact hT _ ha h1
   ·rw [if_neg c2, if_neg (show ¬ (wid c = 2 ∧ u.f2 = u.f0.f0 - 1) from fun z => c2 z.2)]
    simp only [Option.bind_some, el_g]
    exact hT _ hp h1
  ·rw [if_neg c1, if_neg (show ¬ (wid c = 2 ∧ u.f2 = u.f0.f0 - 1) from fun z => c1 z.1)]
   simp only [Option.bind_some, el_g, Bool.false_eq_true, if_false]
   exact hT _ hp h1
end Go.Proofs.YtckilbegmbaeeaaGreat.Z5Sc
namespace Go.Proofs.YtckilbegmbaeeaaGreat.Z5Sc
open Go Go.RowKit Go.Proofs.YtckilbegmbaeeaaGreat.SL Go.Proofs.YtckilbegmbaeeaaGreat.Z5 Go.Proofs.YtckilbegmbaeeaaGreat.Z5May Go.Proofs.YtckilbegmbaeeaaGreat.Z5Ls Go.Proofs.YtckilbegmbaeeaaGreat.Z5Op Go.Proofs.YtckilbegmbaeeaaGreat.Z5Sp
set_option linter.unusedVariables false
set_option linter.unusedSimpArgs false
def dOther (s : S34) (on : Bool) : S34 :=
 if (on && !s.f15) = true then { s with f0 := S26.mk s.f0.f0 s.f0.f1 (List.replicate s.f0.f2.length (blk s.f4)), f15 := true, f16 := s.f0 }
 else if (!on && s.f15) = true then { s with f0 := s.f16, f15 := false, f16 := S26.mk 0 0 [] } else s
theorem pother (s : S34) (h : Ok s) (on : Bool) (k : Nat) (hk : 1300000 ≤ k) : F132Lb_0_.f k s on = some (dOther s on) := by
 obtain ⟨w, q, e0, e1, a, b, c, d, hl, hb⟩ := h.size
 unfold F132Lb_0_.f dOther
 simp only [lt]
 cases ho : (on && !s.f15)
 ·simp only [Bool.false_eq_true, if_false]
  split <;> rfl
 ·simp only [if_true]
  rw [if_pos (by omega)]
  have hz : (List.replicate (s.f0.f2.length : Int).toNat (S55.mk 0 (S53.mk 0 0 0) 0 (S28.mk 0 0 false false false false false false false false))).length = w * q := by rw [List.length_replicate, Int.toNat_natCast, hl]
  generalize List.replicate (s.f0.f2.length : Int).toNat (S55.mk 0 (S53.mk 0 0 0) 0 (S28.mk 0 0 false false false false false false false false)) = Z at hz
  obtain ⟨Y, y1, y2, y3⟩ := f130 { s with f0 := S26.mk s.f0.f0 s.f0.f1 Z, f15 := true, f16 := s.f0 } w q 0 q e0 b d hz hb (by omega) k (by omega)
  rw [← e1] at y1
  rw [show F130Lb_0_.f k (S34.mk (S26.mk s.f0.f0 s.f0.f1 Z) s.f1 s.f2 s.f3 s.f4 s.f5 s.f6 s.f7 s.f8 s.f9 s.f10 s.f11 s.f12 s.f13 s.f14 true s.f0 s.f17) 0 s.f0.f1 = _ from y1]
  simp only [Option.bind_some]
  have hY : Y = List.replicate s.f0.f2.length (blk s.f4) := by
   refine rows_ext y2 (by simp [hl]) fun n hn => ?_
   have := y3 n hn
   rw [this, if_pos (by omega), hl, blanks_row hn]
   have hp := place (w := w) hn
   have hwz : (win Z (n * w) w).length = w := wlen (by omega)
   have hf : fEr { s with f0 := S26.mk s.f0.f0 s.f0.f1 Z, f15 := true, f16 := s.f0 } 0 (w : Int) (win Z (n * w) w) = List.replicate w (blk s.f4) := by
    unfold fEr over
    simp [hwz]
   show mendL (fEr { s with f0 := S26.mk s.f0.f0 s.f0.f1 Z, f15 := true, f16 := s.f0 } 0 (w : Int) (win Z (n * w) w)) = _
   rw [hf, mend_id (blank_good w h.m.y)]
  rw [hY]
theorem blanks_may {s : S34} (h : Ok s) : mayGrid (S26.mk s.f0.f0 s.f0.f1 (List.replicate s.f0.f2.length (blk s.f4))) = true := by
 obtain ⟨w, q, e0, e1, a, b, c, d, hl, hb⟩ := h.size
 rw [mayGrid_iff]
 refine ⟨w, q, e0, e1, a, b, c, d, by simp [hl], fun r hr => ?_⟩
 show RowG (win (List.replicate s.f0.f2.length (blk s.f4)) (r * w) w)
 rw [hl, blanks_row hr]
 exact blank_good w h.m.y
theorem okOther {s : S34} (h : Ok s) (on : Bool) : Ok (dOther s on) := by
 unfold dOther
 split
 ·refine ⟨⟨blanks_may h, h.m.y, h.m.y2, h.m.t0, h.m.t1, h.m.t2, h.m.p, h.m.p2, h.m.tabs, ?_, h.m.ti⟩, rep_all, h.b⟩
  unfold altOk
  simp [h.m.g]
 ·split
  ·rename_i _ ho
   simp only [Bool.and_eq_true] at ho
   have ha := h.m.alt
   unfold altOk at ha
   rw [if_pos ho.2] at ha
   simp only [Bool.and_eq_true, decide_eq_true_eq] at ha
   obtain ⟨⟨a1, a2⟩, a3⟩ := ha
   have p := pos_iff.1 h.m.p
   have p2 := pos_iff.1 h.m.p2
   refine ⟨⟨a1, h.m.y, h.m.y2, h.m.t0, h.m.t1, by show s.f6 < s.f16.f1; rw [a3]; exact h.m.t2, pos_iff.2 (by show 0 ≤ s.f1 ∧ s.f1 < s.f16.f1 ∧ 0 ≤ s.f2 ∧ s.f2 < s.f16.f0 ∧ (s.f3 = true → s.f2 = s.f16.f0 - 1); rw [a2, a3]; exact p), pos_iff.2 (by show 0 ≤ s.f14.f0 ∧ s.f14.f0 < s.f16.f1 ∧ 0 ≤ s.f14.f1 ∧ s.f14.f1 < s.f16.f0 ∧ (s.f14.f2 = true → s.f14.f1 = s.f16.f0 - 1); rw [a2, a3]; exact p2), by show tabsOk s.f16.f0 (-1) s.f7 = true; rw [a2]; exact h.m.tabs, by unfold altOk; simp, h.m.ti⟩, h.b2, fun x hx => by simp at hx⟩
  ·exact h
def dMode (s : S34) (priv : Bool) (n : Int) (on : Bool) : S34 :=
 if priv = false then (if n = 4 then { s with f10 := on } else s)
 else if n = 1 then { s with f11 := on } else if n = 6 then dPlace { s with f9 := on } 0 0 else if n = 7 then { s with f8 := on } else if n = 25 then { s with f13 := on } else if n = 2004 then { s with f12 := on }
 else if n = 47 ∨ n = 1047 then dOther s on
 else if n = 1049 then (if on = true then dOther (dKeep s false) true else if s.f15 = true then dKeep (dOther s false) true else s)
 else s
theorem ok_flags {s : S34} (h : Ok s) (b8 b9 b10 b11 b12 b13 : Bool) : Ok { s with f8 := b8, f9 := b9, f10 := b10, f11 := b11, f12 := b12, f13 := b13 } :=
 ⟨⟨h.m.g, h.m.y, h.m.y2, h.m.t0, h.m.t1, h.m.t2, h.m.p, h.m.p2, h.m.tabs, h.m.alt, h.m.ti⟩, h.b, h.b2⟩
theorem okMode {s : S34} (h : Ok s) (priv : Bool) (n : Int) (on : Bool) : Ok (dMode s priv n on) := by
 unfold dMode
 split
 ·split
  ·exact ok_flags h s.f8 s.f9 on s.f11 s.f12 s.f13
  ·exact h
 ·split
  ·exact ok_flags h s.f8 s.f9 s.f10 on s.f12 s.f13
  ·split
   ·exact okPlace (ok_flags h s.f8 on s.f10 s.f11 s.f12 s.f13) 0 0
   ·split
    ·exact ok_flags h on s.f9 s.f10 s.f11 s.f12 s.f13
    ·split
     ·exact ok_flags h s.f8 s.f9 s.f10 s.f11 s.f12 on
     ·split
      ·exact ok_flags h s.f8 s.f9 s.f10 s.f11 on s.f13
      ·split
       ·exact okOther h on
       ·split
        ·split
         ·exact okOther (okKeep h false) true
         ·split
          ·exact okKeep (okOther h false) true
          ·exact h
        ·exact h
theorem pmode (s : S34) (h : Ok s) (priv : Bool) (n : Int) (on : Bool) (k : Nat) (hk : 1300000 ≤ k) : F91Lb_0_.f k s priv n on = some (dMode s priv n on) := by
 obtain ⟨w, q, e0, e1, a, b, c, d, hl, hb⟩ := h.size
 have hp := pplace { s with f9 := on } (by show 1 ≤ s.f0.f0; omega) (by show s.f0.f0 ≤ 512; omega) (by show 1 ≤ s.f0.f1; omega) (by show s.f0.f1 ≤ 512; omega) h.m.t0 h.m.t1 h.m.t2 0 0
 unfold F91Lb_0_.f dMode
 cases priv
 ·simp only [Bool.not_false, if_true]
  split <;> rfl
 ·simp only [Bool.not_true, Bool.false_eq_true, if_false, Bool.true_eq_false]
  rw [show F79Lb_0_.f (S34.mk s.f0 s.f1 s.f2 s.f3 s.f4 s.f5 s.f6 s.f7 s.f8 on s.f10 s.f11 s.f12 s.f13 s.f14 s.f15 s.f16 s.f17) 0 0 = _ from hp, pother s h on k hk]
  simp only [Option.bind_some]
  by_cases n1 : n = 1
  ·simp only [n1, if_true]
  ·by_cases n6 : n = 6
   ·simp [n1, n6]
   ·by_cases n7 : n = 7
    ·simp [n1, n6, n7]
    ·by_cases n25 : n = 25
     ·simp [n1, n6, n7, n25]
     ·by_cases n2004 : n = 2004
      ·simp [n1, n6, n7, n25, n2004]
      ·by_cases n47 : n = 47
       ·simp [n1, n6, n7, n25, n2004, n47]
       ·by_cases n1047 : n = 1047
        ·simp [n1, n6, n7, n25, n2004, n47, n1047]
        ·by_cases n1049 : n = 1049
         ·simp only [if_neg n1, if_neg n6, if_neg n7, if_neg n25, if_neg n2004, if_neg n47, decide_eq_false n1047, if_neg (show ¬ (n = 47 ∨ n = 1047) from fun z => z.elim n47 n1047), if_pos n1049, Option.bind_some, Bool.false_eq_true, if_false]
          cases on
          ·simp only [Bool.false_eq_true, if_false, Option.bind_some, lt, Bool.not_false, Bool.true_and]
           rw [pother s h false k hk]
           simp only [Option.bind_some]
           cases h15 : s.f15
           ·simp only [Bool.false_eq_true, if_false]
            unfold dOther
            simp [h15]
           ·simp only [if_true]
            rw [pkeep]; rfl
          ·simp only [if_true]
           rw [pkeep]
           simp only [Option.bind_some]
           rw [pother _ (okKeep h false) true k hk]
           simp [lt]
         ·simp [n1, n6, n7, n25, n2004, n47, n1047, n1049]
end Go.Proofs.YtckilbegmbaeeaaGreat.Z5Sc
namespace Go.Proofs.YtckilbegmbaeeaaGreat.Z5Sc
open Go Go.RowKit Go.Proofs.YtckilbegmbaeeaaGreat.SL Go.Proofs.YtckilbegmbaeeaaGreat.Z5 Go.Proofs.YtckilbegmbaeeaaGreat.Z5May Go.Proofs.YtckilbegmbaeeaaGreat.Z5Ls Go.Proofs.YtckilbegmbaeeaaGreat.Z5Op Go.Proofs.YtckilbegmbaeeaaGreat.Z5Sp
set_option linter.unusedVariables false
set_option linter.unusedSimpArgs false
theorem l125 (l : List Int) (a : Int) (hl : l.length ≤ 1048576) (S : ∀ (i j : Nat) (hi : i < l.length) (hj : j < l.length), i < j → l[i] < l[j]) :
  ∀ (n k lo hi : Nat), hi - lo ≤ n → n < k → lo ≤ hi → hi ≤ l.length → (∀ (i : Nat) (h : i < l.length), i < lo → l[i] < a) → (∀ (i : Nat) (h : i < l.length), hi ≤ i → a ≤ l[i]) →
   ∃ p : Nat, F125b0.l0 l a k (lo : Int) (hi : Int) = some (p : Int) ∧ p ≤ l.length ∧ (∀ (i : Nat) (h : i < l.length), i < p → l[i] < a) ∧ (∀ (i : Nat) (h : i < l.length), p ≤ i → a ≤ l[i])
 | n, 0, _, _, _, h, _, _, _, _ => by omega
 | n, k + 1, lo, hi, h1, h2, h3, h4, ha, hb => by
  rw [F125b0.l0]
  by_cases hlt : lo < hi
  ·rw [if_pos (by omega)]
   have e1 : IntKind.i64.wrap (shrI .u64 (IntKind.u64.wrap (IntKind.i64.wrap ((lo : Int) + (hi : Int)))) 1) = (((lo + hi) / 2 : Nat) : Int) := by
    have e0 : shrI .u64 (IntKind.u64.wrap ((lo : Int) + (hi : Int))) 1 = (((lo + hi) / 2 : Nat) : Int) := by
     rw [wu64, Int.emod_eq_of_lt (by omega) (by omega), show (1 : Int) = ((1 : Nat) : Int) from rfl, shrI_eq _ _ 1 (by decide)]
     simp
    rw [w64 (x := (lo : Int) + (hi : Int)) (by omega) (by omega), e0, w64 (by omega) (by omega)]
   have hm : (lo + hi) / 2 < l.length := by omega
   simp only [lt, e1]
   rw [if_pos (by omega), rd_lt hm]
   obtain ⟨m, rfl⟩ : ∃ m, n = m + 1 := ⟨n - 1, by omega⟩
   have hless : F153.f l[(lo + hi) / 2] a = some (decide (l[(lo + hi) / 2] < a)) := by
    unfold F153.f F159.f; simp [lt]
   rw [hless]
   simp only [Option.bind_some, decide_eq_true_eq]
   by_cases hc : l[(lo + hi) / 2] < a
   ·rw [if_pos hc, w64 (by omega) (by omega)]
    exact l125 l a hl S m k ((lo + hi) / 2 + 1) hi (by omega) (by omega) (by omega) h4 (fun i h hi' => by
     rcases Nat.lt_or_ge i ((lo + hi) / 2) with q | q
     ·have := S _ _ h hm q; omega
     ·obtain rfl : i = (lo + hi) / 2 := by omega
      exact hc) hb
   ·rw [if_neg hc]
    exact l125 l a hl S m k lo ((lo + hi) / 2) (by omega) (by omega) (by omega) (by omega) ha (fun i h hi' => by
     rcases Nat.lt_or_ge ((lo + hi) / 2) i with q | q
     ·have := S _ _ hm h q; omega
     ·obtain rfl : i = (lo + hi) / 2 := by omega
      omega)
  ·obtain rfl : lo = hi := by omega
   rw [if_neg (by omega)]
   exact ⟨lo, rfl, h4, ha, hb⟩
theorem f125 (l : List Int) (a : Int) (hl : l.length ≤ 1048576) (S : List.Pairwise (· < ·) l) (k : Nat) (hk : l.length < k) :
  ∃ p : Nat, F125b0.f k l a = some ((p : Int), decide (p < l.length ∧ rd l (p : Int) = a)) ∧ p ≤ l.length ∧ (∀ (i : Nat) (h : i < l.length), i < p → l[i] < a) ∧ (∀ (i : Nat) (h : i < l.length), p ≤ i → a ≤ l[i]) := by
 obtain ⟨p, h1, h2, h3, h4⟩ := l125 l a hl (fun i j hi hj hij => List.pairwise_iff_getElem.1 S i j hi hj hij) l.length k 0 l.length (by omega) hk (by omega) (by omega) (fun i h q => by omega) (fun i h q => by omega)
 refine ⟨p, ?_, h2, h3, h4⟩
 unfold F125b0.f F154.f
 simp only [lt]
 rw [show F125b0.l0 l a k 0 (l.length : Int) = some (p : Int) from h1]
 simp only [Option.bind_some]
 by_cases hp : p < l.length
 ·rw [if_pos (by omega), if_pos (by omega)]
  by_cases he : rd l (p : Int) = a
  ·simp [he, hp]
  ·rw [if_neg he]
   simp [he, hp]
 ·rw [if_neg (by omega)]
  simp [hp]
def nt : List Int → Int → Int → Int
 | [], _, d => d
 | t :: r, c, d => if t > c then t else nt r c d
theorem nt_at : ∀ (l : List Int) (c d : Int) (p : Nat), (∀ (i : Nat) (h : i < l.length), i < p → l[i] ≤ c) → (∀ (i : Nat) (h : i < l.length), p ≤ i → c < l[i]) → p ≤ l.length → nt l c d = if p < l.length then rd l (p : Int) else d
 | [], c, d, p, _, _, _ => by simp [nt]
 | t :: r, c, d, 0, _, h2, _ => by
  have := h2 0 (by simp) (by omega)
  simp only [List.getElem_cons_zero] at this
  unfold nt
  rw [if_pos this]; rfl
 | t :: r, c, d, p + 1, h1, h2, h3 => by
  have := h1 0 (by simp) (by omega)
  simp only [List.getElem_cons_zero] at this
  unfold nt
  rw [if_neg (by omega), nt_at r c d p (fun i h hi => by have := h1 (i + 1) (by simp; omega) (by omega); simpa using this) (fun i h hi => by have := h2 (i + 1) (by simp; omega) (by omega); simpa using this) (by simp at h3; omega)]
  by_cases hp : p < r.length
  ·rw [if_pos hp, if_pos (by simp; omega), rd_lt hp, rd_lt (xs := t :: r) (show p + 1 < (t :: r).length by simp; omega)]; rfl
  ·rw [if_neg hp, if_neg (by simp; omega)]
theorem nt_in : ∀ (l : List Int) (c d : Int), nt l c d = d ∨ nt l c d ∈ l
 | [], _, _ => .inl rfl
 | t :: r, c, d => by
  unfold nt
  split
  ·exact .inr (by simp)
  ·rcases nt_in r c d with z | z
   ·exact .inl z
   ·exact .inr (by simp [z])
def dControl (s : S34) (c : Int) : S34 :=
 if c = 8 then { s with f2 := max (s.f2 - 1) 0, f3 := false } else if c = 9 then { s with f2 := nt s.f7 s.f2 (s.f0.f0 - 1), f3 := false }
 else if c = 10 ∨ c = 11 ∨ c = 12 then { dFeed s with f3 := false } else if c = 13 then { s with f2 := 0, f3 := false } else if c = 141 then { dBack s with f3 := false } else s
theorem tabs_pw {s : S34} (h : M s) : List.Pairwise (· < ·) s.f7 ∧ ∀ x ∈ s.f7, -1 < x ∧ x < s.f0.f0 := tabs_iff.1 h.tabs
theorem next_in {s : S34} (h : Ok s) : 0 ≤ nt s.f7 s.f2 (s.f0.f0 - 1) ∧ nt s.f7 s.f2 (s.f0.f0 - 1) < s.f0.f0 := by
 obtain ⟨w, q, e0, _, _, _, _, _, _, _⟩ := h.size
 rcases nt_in s.f7 s.f2 (s.f0.f0 - 1) with z | z
 ·omega
 ·have := (tabs_pw h.m).2 _ z; omega
theorem okControl {s : S34} (h : Ok s) (c : Int) : Ok (dControl s c) := by
 have hc := cursor h
 have hn := next_in h
 have hr := Like.refl s
 unfold dControl
 split
 ·exact ok_like h (like_cur hr _ _) (mg_cur h.mg _ _) ⟨by show 0 ≤ max (s.f2 - 1) 0; omega, by show max (s.f2 - 1) 0 < s.f0.f0; omega, fun q => by cases q⟩
 ·split
  ·exact ok_like h (like_cur hr _ _) (mg_cur h.mg _ _) ⟨hn.1, hn.2, fun q => by cases q⟩
  ·split
   ·obtain ⟨l, e2, e3⟩ := feed_like h.mg
    exact ok_like h (like_cur l (dFeed s).f2 false) (mg_cur (feed_mg h.mg) (dFeed s).f2 false) ⟨by show 0 ≤ (dFeed s).f2; rw [e2]; exact hc.1, by show (dFeed s).f2 < (dFeed s).f0.f0; rw [e2, l.d0]; exact hc.2.1, fun q => by cases q⟩
   ·split
    ·exact ok_like h (like_cur hr _ _) (mg_cur h.mg _ _) ⟨by show (0 : Int) ≤ 0; omega, by show (0 : Int) < s.f0.f0; omega, fun q => by cases q⟩
    ·split
     ·obtain ⟨l, e2, e3⟩ := back_like h.mg
      exact ok_like h (like_cur l (dBack s).f2 false) (mg_cur (back_mg h.mg) (dBack s).f2 false) ⟨by show 0 ≤ (dBack s).f2; rw [e2]; exact hc.1, by show (dBack s).f2 < (dBack s).f0.f0; rw [e2, l.d0]; exact hc.2.1, fun q => by cases q⟩
     ·exact h
theorem pcontrol (s : S34) (h : Ok s) (c : Int) (k : Nat) (hk : 1100000 ≤ k) : F75Lb_0_.f k s c = some (dControl s c) := by
 obtain ⟨w, q, e0, e1, a, b, c', d, hl, hb⟩ := h.size
 have hc := cursor h
 have ht := tabs_small h.m
 have hpw := tabs_pw h.m
 unfold F75Lb_0_.f dControl
 by_cases c8 : c = 8
 ·rw [if_pos c8, if_pos c8, w64 (by omega) (by omega), maxI_eq]; rfl
 ·rw [if_neg c8, if_neg c8]
  by_cases c9 : c = 9
  ·rw [if_pos c9, if_pos c9]
   obtain ⟨p, h1, h2, h3, h4⟩ := f125 s.f7 s.f2 (by omega) hpw.1 k (by omega)
   rw [h1, plast s (by omega) (by omega)]
   simp only [Option.bind_some, decide_eq_true_eq]
   have S : ∀ (i j : Nat) (hi : i < s.f7.length) (hj : j < s.f7.length), i < j → s.f7[i] < s.f7[j] := fun i j hi hj hij => List.pairwise_iff_getElem.1 hpw.1 i j hi hj hij
   by_cases hf : p < s.f7.length ∧ rd s.f7 (p : Int) = s.f2
   ·rw [if_pos hf, w64 (by omega) (by omega)]
    simp only [lt, Option.bind_some]
    have hn := nt_at s.f7 s.f2 (s.f0.f0 - 1) (p + 1) (fun i hi hip => by
     rcases Nat.lt_or_ge i p with z | z
     ·have := h3 i hi z; omega
     ·obtain rfl : i = p := by omega
      rw [← rd_lt hi, hf.2]; exact Int.le_refl _) (fun i hi hip => by
     have := S p i hf.1 hi (by omega)
     rw [← rd_lt hf.1, hf.2] at this; exact this) (by omega)
    rw [hn]
    by_cases z : p + 1 < s.f7.length
    ·rw [if_pos (by omega), if_pos (by omega), if_pos z]; rfl
    ·rw [if_neg (by omega), if_neg z]; rfl
   ·rw [if_neg hf]
    simp only [Option.bind_some]
    have hn := nt_at s.f7 s.f2 (s.f0.f0 - 1) p (fun i hi hip => by have := h3 i hi hip; omega) (fun i hi hip => by
     have h5 := h4 i hi hip
     rcases Nat.lt_or_ge p i with z | z
     ·have h6 := h4 p (by omega) (Nat.le_refl _)
      have := S p i (by omega) hi z
      omega
     ·obtain rfl : i = p := by omega
      have : ¬ rd s.f7 (i : Int) = s.f2 := fun q => hf ⟨hi, q⟩
      rw [rd_lt hi] at this; omega) h2
    rw [hn]
    by_cases z : p < s.f7.length
    ·rw [if_pos (by omega), if_pos (by omega), if_pos z]; rfl
    ·rw [if_neg (by omega), if_neg z]; rfl
  ·rw [if_neg c9, if_neg c9, pfeed s h.mg k hk, pback s h.mg k hk]
   simp only [Option.bind_some]
   by_cases c10 : c = 10
   ·subst c10; rfl
   ·by_cases c11 : c = 11
    ·subst c11; rfl
    ·by_cases c12 : c = 12
     ·subst c12; rfl
     ·simp only [c10, c11, c12, if_false, decide_false, Option.bind_some, Bool.false_eq_true, or_self]
      by_cases c13 : c = 13
      ·rw [if_pos c13, if_pos c13]; rfl
      ·rw [if_neg c13, if_neg c13]
       by_cases c141 : c = 141
       ·rw [if_pos c141, if_pos c141]; rfl
       ·rw [if_neg c141, if_neg c141]; rfl
def ins (c : Int) : List Int → List Int
 | [] => [c]
 | t :: r => if t < c then t :: ins c r else if t = c then t :: r else c :: t :: r
theorem ins_mem {c x : Int} : ∀ {l : List Int}, x ∈ ins c l ↔ x = c ∨ x ∈ l
 | [] => by simp [ins]
 | t :: r => by
  unfold ins
  split
  ·simp only [List.mem_cons, ins_mem (l := r)]
   constructor
   ·rintro (h | h | h) <;> simp [h]
   ·rintro (h | h | h) <;> simp [h]
  ·split
   ·rename_i h; simp [h]
   ·simp
theorem ins_pw {c : Int} : ∀ {l : List Int}, List.Pairwise (· < ·) l → List.Pairwise (· < ·) (ins c l)
 | [], _ => by simp [ins]
 | t :: r, h => by
  rw [List.pairwise_cons] at h
  unfold ins
  split
  ·rw [List.pairwise_cons]
   refine ⟨fun x hx => ?_, ins_pw h.2⟩
   rcases ins_mem.1 hx with z | z
   ·omega
   ·exact h.1 x z
  ·split
   ·exact List.pairwise_cons.2 h
   ·rw [List.pairwise_cons]
    refine ⟨fun x hx => ?_, List.pairwise_cons.2 h⟩
    rcases List.mem_cons.1 hx with z | z
    ·omega
    ·have := h.1 x z; omega
theorem pw_ext : ∀ {l m : List Int}, List.Pairwise (· < ·) l → List.Pairwise (· < ·) m → (∀ x, x ∈ l ↔ x ∈ m) → l = m
 | [], [], _, _, _ => rfl
 | [], b :: m, _, _, h => absurd ((h b).2 (by simp)) (by simp)
 | a :: l, [], _, _, h => absurd ((h a).1 (by simp)) (by simp)
 | a :: l, b :: m, hl, hm, h => by
  rw [List.pairwise_cons] at hl hm
  have hab : a = b := by
   rcases List.mem_cons.1 ((h a).1 (by simp)) with z | z
   ·exact z
   ·rcases List.mem_cons.1 ((h b).2 (by simp)) with y | y
    ·exact y.symm
    ·have := hm.1 a z; have := hl.1 b y; omega
  subst hab
  rw [pw_ext hl.2 hm.2 fun x => ?_]
  constructor
  ·intro hx
   rcases List.mem_cons.1 ((h x).1 (by simp [hx])) with z | z
   ·have := hl.1 x hx; omega
   ·exact z
  ·intro hx
   rcases List.mem_cons.1 ((h x).2 (by simp [hx])) with z | z
   ·have := hm.1 x hx; omega
   ·exact z
def dTabs (l : List Int) (c kind : Int) : List Int := if kind = 0 then ins c l else if kind = 1 then l.filter (fun x => decide (x ≠ c)) else if kind = 2 then [] else l
def dTab (s : S34) (kind : Int) : S34 := { s with f7 := dTabs s.f7 s.f2 kind }
theorem tabs_pw2 {l : List Int} {c kind : Int} (h : List.Pairwise (· < ·) l) : List.Pairwise (· < ·) (dTabs l c kind) := by
 unfold dTabs
 split
 ·exact ins_pw h
 ·split
  ·exact List.Pairwise.filter _ h
  ·split
   ·exact List.Pairwise.nil
   ·exact h
theorem tabs_mem {l : List Int} {c kind x : Int} (h : x ∈ dTabs l c kind) : x = c ∨ x ∈ l := by
 unfold dTabs at h
 split at h
 ·exact ins_mem.1 h
 ·split at h
  ·exact .inr (List.mem_filter.1 h).1
  ·split at h
   ·simp at h
   ·exact .inr h
theorem okTab {s : S34} (h : Ok s) (kind : Int) : Ok (dTab s kind) := by
 have hc := cursor h
 have hp := tabs_pw h.m
 refine ⟨⟨h.m.g, h.m.y, h.m.y2, h.m.t0, h.m.t1, h.m.t2, h.m.p, h.m.p2, tabs_iff.2 ⟨tabs_pw2 hp.1, fun x hx => ?_⟩, h.m.alt, h.m.ti⟩, h.b, h.b2⟩
 rcases tabs_mem hx with z | z
 ·rw [z]; exact ⟨by omega, hc.2.1⟩
 ·exact hp.2 x z
theorem split_at {l : List Int} {c : Int} (hp : List.Pairwise (· < ·) l) {p : Nat} (h2 : p ≤ l.length) (h3 : ∀ (i : Nat) (h : i < l.length), i < p → l[i] < c) (h4 : ∀ (i : Nat) (h : i < l.length), p ≤ i → c ≤ l[i]) (hn : ¬ (p < l.length ∧ rd l (p : Int) = c)) :
  l.take p ++ [c] ++ l.drop p = ins c l := by
 have hgt : ∀ (i : Nat) (h : i < l.length), p ≤ i → c < l[i] := fun i hi hpi => by
  have h5 := h4 i hi hpi
  rcases Nat.lt_or_ge p i with z | z
  ·have h6 := h4 p (by omega) (Nat.le_refl _)
   have := List.pairwise_iff_getElem.1 hp p i (by omega) hi z
   omega
  ·obtain rfl : i = p := by omega
   have : ¬ rd l (i : Int) = c := fun q => hn ⟨hi, q⟩
   rw [rd_lt hi] at this; omega
 have ha : ∀ x ∈ l.take p, x < c := fun x hx => by
  obtain ⟨i, hi, rfl⟩ := List.getElem_of_mem hx
  rw [List.length_take] at hi
  rw [List.getElem_take]; exact h3 i (by omega) (by omega)
 have hb : ∀ x ∈ l.drop p, c < x := fun x hx => by
  obtain ⟨i, hi, rfl⟩ := List.getElem_of_mem hx
  rw [List.length_drop] at hi
  rw [List.getElem_drop]; exact hgt _ (by omega) (by omega)
 refine pw_ext ?_ (ins_pw hp) fun x => ?_
 ·have hp' := hp
  rw [← List.take_append_drop p l, List.pairwise_append] at hp'
  rw [List.append_assoc, List.pairwise_append]
  refine ⟨hp'.1, ?_, fun a ha' b hb' => ?_⟩
  ·rw [List.singleton_append, List.pairwise_cons]
   exact ⟨hb, hp'.2.1⟩
  ·rw [List.singleton_append] at hb'
   rcases List.mem_cons.1 hb' with z | z
   ·rw [z]; exact ha a ha'
   ·exact hp'.2.2 a ha' b z
 ·rw [ins_mem]
  have e : x ∈ l ↔ x ∈ l.take p ∨ x ∈ l.drop p := by rw [← List.mem_append, List.take_append_drop]
  rw [e]
  simp only [List.mem_append, List.mem_singleton]
  constructor
  ·rintro ((h | h) | h) <;> simp [h]
  ·rintro (h | h | h) <;> simp [h]
theorem cut_at {l : List Int} {c : Int} (hp : List.Pairwise (· < ·) l) {p : Nat} (h1 : p < l.length) (hc : rd l (p : Int) = c) : l.take p ++ l.drop (p + 1) = l.filter (fun x => decide (x ≠ c)) := by
 have S : ∀ (i j : Nat) (hi : i < l.length) (hj : j < l.length), i < j → l[i] < l[j] := fun i j hi hj hij => List.pairwise_iff_getElem.1 hp i j hi hj hij
 rw [rd_lt h1] at hc
 have hd : l.drop p = c :: l.drop (p + 1) := by rw [List.drop_eq_getElem_cons h1, hc]
 have e : l = l.take p ++ (c :: l.drop (p + 1)) := by rw [← hd, List.take_append_drop]
 have ha : ∀ x ∈ l.take p, x < c := fun x hx => by
  obtain ⟨i, hi, rfl⟩ := List.getElem_of_mem hx
  rw [List.length_take] at hi
  rw [List.getElem_take, ← hc]; exact S _ _ _ _ (by omega)
 have hb : ∀ x ∈ l.drop (p + 1), c < x := fun x hx => by
  obtain ⟨i, hi, rfl⟩ := List.getElem_of_mem hx
  rw [List.length_drop] at hi
  rw [List.getElem_drop, ← hc]; exact S _ _ _ _ (by omega)
 conv => rhs; rw [e]
 rw [List.filter_append, List.filter_cons_of_neg (by simp), List.filter_eq_self.2 (fun x hx => by have := ha x hx; simp; omega), List.filter_eq_self.2 (fun x hx => by have := hb x hx; simp; omega)]
theorem f133 (l m : List Int) (p : Nat) (hp : p ≤ l.length) (hl : l.length + m.length ≤ 17592186044416) : F133m0b2.f l (p : Int) m = some (l.take p ++ m ++ l.drop p) := by
 unfold F133m0b2.f
 rw [if_pos (by omega)]
 simp only [lt]
 by_cases hm : (m.length : Int) = 0
 ·rw [if_pos hm]
  have : m = [] := List.length_eq_zero_iff.1 (by omega)
  subst this
  simp
 ·rw [if_neg hm]
  by_cases hq : (p : Int) = (l.length : Int)
  ·rw [if_pos hq, if_pos hl]
   have : p = l.length := by omega
   subst this
   simp
  ·rw [if_neg hq, if_pos hl, Int.toNat_natCast]
theorem f134 (l : List Int) (p : Nat) (hp : p < l.length) (hl : l.length ≤ 1048576) : F134m0.f l (p : Int) ((p + 1 : Nat) : Int) = some (l.take p ++ l.drop (p + 1)) := by
 unfold F134m0.f
 rw [if_pos (by omega), if_neg (by omega)]
 simp only [lt]
 rw [if_pos (by omega), if_pos (by omega), if_pos (by omega)]
 have e1 : sub l (0 + ((p + 1 : Nat) : Int)) (0 + ((p + 1 : Nat) : Int) + ((l.length : Int) - ((p + 1 : Nat) : Int))) = l.drop (p + 1) := by
  rw [show (0 : Int) + ((p + 1 : Nat) : Int) = ((p + 1 : Nat) : Int) from by omega, show (l.length : Int) - ((p + 1 : Nat) : Int) = ((l.length - (p + 1) : Nat) : Int) from by omega, sub_win]
  unfold win
  rw [List.take_of_length_le (by simp)]
 rw [e1, show ((0 : Int) + 0 + ((p : Int) - 0)).toNat = p from by omega]
 have hX : (over l p (l.drop (p + 1))).length = l.length := over_len2 (by rw [List.length_drop]; omega)
 rw [if_pos (by omega), if_pos (by omega)]
 have e3 : ((p : Int) - 0 + ((l.length : Int) - ((p + 1 : Nat) : Int))).toNat = l.length - 1 := by omega
 have e4 : ((0 : Int) + 0 + ((p : Int) - 0 + ((l.length : Int) - ((p + 1 : Nat) : Int)))).toNat = l.length - 1 := by omega
 rw [e4, e3]
 have e5 : ((l.length : Int) - ((p : Int) - 0 + ((l.length : Int) - ((p + 1 : Nat) : Int)))).toNat = 1 := by omega
 rw [e5]
 congr 1
 apply List.ext_getElem?
 intro i
 rw [List.getElem?_take]
 by_cases hi : i < l.length - 1
 ·rw [if_pos hi, over_get (by rw [hX]; simp; omega), if_pos (by omega), over_get (by rw [List.length_drop]; omega), List.length_drop]
  by_cases hip : i < p
  ·rw [if_pos hip, List.getElem?_append_left (by rw [List.length_take]; omega), List.getElem?_take, if_pos hip]
  ·rw [if_neg hip, if_pos (by omega), List.getElem?_append_right (by rw [List.length_take]; omega), List.length_take, Nat.min_eq_left (by omega)]
 ·rw [if_neg hi, List.getElem?_eq_none (by simp; omega)]
theorem ptab (s : S34) (h : Ok s) (kind : Int) (k : Nat) (hk : 1100000 ≤ k) : F93Lb_0_.f k s kind = some (dTab s kind) := by
 have ht := tabs_small h.m
 have hp := tabs_pw h.m
 obtain ⟨p, h1, h2, h3, h4⟩ := f125 s.f7 s.f2 (by omega) hp.1 k (by omega)
 unfold F93Lb_0_.f dTab dTabs
 rw [h1]
 simp only [Option.bind_some, lt]
 by_cases hf : p < s.f7.length ∧ rd s.f7 (p : Int) = s.f2
 ·rw [decide_eq_true hf]
  simp only [Bool.not_true, Bool.and_false, Bool.false_eq_true, if_false, Bool.and_true, decide_eq_true_eq]
  by_cases k0 : kind = 0
  ·rw [if_neg (by omega), if_neg (by omega), if_pos k0]
   have hm : s.f2 ∈ s.f7 := by rw [← hf.2, rd_lt hf.1]; exact List.getElem_mem _
   have hins : ins s.f2 s.f7 = s.f7 := pw_ext (ins_pw hp.1) hp.1 fun x => by
    rw [ins_mem]
    constructor
    ·rintro (z | z)
     ·rw [z]; exact hm
     ·exact z
    ·exact fun z => .inr z
   rw [hins]
  ·rw [if_neg k0]
   by_cases k1 : kind = 1
   ·rw [if_pos k1, if_pos k1, w64 (by omega) (by omega), show ((p : Int) + 1) = ((p + 1 : Nat) : Int) from rfl, f134 s.f7 p hf.1 (by omega), cut_at hp.1 hf.1 hf.2]
    rfl
   ·rw [if_neg k1, if_neg k1]
    split <;> rfl
 ·rw [decide_eq_false hf]
  simp only [Bool.not_false, Bool.and_true, Bool.and_false, Bool.false_eq_true, if_false, decide_eq_true_eq]
  by_cases k0 : kind = 0
  ·rw [if_pos k0, if_pos k0, f133 s.f7 [s.f2] p h2 (by simp; omega), split_at hp.1 h2 h3 h4 hf]
   rfl
  ·rw [if_neg k0, if_neg k0]
   by_cases k1 : kind = 1
   ·rw [if_neg (by omega), if_pos k1]
    have hm : ∀ x ∈ s.f7, x ≠ s.f2 := fun x hx z => by
     obtain ⟨i, hi, hx⟩ := List.getElem_of_mem hx
     rcases Nat.lt_or_ge i p with y | y
     ·have := h3 i hi y; omega
     ·rcases Nat.lt_or_ge p i with v | v
      ·have h6 := h4 p (by omega) (Nat.le_refl _)
       have := List.pairwise_iff_getElem.1 hp.1 p i (by omega) hi v
       omega
      ·obtain rfl : i = p := by omega
       exact hf ⟨hi, by rw [rd_lt hi, hx, z]⟩
    rw [List.filter_eq_self.2 (fun x hx => by simp [hm x hx])]
   ·rw [if_neg k1]
    split <;> rfl
end Go.Proofs.YtckilbegmbaeeaaGreat.Z5Sc
namespace Go.Proofs.YtckilbegmbaeeaaGreat.Z5Sc
open Go Go.RowKit Go.Proofs.YtckilbegmbaeeaaGreat.SL Go.Proofs.YtckilbegmbaeeaaGreat.Z5 Go.Proofs.YtckilbegmbaeeaaGreat.Z5May Go.Proofs.YtckilbegmbaeeaaGreat.Z5Ls Go.Proofs.YtckilbegmbaeeaaGreat.Z5Op Go.Proofs.YtckilbegmbaeeaaGreat.Z5Sp
set_option linter.unusedVariables false
set_option linter.unusedSimpArgs false
def stopsL (w : Nat) : List Int := (List.range' 1 ((w + 7) / 8 - 1)).map fun j => ((8 * j : Nat) : Int)
theorem l23 (w : Nat) (hw : w ≤ 512) : ∀ (m k i : Nat) (l : List Int), 1 ≤ i → i + m = (w + 7) / 8 → l.length ≤ i → m < k → F23.l0 (w : Int) k l ((8 * i : Nat) : Int) = some (l ++ (List.range' i m).map fun j => ((8 * j : Nat) : Int))
 | _, 0, _, _, _, _, _, hk => by omega
 | 0, k + 1, i, l, h1, hi, hl, hk => by rw [F23.l0, if_neg (by omega)]; simp
 | m + 1, k + 1, i, l, h1, hi, hl, hk => by
  rw [F23.l0, if_pos (by omega), if_pos (by rw [List.length_singleton]; omega), w64 (by omega) (by omega), show ((8 * i : Nat) : Int) + 8 = ((8 * (i + 1) : Nat) : Int) from by omega]
  simp only [lt]
  rw [l23 w hw m k (i + 1) _ (by omega) (by omega) (by simp; omega) (by omega), List.range'_succ, List.map_cons, List.append_assoc]
  rfl
theorem f23 (w : Nat) (h0 : 0 < w) (hw : w ≤ 512) (k : Nat) (hk : 100 ≤ k) : F23.f k (w : Int) = some (stopsL w) := by
 unfold F23.f
 have := l23 w hw ((w + 7) / 8 - 1) k 1 [] (by omega) (by omega) (by simp) (by omega)
 rw [show F23.l0 (w : Int) k [] 8 = _ from this]
 rfl
theorem stops_ok {w : Nat} (h0 : 0 < w) : tabsOk (w : Int) (-1) (stopsL w) = true := by
 rw [tabs_iff]
 unfold stopsL
 refine ⟨?_, fun x hx => ?_⟩
 ·rw [List.pairwise_map]
  refine List.Pairwise.imp ?_ List.pairwise_lt_range'
  intro a b hab; omega
 ·simp only [List.mem_map, List.mem_range'] at hx
  obtain ⟨i, ⟨j, hj, rfl⟩, rfl⟩ := hx
  constructor <;> omega
def plain : S28 := S28.mk (-1) (-1) false false false false false false false false
theorem plain_may : mayStyle plain = true := by decide
def newS (c r : Int) : S34 := S34.mk (S26.mk c r (List.replicate (c * r).toNat (blk plain))) 0 0 false plain 0 (r - 1) (stopsL c.toNat) true false false false false true (S31.mk 0 0 false false plain) false (S26.mk 0 0 []) []
def dNew (c r : Int) : S34 × Int := if sizedB c r = true then (newS c r, 0) else (zS, 2)
theorem sized_iff {c r : Int} : sizedB c r = true ↔ ∃ w q : Nat, c = (w : Int) ∧ r = (q : Int) ∧ 0 < w ∧ w ≤ 512 ∧ 0 < q ∧ q ≤ 512 := by
 unfold sizedB
 simp only [decide_eq_true_eq]
 constructor
 ·rintro ⟨a, b, c', d⟩; exact ⟨c.toNat, r.toNat, by omega, by omega, by omega, by omega, by omega, by omega⟩
 ·rintro ⟨w, q, rfl, rfl, a, b, c', d⟩; omega
theorem new_eq {c r : Int} {y : S28} (hy : mayStyle y = true) (h : sizedB c r = true) : sNew c r y = (S26.mk c r (List.replicate (c * r).toNat (blk y)), 0) := by unfold sNew; rw [h, hy]; rfl
theorem f8 (c r : Int) (k : Nat) (hk : 1100000 ≤ k) : F8.f k c r = some (dNew c r) := by
 have e1 : F22.f = some plain := rfl
 unfold F8.f dNew
 rw [e1]
 simp only [Option.bind_some]
 rw [f44 c r plain k hk]
 simp only [Option.bind_some]
 cases hs : sizedB c r
 ·have : sNew c r plain = no := by unfold sNew; rw [hs]; rfl
  rw [this]; rfl
 ·obtain ⟨w, q, rfl, rfl, a, b, c', d⟩ := sized_iff.1 hs
  rw [new_eq plain_may hs, f23 w a b k (by omega), w64 (x := (q : Int) - 1) (by omega) (by omega)]
  rfl
def rsS (s : S34) (c r : Int) : S34 :=
 { s with f0 := (sResize s.f0 c r s.f4).1, f16 := (if s.f15 = true then (sResize s.f16 c r s.f4).1 else s.f16), f1 := min s.f1 (r - 1), f2 := min s.f2 (c - 1), f3 := false, f5 := 0, f6 := r - 1, f7 := stopsL c.toNat, f14 := S31.mk (min s.f14.f0 (r - 1)) (min s.f14.f1 (c - 1)) false s.f14.f3 s.f14.f4 }
def dResize (s : S34) (c r : Int) : S34 × Int := if (mayScreen s && sizedB c r) = true then (rsS s c r, 0) else (zS, 2)
theorem rs_eq {g : S26} {c r : Int} {y : S28} (hg : mayGrid g = true) (hy : mayStyle y = true) (h : sizedB c r = true) : sResize g c r y = (S26.mk c r (resL g.f2 g.f0.toNat c.toNat (min r g.f1).toNat 0 (List.replicate (c * r).toNat (blk y))), 0) := by
 unfold sResize; rw [hg, hy, h]; rfl
theorem alt_may {s : S34} (h : Ok s) (ha : s.f15 = true) : mayGrid s.f16 = true ∧ s.f16.f0 = s.f0.f0 ∧ s.f16.f1 = s.f0.f1 := by
 have := h.m.alt
 unfold altOk at this
 rw [if_pos ha] at this
 simp only [Bool.and_eq_true, decide_eq_true_eq] at this
 exact ⟨this.1.1, this.1.2, this.2⟩
theorem presize (s : S34) (hs : Sg s) (c r : Int) (k : Nat) (hk : 40000000000000 ≤ k) : F39.f k s c r = some (dResize s c r) := by
 unfold F39.f dResize
 rw [f74 s hs k hk]
 cases hm : mayScreen s
 ·rfl
 ·have h := ok_of hs hm
  simp only [Option.bind_some, Bool.not_true, Bool.false_eq_true, if_false, Bool.true_and]
  rw [f38 s.f0 h.gr c r s.f4 k (by omega)]
  simp only [Option.bind_some]
  cases hz : sizedB c r
  ·have : sResize s.f0 c r s.f4 = no := by unfold sResize; rw [hz]; simp
   rw [this]; rfl
  ·obtain ⟨w, q, rfl, rfl, a, b, c', d⟩ := sized_iff.1 hz
   rw [rs_eq h.m.g h.m.y hz, f97 s h]
   simp only [Option.bind_some, ne_eq, not_true_eq_false, if_false, if_true]
   rw [f96b s.f16 h.grm _ _ s.f4 k (by omega), f23 w a b k (by omega), w64 (x := (q : Int) - 1) (by omega) (by omega), w64 (x := (w : Int) - 1) (by omega) (by omega)]
   simp only [Option.bind_some, minI_eq]
   unfold rsS
   rw [rs_eq h.m.g h.m.y hz]
   cases ha : s.f15
   ·simp [el_g, ha]
   ·rw [rs_eq (alt_may h ha).1 h.m.y hz]
    simp [el_g, ha]
theorem okResize {s : S34} (h : Ok s) {c r : Int} (hz : sizedB c r = true) : Ok (rsS s c r) := by
 obtain ⟨w, q, rfl, rfl, a, b, c', d⟩ := sized_iff.1 hz
 have p := pos_iff.1 h.m.p
 have p2 := pos_iff.1 h.m.p2
 have hg := rs_eq h.m.g h.m.y hz
 have hm := resize_may (g := s.f0) (c := (w : Int)) (r := (q : Int)) (s := s.f4) (by rw [hg])
 have d0 : (sResize s.f0 (w : Int) (q : Int) s.f4).1.f0 = (w : Int) ∧ (sResize s.f0 (w : Int) (q : Int) s.f4).1.f1 = (q : Int) := by rw [hg]; exact ⟨rfl, rfl⟩
 refine ⟨⟨hm, h.m.y, h.m.y2, Int.le_refl _, by show (0 : Int) ≤ (q : Int) - 1; omega, by show (q : Int) - 1 < (sResize s.f0 (w : Int) (q : Int) s.f4).1.f1; omega, pos_iff.2 ?_, pos_iff.2 ?_, ?_, ?_, h.m.ti⟩, resize_all h.b, ?_⟩
 ·show 0 ≤ min s.f1 ((q : Int) - 1) ∧ min s.f1 ((q : Int) - 1) < (sResize s.f0 (w : Int) (q : Int) s.f4).1.f1 ∧ 0 ≤ min s.f2 ((w : Int) - 1) ∧ min s.f2 ((w : Int) - 1) < (sResize s.f0 (w : Int) (q : Int) s.f4).1.f0 ∧ (false = true → _)
  exact ⟨by omega, by omega, by omega, by omega, fun z => by cases z⟩
 ·show 0 ≤ min s.f14.f0 ((q : Int) - 1) ∧ min s.f14.f0 ((q : Int) - 1) < (sResize s.f0 (w : Int) (q : Int) s.f4).1.f1 ∧ 0 ≤ min s.f14.f1 ((w : Int) - 1) ∧ min s.f14.f1 ((w : Int) - 1) < (sResize s.f0 (w : Int) (q : Int) s.f4).1.f0 ∧ (false = true → _)
  exact ⟨by omega, by omega, by omega, by omega, fun z => by cases z⟩
 ·show tabsOk (sResize s.f0 (w : Int) (q : Int) s.f4).1.f0 (-1) (stopsL ((w : Int)).toNat) = true
  rw [d0.1, Int.toNat_natCast]; exact stops_ok a
 ·unfold altOk
  show (if s.f15 = true then _ else _) = true
  cases ha : s.f15
  ·have := h.m.alt
   unfold altOk at this
   simp only [ha, Bool.false_eq_true, if_false] at this ⊢
   simp only [rsS, ha, Bool.false_eq_true, if_false]
   exact this
  ·have ha2 := alt_may h ha
   have hg2 := rs_eq ha2.1 h.m.y hz
   have hm2 := resize_may (g := s.f16) (c := (w : Int)) (r := (q : Int)) (s := s.f4) (by rw [hg2])
   simp only [rsS, ha, if_true]
   rw [hm2, hg2, hg]
   simp
 ·intro x hx
  simp only [rsS] at hx
  split at hx
  ·exact resize_all h.b2 x hx
  ·exact h.b2 x hx
def dD (s : S34) (d : S44) : S34 × Int :=
 if d.f0 = 0 then res s (dPrint s (IntKind.i32.wrap d.f1)) else if d.f0 = 1 then res s (dControl s (IntKind.i32.wrap d.f1)) else if d.f0 = 2 then res s (dMove s d.f1 d.f2)
 else if d.f0 = 3 then res s (dPlace s d.f1 d.f2) else if d.f0 = 4 then res s (dErase s d.f3 d.f1) else if d.f0 = 5 then res s (dLines s d.f1) else if d.f0 = 6 then res s (dChars s d.f1)
 else if d.f0 = 7 then res s (dScroll s d.f1) else if d.f0 = 8 then res s (dRegion s d.f1 d.f2) else if d.f0 = 9 then res s (dKeep s d.f3) else if d.f0 = 10 then res s (dMode s d.f3 d.f1 (decide (d.f2 > 0)))
 else if d.f0 = 11 then res s (dTab s d.f1) else if d.f0 = 12 then res s (dWipe s d.f1) else dResize s d.f1 d.f2
theorem deed {s t : S34} (hs : Sg s) {F : S34 → Option S34} (hF : Ok s → F s = some t) (k : Nat) (hk : 40000000000000 ≤ k) :
  (F16b0.f k s).bind (fun r10 => if (!r10) = true then (some ((zS, (2 : Int)))) else ((F97.f s).bind (fun r16 => (F r16).bind (fun r29 => some ((r29, 0)))))) = some (res s t) := by
 rw [f74 s hs k hk]
 cases hm : mayScreen s
 ·simp [res, hm]
 ·have h := ok_of hs hm
  simp only [Option.bind_some, Bool.not_true, Bool.false_eq_true, if_false]
  rw [f97 s h]
  simp only [Option.bind_some]
  rw [hF h]
  simp [res, hm]
theorem eta2 (r : Option (S34 × Int)) : r.bind (fun r11 => some ((r11.1, r11.2))) = r := by cases r <;> rfl
theorem eta1 (r : Option S34) : r.bind (fun r11 => some r11) = r := by cases r <;> rfl
theorem pd0 (s : S34) (hs : Sg s) (c : Int) (k : Nat) (hk : 40000000000000 ≤ k) : F27.f k s c = some (res s (dPrint s c)) := by
 unfold F27.f; rw [eta2]; unfold F62f72x_1_.f F72Lb_0_.f; simp only [eta1]; exact deed hs (F := fun x => F73Lb_0_.f k x c) (fun h => pprint s h c k (by omega)) k hk
theorem pd1 (s : S34) (hs : Sg s) (c : Int) (k : Nat) (hk : 40000000000000 ≤ k) : F28.f k s c = some (res s (dControl s c)) := by
 unfold F28.f; rw [eta2]; unfold F62f74x_1_.f F74Lb_0_.f; simp only [eta1]; exact deed hs (F := fun x => F75Lb_0_.f k x c) (fun h => pcontrol s h c k (by omega)) k hk
theorem pd2 (s : S34) (hs : Sg s) (a b : Int) (k : Nat) (hk : 40000000000000 ≤ k) : F29.f k s a b = some (res s (dMove s a b)) := by
 unfold F29.f; rw [eta2]; unfold F62f76xx_1_.f F76Lb_0_.f; simp only [eta1]; exact deed hs (F := fun x => F77Lb_0_.f x a b) (fun h => pmove s h a b) k hk
theorem pd3 (s : S34) (hs : Sg s) (a b : Int) (k : Nat) (hk : 40000000000000 ≤ k) : F30.f k s a b = some (res s (dPlace s a b)) := by
 unfold F30.f; rw [eta2]; unfold F62f78xx_1_.f F78Lb_0_.f; simp only [eta1]; exact deed hs (F := fun x => F79Lb_0_.f x a b) (fun h => by
  obtain ⟨w, q, e0, e1, _, _, _, _, _, _⟩ := h.size
  exact pplace s (by omega) (by omega) (by omega) (by omega) h.m.t0 h.m.t1 h.m.t2 a b) k hk
theorem pd4 (s : S34) (hs : Sg s) (l : Bool) (a : Int) (k : Nat) (hk : 40000000000000 ≤ k) : F31.f k s l a = some (res s (dErase s l a)) := by
 unfold F31.f; rw [eta2]; unfold F62f80xx_1_.f F80Lb_0_.f; simp only [eta1]; exact deed hs (F := fun x => F81Lb_0_.f k x l a) (fun h => perases s h l a k (by omega)) k hk
theorem pd5 (s : S34) (hs : Sg s) (a : Int) (k : Nat) (hk : 40000000000000 ≤ k) : F32.f k s a = some (res s (dLines s a)) := by
 unfold F32.f; rw [eta2]; unfold F62f82x_1_.f F82Lb_0_.f; simp only [eta1]; exact deed hs (F := fun x => F83Lb_0_.f k x a) (fun h => plines s h a k (by omega)) k hk
theorem pd6 (s : S34) (hs : Sg s) (a : Int) (k : Nat) (hk : 40000000000000 ≤ k) : F33.f k s a = some (res s (dChars s a)) := by
 unfold F33.f; rw [eta2]; unfold F62f84x_1_.f F84Lb_0_.f; simp only [eta1]; exact deed hs (F := fun x => F85Lb_0_.f k x a) (fun h => pchars s h a k (by omega)) k hk
theorem pd7 (s : S34) (hs : Sg s) (a : Int) (k : Nat) (hk : 40000000000000 ≤ k) : F34.f k s a = some (res s (dScroll s a)) := by
 unfold F34.f; rw [eta2]; unfold F62f86x_1_.f F86Lb_0_.f; simp only [eta1]; exact deed hs (F := fun x => F87Lb_0_.f k x a) (fun h => pscroll s h a k (by omega)) k hk
theorem pd8 (s : S34) (hs : Sg s) (a b : Int) (k : Nat) (hk : 40000000000000 ≤ k) : F35.f k s a b = some (res s (dRegion s a b)) := by
 unfold F35.f; rw [eta2]; unfold F62f88xx_1_.f F88Lb_0_.f; simp only [eta1]; exact deed hs (F := fun x => F89Lb_0_.f x a b) (fun h => pregion s h a b) k hk
theorem pd9 (s : S34) (hs : Sg s) (b : Bool) (k : Nat) (hk : 40000000000000 ≤ k) : F17.f k s b = some (res s (dKeep s b)) := by
 unfold F17.f; rw [eta2]; unfold F62f63x_1_.f F63Lb_0_.f; simp only [eta1]; exact deed hs (F := fun x => F64Lb_0_.f x b) (fun h => pkeep s b) k hk
theorem pd10 (s : S34) (hs : Sg s) (p : Bool) (a : Int) (b : Bool) (k : Nat) (hk : 40000000000000 ≤ k) : F36.f k s p a b = some (res s (dMode s p a b)) := by
 unfold F36.f; rw [eta2]; unfold F62f90xxx_1_.f F90Lb_0_.f; simp only [eta1]; exact deed hs (F := fun x => F91Lb_0_.f k x p a b) (fun h => pmode s h p a b k (by omega)) k hk
theorem pd11 (s : S34) (hs : Sg s) (a : Int) (k : Nat) (hk : 40000000000000 ≤ k) : F37.f k s a = some (res s (dTab s a)) := by
 unfold F37.f; rw [eta2]; unfold F62f92x_1_.f F92Lb_0_.f; simp only [eta1]; exact deed hs (F := fun x => F93Lb_0_.f k x a) (fun h => ptab s h a k (by omega)) k hk
theorem pd12 (s : S34) (hs : Sg s) (a : Int) (k : Nat) (hk : 40000000000000 ≤ k) : F38.f k s a = some (res s (dWipe s a)) := by
 unfold F38.f; rw [eta2]; unfold F62f94x_1_.f F94Lb_0_.f; simp only [eta1]; exact deed hs (F := fun x => F95Lb_0_.f k x a) (fun h => pwipe s h a k (by omega)) k hk
theorem some_ite {α : Type} {c : Prop} [Decidable c] {a b : α} : some (if c then a else b) = if c then some a else some b := by split <;> rfl
theorem pdone (s : S34) (hs : Sg s) (d : S44) (k : Nat) (hk : 40000000000000 ≤ k) : F12.f k s d = some (dD s d) := by
 unfold F12.f dD
 simp only [eta2, pd0 s hs _ k hk, pd1 s hs _ k hk, pd2 s hs _ _ k hk, pd3 s hs _ _ k hk, pd4 s hs _ _ k hk, pd5 s hs _ k hk, pd6 s hs _ k hk, pd7 s hs _ k hk, pd8 s hs _ _ k hk, pd9 s hs _ k hk, pd10 s hs _ _ _ k hk, pd11 s hs _ k hk, pd12 s hs _ k hk, presize s hs _ _ k hk]
 rw [some_ite, some_ite, some_ite, some_ite, some_ite, some_ite, some_ite, some_ite, some_ite, some_ite, some_ite, some_ite, some_ite]
theorem dD_ok {s : S34} (h : Ok s) (d : S44) : ((dD s d).2 = 0 ∧ Ok (dD s d).1) ∨ ((dD s d).2 = 2 ∧ (dD s d).1 = zS ∧ d.f0 ≠ 0 ∧ d.f0 ≠ 1 ∧ d.f0 ≠ 2 ∧ d.f0 ≠ 3 ∧ d.f0 ≠ 4 ∧ d.f0 ≠ 5 ∧ d.f0 ≠ 6 ∧ d.f0 ≠ 7 ∧ d.f0 ≠ 8 ∧ d.f0 ≠ 9 ∧ d.f0 ≠ 10 ∧ d.f0 ≠ 11 ∧ d.f0 ≠ 12) := by
 have hr : ∀ t, Ok t → (res s t).2 = 0 ∧ Ok (res s t).1 := fun t ht => by unfold res; rw [if_pos h.may]; exact ⟨rfl, ht⟩
 unfold dD
 by_cases c0 : d.f0 = 0
 ·rw [if_pos c0]; exact .inl (hr _ (okPrint h _))
 rw [if_neg c0]
 by_cases c1 : d.f0 = 1
 ·rw [if_pos c1]; exact .inl (hr _ (okControl h _))
 rw [if_neg c1]
 by_cases c2 : d.f0 = 2
 ·rw [if_pos c2]; exact .inl (hr _ (okMove h _ _))
 rw [if_neg c2]
 by_cases c3 : d.f0 = 3
 ·rw [if_pos c3]; exact .inl (hr _ (okPlace h _ _))
 rw [if_neg c3]
 by_cases c4 : d.f0 = 4
 ·rw [if_pos c4]; exact .inl (hr _ (okErase h _ _))
 rw [if_neg c4]
 by_cases c5 : d.f0 = 5
 ·rw [if_pos c5]; exact .inl (hr _ (okLines h _))
 rw [if_neg c5]
 by_cases c6 : d.f0 = 6
 ·rw [if_pos c6]; exact .inl (hr _ (okChars h _))
 rw [if_neg c6]
 by_cases c7 : d.f0 = 7
 ·rw [if_pos c7]; exact .inl (hr _ (okScroll h _))
 rw [if_neg c7]
 by_cases c8 : d.f0 = 8
 ·rw [if_pos c8]; exact .inl (hr _ (okRegion h _ _))
 rw [if_neg c8]
 by_cases c9 : d.f0 = 9
 ·rw [if_pos c9]; exact .inl (hr _ (okKeep h _))
 rw [if_neg c9]
 by_cases c10 : d.f0 = 10
 ·rw [if_pos c10]; exact .inl (hr _ (okMode h _ _ _))
 rw [if_neg c10]
 by_cases c11 : d.f0 = 11
 ·rw [if_pos c11]; exact .inl (hr _ (okTab h _))
 rw [if_neg c11]
 by_cases c12 : d.f0 = 12
 ·rw [if_pos c12]; exact .inl (hr _ (okWipe h _))
 rw [if_neg c12]
 unfold dResize
 by_cases hz : sizedB d.f1 d.f2 = true
 ·rw [if_pos (by rw [h.may, hz]; rfl)]; exact .inl ⟨rfl, okResize h hz⟩
 ·rw [if_neg (by rw [Bool.and_eq_true]; exact fun q => hz q.2)]; exact .inr ⟨rfl, rfl, c0, c1, c2, c3, c4, c5, c6, c7, c8, c9, c10, c11, c12⟩
structure Big (s : S34) : Prop where
 g : s.f0.f2.length ≤ 2932031007402
 m : s.f16.f2.length ≤ 2932031007402
 t : s.f7.length ≤ 17592186044416
 u : s.f17.length ≤ 35184372088832
theorem f14 (k : Nat) (hk : 1000 ≤ k) : F14.f k = some true := by
 obtain ⟨j, rfl⟩ : ∃ j, k = j + 900 := ⟨k - 900, by omega⟩
 kernel_rfl
end Go.Proofs.YtckilbegmbaeeaaGreat.Z5Sc

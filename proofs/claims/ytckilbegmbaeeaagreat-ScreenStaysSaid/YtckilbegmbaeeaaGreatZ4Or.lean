import Derived.Test.YtckilbegmbaeeaaGreatZ4Oq
namespace Go.Proofs.YtckilbegmbaeeaaGreat.Z4Op
open Go Go.RowKit Go.Proofs.YtckilbegmbaeeaaGreat.SL Go.Proofs.YtckilbegmbaeeaaGreat.Z4 Go.Proofs.YtckilbegmbaeeaaGreat.Z4May Go.Proofs.YtckilbegmbaeeaaGreat.Z4Ls
set_option linter.unusedVariables false
set_option linter.unusedSimpArgs false
theorem slide_out {W : List S55} {d : Int} {b : S55} (h : (W.length : Int) ≤ d ∨ d ≤ -(W.length : Int)) : slide W d b = List.replicate W.length b := by
 apply List.ext_getElem?
 intro i
 by_cases hi : i < W.length
 ·rw [slide_get hi, if_neg (by omega), List.getElem?_replicate, if_pos hi]
 ·rw [List.getElem?_eq_none (by rw [slide_len]; omega), List.getElem?_eq_none (by simp; omega)]
def clip (n x : Int) : Int := max (-n) (min x n)
theorem clip_le {n x : Int} (h : 0 ≤ n) : -n ≤ clip n x ∧ clip n x ≤ n := by unfold clip; omega
theorem slide_clip {W : List S55} {x : Int} {b : S55} : slide W (-(clip (W.length : Int) x)) b = slide W (-x) b := by
 by_cases h : -(W.length : Int) ≤ x ∧ x ≤ (W.length : Int)
 ·rw [show clip (W.length : Int) x = x from by unfold clip; omega]
 ·rw [slide_out (by unfold clip; omega), slide_out (by omega)]
theorem slide_clipm {W : List S55} {x : Int} {b : S55} {h w : Nat} (hl : W.length = h * w) (hw : 0 < w) : slide W (clip (h : Int) x * (w : Int)) b = slide W (x * (w : Int)) b := by
 by_cases c : -(h : Int) ≤ x ∧ x ≤ (h : Int)
 ·rw [show clip (h : Int) x = x from by unfold clip; omega]
 ·have hlen : (W.length : Int) = (h : Int) * (w : Int) := by rw [hl]; simp
  by_cases c2 : x < -(h : Int)
  ·rw [show clip (h : Int) x = -(h : Int) from by unfold clip; omega, slide_out (.inr (by rw [hlen, Int.neg_mul]; exact Int.le_refl _))]
   refine (slide_out (.inr ?_)).symm
   rw [hlen, ← Int.neg_mul]
   exact Int.mul_le_mul_of_nonneg_right (by omega) (by omega)
  ·rw [show clip (h : Int) x = (h : Int) from by unfold clip; omega, slide_out (.inl (by rw [hlen]; exact Int.le_refl _))]
   refine (slide_out (.inl ?_)).symm
   rw [hlen]
   exact Int.mul_le_mul_of_nonneg_right (by omega) (by omega)
theorem drop_win {X : List S55} {o n a : Nat} : win X (o + a) (n - a) = (win X o n).drop a := by unfold win; rw [List.drop_take, List.drop_drop]
theorem f88 (X : List S55) (o n a : Nat) (by_ : Int) (s : S28) (h : o + n ≤ X.length) (ha : a ≤ n) (hb : X.length < 4611686018427387904) (hn : n ≤ 1048576) (k : Nat) (hk : n < k) :
  F122w0.f k X (o : Int) (n : Int) (a : Int) by_ s = some (over X o (mendL (over (win X o n) a (slide ((win X o n).drop a) (-by_) (blk s))))) := by
 have hw : (win X o n).length = n := wlen h
 have hdl : ((win X o n).drop a).length = n - a := by simp; omega
 have hc0 : maxI (IntKind.i64.wrap (0 - ((n : Int) - (a : Int)))) (minI by_ ((n : Int) - (a : Int))) = clip ((n - a : Nat) : Int) by_ := by
  rw [w64 (by omega) (by omega), maxI_eq, minI_eq]; unfold clip; omega
 have hsl : slide ((win X o n).drop a) (-by_) (blk s) = slide ((win X o n).drop a) (-(clip ((n - a : Nat) : Int) by_)) (blk s) := by
  have := slide_clip (W := (win X o n).drop a) (x := by_) (b := blk s)
  rw [hdl] at this; exact this.symm
 have hcl := clip_le (n := ((n - a : Nat) : Int)) (x := by_) (by omega)
 have fin : ∀ d : Int, over X (o + a) (slide (win X (o + a) (n - a)) d (blk s)) = over X o (over (win X o n) a (slide ((win X o n).drop a) d (blk s))) := fun d => by
  rw [over_in (n := n) (by rw [slide_len, wlen (by omega)]; omega) h, drop_win]
 have hfl : ∀ d : Int, (over (win X o n) a (slide ((win X o n).drop a) d (blk s))).length = n := fun d => by rw [over_len2 (by rw [slide_len]; omega), hw]
 unfold F122w0.f
 rw [if_pos (by omega), if_pos (by omega), hc0, hsl]
 simp only [lt]
 by_cases c : clip ((n - a : Nat) : Int) by_ ≥ 0
 ·rw [if_pos c, if_pos (by omega)]
  obtain ⟨e, he⟩ : ∃ e : Nat, clip ((n - a : Nat) : Int) by_ = (e : Int) := ⟨(clip ((n - a : Nat) : Int) by_).toNat, by omega⟩
  rw [he]
  have hel : e ≤ n - a := by omega
  rw [show ((o : Int) + (a : Int) + (e : Int)).toNat = (o + a) + e from by omega, show (o : Int) + (a : Int) + ((n : Int) - (a : Int)) = ((o + a : Nat) : Int) + ((n - a : Nat) : Int) from by omega, show (o : Int) + (a : Int) = ((o + a : Nat) : Int) from by omega, sub_win,
   show ((n : Int) - (a : Int) - (e : Int)).toNat = (n - a) - e from by omega, if_pos (by omega), show ((o + a : Nat) : Int) + 0 = ((o + a : Nat) : Int) from by omega, show (e : Int) - 0 = (e : Int) from by omega]
  have hl1 : (over X (o + a + e) ((win X (o + a) (n - a)).take (n - a - e))).length = X.length := over_len2 (by rw [List.length_take, wlen (by omega)]; omega)
  rw [f105 _ (o + a) e s (by omega) (by omega) k (by omega)]
  simp only [Option.bind_some]
  rw [slid_down (by omega) hel, fin, if_pos (by rw [over_len2 (by rw [hfl]; omega), hl1]), f81 _ o n (by rw [over_len2 (by rw [hfl]; omega)]; omega) (by rw [over_len2 (by rw [hfl]; omega)]; omega) k hk, mend_in h (hfl _)]
  simp only [Option.bind_some]
  rw [if_pos (by rw [over_len2 (by rw [mend_len, hfl]; omega), over_len2 (by rw [hfl]; omega)])]
 ·rw [if_neg c]
  obtain ⟨e, he⟩ : ∃ e : Nat, clip ((n - a : Nat) : Int) by_ = -(e : Int) := ⟨(-(clip ((n - a : Nat) : Int) by_)).toNat, by omega⟩
  rw [he]
  have hel : e ≤ n - a := by omega
  rw [show (0 : Int) - -(e : Int) = (e : Int) from by omega, w64 (x := (e : Int)) (by omega) (by omega), if_pos (by omega), show (n : Int) - (a : Int) + -(e : Int) = ((n - a - e : Nat) : Int) from by omega, w64 (x := ((n - a - e : Nat) : Int)) (by omega) (by omega)]
  rw [show (o : Int) + (a : Int) + (e : Int) = ((o + a + e : Nat) : Int) from by omega, show (n : Int) - (a : Int) - (e : Int) = ((n - a - e : Nat) : Int) from by omega, sub_win, show ((o : Int) + (a : Int)).toNat = o + a from by omega, show ((n : Int) - (a : Int)).toNat = n - a from by omega,
   List.take_of_length_le (by rw [wlen (by omega)]; omega), if_pos (by omega), show (o : Int) + (a : Int) + ((n - a - e : Nat) : Int) = ((o + a + (n - a - e) : Nat) : Int) from by omega, show (n : Int) - (a : Int) - ((n - a - e : Nat) : Int) = (e : Int) from by omega]
  have hl1 : (over X (o + a) (win X (o + a + e) (n - a - e))).length = X.length := over_len2 (by rw [wlen (by omega)]; omega)
  rw [f105 _ (o + a + (n - a - e)) e s (by omega) (by omega) k (by omega)]
  simp only [Option.bind_some]
  rw [slid_up (by omega) hel, fin, Int.neg_neg, if_pos (by rw [over_len2 (by rw [hfl]; omega), hl1]), f81 _ o n (by rw [over_len2 (by rw [hfl]; omega)]; omega) (by rw [over_len2 (by rw [hfl]; omega)]; omega) k hk, mend_in h (hfl _)]
  simp only [Option.bind_some]
  rw [if_pos (by rw [over_len2 (by rw [mend_len, hfl]; omega), over_len2 (by rw [hfl]; omega)])]
theorem f73 (S : S34) (X : List S55) (w h t u : Nat) (r by_ : Int) (s : S28) (hS : S.f0 = S26.mk (w : Int) r X) (hX : X.length = w * h) (hw0 : 0 < w) (hw : w ≤ 512) (hh : h ≤ 512) (htu : t ≤ u) (hu : u < h) (k : Nat) (hk : 1048576 < k) :
  F131i34m0b_0_.f k S (t : Int) (u : Int) by_ s = some { S with f0 := S26.mk (w : Int) r (over X (t * w) (slide (win X (t * w) ((u + 1 - t) * w)) (by_ * (w : Int)) (blk s))) } := by
 have hmul : ∀ {a b : Nat}, a ≤ b → a * w ≤ b * w := fun q => Nat.mul_le_mul_right _ q
 have m1 : h * w ≤ 512 * 512 := Nat.mul_le_mul hh hw
 have m2 : (u + 1) * w ≤ h * w := hmul (by omega)
 have m3 : t * w ≤ (u + 1) * w := hmul (by omega)
 have m4 : (u + 1 - t) * w = (u + 1) * w - t * w := Nat.sub_mul _ _ _
 have m5 : w * h = h * w := Nat.mul_comm _ _
 have hcl := clip_le (n := ((u + 1 - t : Nat) : Int)) (x := by_) (by omega)
 generalize ho : t * w = o at *
 generalize hn : (u + 1 - t) * w = n at *
 have hwn : (win X o n).length = n := wlen (by omega)
 have hc : maxI (IntKind.i64.wrap (0 - IntKind.i64.wrap (IntKind.i64.wrap ((u : Int) - (t : Int)) + 1))) (minI by_ (IntKind.i64.wrap (IntKind.i64.wrap ((u : Int) - (t : Int)) + 1))) = clip ((u + 1 - t : Nat) : Int) by_ := by
  rw [w64 (x := (u : Int) - (t : Int)) (by omega) (by omega), w64 (x := (u : Int) - (t : Int) + 1) (by omega) (by omega), w64 (by omega) (by omega), maxI_eq, minI_eq]; unfold clip; omega
 have hsl : slide (win X o n) (by_ * (w : Int)) (blk s) = slide (win X o n) (clip ((u + 1 - t : Nat) : Int) by_ * (w : Int)) (blk s) := (slide_clipm (by rw [hwn, hn]) hw0).symm
 have hol : (t : Int) * (w : Int) = (o : Int) := by rw [← ho]; simp
 have hul : ((u : Int) + 1) * (w : Int) = ((o + n : Nat) : Int) := by rw [show o + n = (u + 1) * w from by omega]; simp
 unfold F131i34m0b_0_.f
 rw [hS]
 simp only [lt, hc]
 rw [hol, w64 (x := (o : Int)) (by omega) (by omega), w64 (x := (u : Int) + 1) (by omega) (by omega), hul, w64 (x := ((o + n : Nat) : Int)) (by omega) (by omega), hsl]
 by_cases c : 0 ≤ clip ((u + 1 - t : Nat) : Int) by_
 ·obtain ⟨q, hq⟩ : ∃ q : Nat, clip ((u + 1 - t : Nat) : Int) by_ = (q : Int) := ⟨(clip ((u + 1 - t : Nat) : Int) by_).toNat, by omega⟩
  have hqw : q * w ≤ n := by rw [← hn]; exact hmul (by omega)
  rw [hq, show (q : Int) * (w : Int) = ((q * w : Nat) : Int) from by simp]
  generalize q * w = e at *
  rw [w64 (x := (e : Int)) (by omega) (by omega), if_pos (by omega), if_pos (by omega), if_pos (by omega)]
  rw [show (0 : Int) + (o : Int) + (e : Int) = ((o + e : Nat) : Int) from by omega, show ((o + n : Nat) : Int) - (o : Int) - (e : Int) = ((n - e : Nat) : Int) from by omega, sub_win, show ((0 : Int) + (o : Int)).toNat = o from by omega, show (((o + n : Nat) : Int) - (o : Int)).toNat = n from by omega,
   List.take_of_length_le (by rw [wlen (by omega)]; omega), w64 (x := ((n - e : Nat) : Int)) (by omega) (by omega), if_pos (by omega), show (0 : Int) + (o : Int) + ((n - e : Nat) : Int) = ((o + (n - e) : Nat) : Int) from by omega, show ((o + n : Nat) : Int) - (o : Int) - ((n - e : Nat) : Int) = (e : Int) from by omega]
  have hl1 : (over X o (win X (o + e) (n - e))).length = X.length := over_len2 (by rw [wlen (by omega)]; omega)
  rw [f105 _ (o + (n - e)) e s (by omega) (by omega) k (by omega)]
  simp only [Option.bind_some]
  rw [slid_up (by omega) hqw, if_pos (by rw [over_len2 (by rw [slide_len]; omega), hl1])]
 ·obtain ⟨q, hq⟩ : ∃ q : Nat, clip ((u + 1 - t : Nat) : Int) by_ = -(q : Int) := ⟨(-(clip ((u + 1 - t : Nat) : Int) by_)).toNat, by omega⟩
  have hqw : q * w ≤ n := by rw [← hn]; exact hmul (by omega)
  have hq0 : 0 < q * w := Nat.mul_pos (by omega) hw0
  rw [hq, Int.neg_mul, show (q : Int) * (w : Int) = ((q * w : Nat) : Int) from by simp]
  generalize q * w = e at *
  rw [w64 (x := -(e : Int)) (by omega) (by omega), if_pos (by omega), if_neg (by omega), show (0 : Int) - -(e : Int) = (e : Int) from by omega, w64 (x := (e : Int)) (by omega) (by omega), if_pos (by omega)]
  rw [show (0 : Int) + (o : Int) + (e : Int) = ((o + e : Nat) : Int) from by omega, show ((o + n : Nat) : Int) - (o : Int) - (e : Int) = ((n - e : Nat) : Int) from by omega, show (0 : Int) + (o : Int) + (((o + n : Nat) : Int) - (o : Int)) = (o : Int) + (n : Int) from by omega, show (0 : Int) + (o : Int) = (o : Int) from by omega, sub_win,
   Int.toNat_natCast, Int.toNat_natCast, if_pos (by omega), show (o : Int) + 0 = (o : Int) from by omega, show (e : Int) - 0 = (e : Int) from by omega]
  have hl1 : (over X (o + e) ((win X o n).take (n - e))).length = X.length := over_len2 (by rw [List.length_take]; omega)
  rw [f105 _ o e s (by omega) (by omega) k (by omega)]
  simp only [Option.bind_some]
  rw [slid_down (by omega) hqw, if_pos (by rw [over_len2 (by rw [slide_len]; omega), hl1])]
end Go.Proofs.YtckilbegmbaeeaaGreat.Z4Op

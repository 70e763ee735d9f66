import Derived.Test.YtckilbegmbaeeaaGreatZ4Op
namespace Go.Proofs.YtckilbegmbaeeaaGreat.Z4Op
open Go Go.RowKit Go.Proofs.YtckilbegmbaeeaaGreat.SL Go.Proofs.YtckilbegmbaeeaaGreat.Z4 Go.Proofs.YtckilbegmbaeeaaGreat.Z4May Go.Proofs.YtckilbegmbaeeaaGreat.Z4Ls
set_option linter.unusedVariables false
set_option linter.unusedSimpArgs false
theorem mend_in {X R : List S55} {o n : Nat} (h : o + n ≤ X.length) (hR : R.length = n) : over (over X o R) o (mendL (win (over X o R) o n)) = over X o (mendL R) := by
 rw [win_over hR h, over_over (by rw [mend_len]) (by omega)]
theorem f87 (X : List S55) (o n a : Nat) (l : List S55) (h : o + n ≤ X.length) (ha : a ≤ n) (hb : X.length < 4611686018427387904) (k : Nat) (hk : n < k) :
  F123w0b2.f k X (o : Int) (n : Int) (a : Int) l = some (over X o (mendL (over (win X o n) a (l.take (n - a))))) := by
 have hw : (win X o n).length = n := wlen h
 have ht : (l.take (n - a)).length ≤ n - a := by rw [List.length_take]; omega
 have hl1 : (over (win X o n) a (l.take (n - a))).length = n := by rw [over_len2 (by omega), hw]
 unfold F123w0b2.f
 rw [if_pos (by omega), if_pos (by omega), show ((o : Int) + (a : Int)).toNat = o + a from by omega, show ((n : Int) - (a : Int)).toNat = n - a from by omega, over_in (n := n) (by omega) h]
 simp only [lt]
 have hZ : (over X o (over (win X o n) a (l.take (n - a)))).length = X.length := over_len2 (by omega)
 rw [f81 _ o n (by omega) (by omega) k hk, mend_in h hl1]
 simp only [Option.bind_some]
 rw [if_pos (by rw [hZ, over_len2 (by rw [mend_len]; omega)])]
theorem f77 (X : List S55) (o n a b : Nat) (s : S28) (h : o + n ≤ X.length) (hab : a ≤ b) (hbn : b ≤ n) (hb : X.length < 4611686018427387904) (k : Nat) (hk : n < k) :
  F129w0.f k X (o : Int) (n : Int) (a : Int) (b : Int) s = some (over X o (mendL (over (win X o n) a (List.replicate (b - a) (blk s))))) := by
 have hw : (win X o n).length = n := wlen h
 have hl1 : (over (win X o n) a (List.replicate (b - a) (blk s))).length = n := by rw [over_len2 (by simp; omega), hw]
 unfold F129w0.f
 rw [if_pos (by omega), if_pos (by omega), show (o : Int) + (a : Int) = ((o + a : Nat) : Int) from by omega, show (b : Int) - (a : Int) = ((b - a : Nat) : Int) from by omega, f105 X (o + a) (b - a) s (by omega) hb k (by omega)]
 simp only [Option.bind_some]
 rw [over_in (n := n) (by simp; omega) h]
 have hZ : (over X o (over (win X o n) a (List.replicate (b - a) (blk s)))).length = X.length := over_len2 (by omega)
 rw [if_pos hZ, f81 _ o n (by omega) (by omega) k hk, mend_in h hl1]
 simp only [Option.bind_some]
 rw [if_pos (by rw [hZ, over_len2 (by rw [mend_len]; omega)])]
theorem slid_up {X : List S55} {o n e : Nat} {b : S55} (h : o + n ≤ X.length) (he : e ≤ n) : over (over X o (win X (o + e) (n - e))) (o + (n - e)) (List.replicate e b) = over X o (slide (win X o n) (e : Int) b) := by
 have hw : (win X o n).length = n := wlen h
 have hw2 : (win X (o + e) (n - e)).length = n - e := wlen (by omega)
 have e1 : win X (o + e) (n - e) = (win X o n).drop e := by unfold win; rw [List.drop_take, List.drop_drop]
 have e2 : over X o (win X (o + e) (n - e)) = over X o (over (win X o n) 0 (win X (o + e) (n - e))) := by
  have := over_in (X := X) (ys := win X (o + e) (n - e)) (o := o) (a := 0) (n := n) (by omega) h
  simpa using this
 have hl : (over (win X o n) 0 (win X (o + e) (n - e))).length = n := by rw [over_len2 (by omega), hw]
 have hl2 : (over (over (win X o n) 0 (win X (o + e) (n - e))) (n - e) (List.replicate e b)).length = n := by rw [over_len2 (by rw [hl]; simp; omega), hl]
 rw [e2, over_in (n := n) (by simp; omega) (by rw [over_len2 (by omega)]; exact h), win_over hl h, over_over (by rw [hl, hl2]) (by omega), e1]
 have := slide_up (W := win X o n) (e := e) (b := b) (by omega)
 rw [hw] at this
 rw [this]
theorem slid_down {X : List S55} {o n e : Nat} {b : S55} (h : o + n ≤ X.length) (he : e ≤ n) : over (over X (o + e) ((win X o n).take (n - e))) o (List.replicate e b) = over X o (slide (win X o n) (-(e : Int)) b) := by
 have hw : (win X o n).length = n := wlen h
 have ht : ((win X o n).take (n - e)).length = n - e := by rw [List.length_take]; omega
 have hl : (over (win X o n) e ((win X o n).take (n - e))).length = n := by rw [over_len2 (by omega), hw]
 have e3 : over (over X (o + e) ((win X o n).take (n - e))) o (List.replicate e b) = over (over X o (over (win X o n) e ((win X o n).take (n - e)))) (o + 0) (List.replicate e b) := by rw [over_in (n := n) (by omega) h, Nat.add_zero]
 have hl2 : (over (over (win X o n) e ((win X o n).take (n - e))) 0 (List.replicate e b)).length = n := by rw [over_len2 (by rw [hl]; simp; omega), hl]
 rw [e3, over_in (n := n) (by simp; omega) (by rw [over_len2 (by omega)]; exact h), win_over hl h, over_over (by rw [hl, hl2]) (by omega)]
 have := slide_down (W := win X o n) (e := e) (b := b) (by omega)
 rw [hw] at this
 rw [this]
end Go.Proofs.YtckilbegmbaeeaaGreat.Z4Op

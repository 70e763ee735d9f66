/- What the functions of a grid's rows compute, 2. -/
import Derived.Test.YtodkeoibebimgaaGrOp
namespace Go.Proofs.Ytodkeoibebimgaa.GrOp
open Go Go.RowKit Go.Proofs.Ytodkeoibebimgaa.SL Go.Proofs.Ytodkeoibebimgaa.Gr Go.Proofs.Ytodkeoibebimgaa.GrMay Go.Proofs.Ytodkeoibebimgaa.GrLs
set_option linter.unusedVariables false
set_option linter.unusedSimpArgs false

/-! ### the document's mend -/
set_option maxHeartbeats 2000000 in
theorem l90 (X : List S76) (o n : Nat) (h : o + n ≤ X.length) (hb : X.length < 4611686018427387904) (W : List S76) (hW : W = win X o n) : ∀ (m k i : Nat), i + m = n → m < k →
    F90w0.l0 X (o : Int) (n : Int) W k (i : Int) (over X o ((mendL W).take i)) = some (over X o (mendL W))
  | 0, 0, _, _, hk => by omega
  | 0, k + 1, i, hi, hk => by
    have hl : W.length = n := by rw [hW]; exact wlen h
    have ht : ((mendL W).take i).length = i := by rw [List.length_take, mend_len]; omega
    rw [F90w0.l0, if_pos (over_len2 (by omega)), if_neg (by omega), List.take_of_length_le (by rw [mend_len]; omega)]
  | m + 1, 0, _, _, hk => by omega
  | m + 1, k + 1, i, hi, hk => by
    have hl : W.length = n := by rw [hW]; exact wlen h
    have ht : ((mendL W).take i).length = i := by rw [List.length_take, mend_len]; omega
    have hZ : (over X o ((mendL W).take i)).length = X.length := over_len2 (by omega)
    have hnext : over X o ((mendL W).take (i + 1)) = (if badAt W i = true then (over X o ((mendL W).take i)).set (o + i) (blk (rd W (i : Int)).f3) else over X o ((mendL W).take i)) := by
      have hs : (mendL W).take (i + 1) = (mendL W).take i ++ [mendAt W i] := take_succ_map (by omega)
      rw [hs]
      by_cases hbd : badAt W i = true
      · rw [if_pos hbd, mendAt, if_pos hbd]
        have := over_set (X := X) (ys := (mendL W).take i) (o := o) (y := blk (rd W (i : Int)).f3) (by omega)
        rw [ht] at this; exact this.symm
      · rw [if_neg hbd]
        refine over_same (by omega) ?_
        rw [ht, mendAt, if_neg hbd, hW, rd_win (by omega) h, show (o : Int) + (i : Int) = ((o + i : Nat) : Int) from by omega]
        exact some_rd (by omega)
    have ih := l90 X o n h hb W hW m k (i + 1) (by omega) (by omega)
    rw [hnext] at ih
    have g1 : (0 : Int) ≤ (i : Int) ∧ (i : Int) < (W.length : Int) := by omega
    have g2 : (0 : Int) ≤ (i : Int) ∧ (i : Int) < (n : Int) := by omega
    have g3 : (i : Int) < (n : Int) := g2.2
    rw [F90w0.l0, if_pos hZ, if_pos g3, wsucc (by omega)]
    have hlast : ∀ bd : Bool, bd = badAt W i → (if bd = true then (if (0 : Int) ≤ (i : Int) ∧ (i : Int) < (W.length : Int) then ((F70.f ((rd W (i : Int)).f3)).bind (fun r4308 => if (0 : Int) ≤ (i : Int) ∧ (i : Int) < (n : Int) then (lt ((over X o ((mendL W).take i)).set ((o : Int) + (i : Int)).toNat r4308) fun n4313 => (lt ((i + 1 : Nat) : Int) fun n4314 => F90w0.l0 X (o : Int) (n : Int) W k n4314 n4313)) else none)) else none) else (lt ((i + 1 : Nat) : Int) fun n4316 => F90w0.l0 X (o : Int) (n : Int) W k n4316 (over X o ((mendL W).take i)))) = some (over X o (mendL W)) := by
      rintro bd rfl
      by_cases hbd : badAt W i = true
      · rw [if_pos hbd, if_pos g1, f70]
        simp only [Option.bind_some, lt]
        rw [if_pos g2, show ((o : Int) + (i : Int)).toNat = o + i from by omega]
        rw [if_pos hbd] at ih; exact ih
      · rw [if_neg hbd]
        simp only [lt]
        rw [if_neg hbd] at ih; exact ih
    have fin : ∀ (z : Option Bool), z = some (badAt W i) → z.bind (fun t13 => (if t13 = true then (if (0 : Int) ≤ (i : Int) ∧ (i : Int) < (W.length : Int) then ((F70.f ((rd W (i : Int)).f3)).bind (fun r4308 => if (0 : Int) ≤ (i : Int) ∧ (i : Int) < (n : Int) then (lt ((over X o ((mendL W).take i)).set ((o : Int) + (i : Int)).toNat r4308) fun n4313 => (lt ((i + 1 : Nat) : Int) fun n4314 => F90w0.l0 X (o : Int) (n : Int) W k n4314 n4313)) else none)) else none) else (lt ((i + 1 : Nat) : Int) fun n4316 => F90w0.l0 X (o : Int) (n : Int) W k n4316 (over X o ((mendL W).take i))))) = some (over X o (mendL W)) := by
      rintro z rfl
      exact hlast _ rfl
    refine fin _ ?_
    clear fin hlast ih hnext
    have ep : 0 < i → IntKind.i64.wrap ((i : Int) - 1) = (i : Int) - 1 := fun _ => w64 (by omega) (by omega)
    have es : ((i + 1 : Nat) : Int) = (i : Int) + 1 := by omega
    rw [if_pos g1, es]
    unfold badAt isW
    by_cases c2 : (rd W (i : Int)).f2 = 2
    · rw [if_pos c2]
      by_cases d1 : (i : Int) + 1 ≥ (n : Int)
      · rw [if_pos d1]
        have : ¬ ((i : Int) + 1 < (W.length : Int)) := by omega
        simp [c2, this]
      · have g4 : (0 : Int) ≤ (i : Int) + 1 ∧ (i : Int) + 1 < (W.length : Int) := by omega
        rw [if_neg d1, if_pos g4]
        by_cases d2 : (rd W ((i : Int) + 1)).f2 = 0
        · rw [if_neg (by simpa using d2), if_pos g4, if_pos g1]
          by_cases d3 : (rd W ((i : Int) + 1)).f3 = (rd W (i : Int)).f3
          · rw [if_neg (by simpa using d3), if_pos g1, if_neg (by rw [c2]; decide)]
            simp [c2, d2, d3, g4]
          · rw [if_pos d3]; simp [c2, d2, d3]
        · rw [if_pos d2]; simp [c2, d2]
    · rw [if_neg c2, if_pos g1]
      by_cases c0 : (rd W (i : Int)).f2 = 0
      · rw [if_pos c0]
        by_cases d0 : i = 0
        · subst d0
          have c0' : (rd W 0).f2 = 0 := c0
          simp [c0']
        · have g5 : (0 : Int) ≤ (i : Int) - 1 ∧ (i : Int) - 1 < (W.length : Int) := by omega
          rw [if_neg (by omega), ep (by omega), if_pos g5]
          by_cases d2 : (rd W ((i : Int) - 1)).f2 = 2
          · rw [if_neg (by simpa using d2), if_pos g5, if_pos g1]
            simp [c0, d2, g5, show ¬ ((i : Int) < 1) from by omega]
          · rw [if_pos d2]; simp [c0, d2]
      · rw [if_neg c0]; simp [c0, c2]
theorem f90 (X : List S76) (o n : Nat) (h : o + n ≤ X.length) (hb : X.length < 4611686018427387904) (hn : n ≤ 1048576) (k : Nat) (hk : n < k) : F90w0.f k X (o : Int) (n : Int) = some (over X o (mendL (win X o n))) := by
  have hl : (win X o n).length = n := wlen h
  have := l90 X o n h hb _ rfl n k 0 (by omega) hk
  rw [List.take_zero, over_nil] at this
  unfold F90w0.f
  rw [if_pos (by omega), sub_win, if_pos (by simp; omega)]
  simp only [lt, List.nil_append]
  rw [show (0 : Int) = ((0 : Nat) : Int) from rfl, this]
  simp only [Option.bind_some]
  rw [if_pos (over_len2 (by rw [mend_len]; omega))]

/-! ### the deeds of a row -/
/-- A mended row stands where the row stood. -/
theorem mend_in {X R : List S76} {o n : Nat} (h : o + n ≤ X.length) (hR : R.length = n) : over (over X o R) o (mendL (win (over X o R) o n)) = over X o (mendL R) := by
  rw [win_over hR h, over_over (by rw [mend_len]) (by omega)]
theorem f87 (X : List S76) (o n a : Nat) (l : List S76) (h : o + n ≤ X.length) (ha : a ≤ n) (hb : X.length < 4611686018427387904) (k : Nat) (hk : n < k) :
    F87w0.f k X (o : Int) (n : Int) (a : Int) l = some (over X o (mendL (over (win X o n) a (l.take (n - a))))) := by
  have hw : (win X o n).length = n := wlen h
  have ht : (l.take (n - a)).length ≤ n - a := by rw [List.length_take]; omega
  have hl1 : (over (win X o n) a (l.take (n - a))).length = n := by rw [over_len2 (by omega), hw]
  unfold F87w0.f
  rw [if_pos (by omega), if_pos (by omega), show ((o : Int) + (a : Int)).toNat = o + a from by omega, show ((n : Int) - (a : Int)).toNat = n - a from by omega, over_in (n := n) (by omega) h]
  simp only [lt]
  have hZ : (over X o (over (win X o n) a (l.take (n - a)))).length = X.length := over_len2 (by omega)
  rw [f81 _ o n (by omega) (by omega) k hk, mend_in h hl1]
  simp only [Option.bind_some]
  rw [if_pos (by rw [hZ, over_len2 (by rw [mend_len]; omega)])]
theorem f77 (X : List S76) (o n a b : Nat) (s : S70) (h : o + n ≤ X.length) (hab : a ≤ b) (hbn : b ≤ n) (hb : X.length < 4611686018427387904) (k : Nat) (hk : n < k) :
    F77w0.f k X (o : Int) (n : Int) (a : Int) (b : Int) s = some (over X o (mendL (over (win X o n) a (List.replicate (b - a) (blk s))))) := by
  have hw : (win X o n).length = n := wlen h
  have hl1 : (over (win X o n) a (List.replicate (b - a) (blk s))).length = n := by rw [over_len2 (by simp; omega), hw]
  unfold F77w0.f
  rw [if_pos (by omega), if_pos (by omega), show (o : Int) + (a : Int) = ((o + a : Nat) : Int) from by omega, show (b : Int) - (a : Int) = ((b - a : Nat) : Int) from by omega, f105 X (o + a) (b - a) s (by omega) hb k (by omega)]
  simp only [Option.bind_some]
  rw [over_in (n := n) (by simp; omega) h]
  have hZ : (over X o (over (win X o n) a (List.replicate (b - a) (blk s)))).length = X.length := over_len2 (by omega)
  rw [if_pos hZ, f81 _ o n (by omega) (by omega) k hk, mend_in h hl1]
  simp only [Option.bind_some]
  rw [if_pos (by rw [hZ, over_len2 (by rw [mend_len]; omega)])]
/-- Up or down within a window, as copy and fill do it. -/
theorem slid_up {X : List S76} {o n e : Nat} {b : S76} (h : o + n ≤ X.length) (he : e ≤ n) : over (over X o (win X (o + e) (n - e))) (o + (n - e)) (List.replicate e b) = over X o (slide (win X o n) (e : Int) b) := by
  have hw : (win X o n).length = n := wlen h
  have hw2 : (win X (o + e) (n - e)).length = n - e := wlen (by omega)
  have e1 : win X (o + e) (n - e) = (win X o n).drop e := by unfold win; rw [List.drop_take, List.drop_drop]
  have e2 : over X o (win X (o + e) (n - e)) = over X o (over (win X o n) 0 (win X (o + e) (n - e))) := by
    have := over_in (X := X) (ys := win X (o + e) (n - e)) (o := o) (a := 0) (n := n) (by omega) h
    simpa using this
  have hl : (over (win X o n) 0 (win X (o + e) (n - e))).length = n := by rw [over_len2 (by omega), hw]
  have hl2 : (over (over (win X o n) 0 (win X (o + e) (n - e))) (n - e) (List.replicate e b)).length = n := by rw [over_len2 (by rw [hl]; simp; omega), hl]
  rw [e2, over_in (n := n) (by simp; omega) (by rw [over_len2 (by omega)]; exact h), win_over hl h, over_over (by rw [hl, hl2]) (by omega), e1]
  have := slide_up (W := win X o n) (e := e) (b := b) (by omega)
  rw [hw] at this
  rw [this]
theorem slid_down {X : List S76} {o n e : Nat} {b : S76} (h : o + n ≤ X.length) (he : e ≤ n) : over (over X (o + e) ((win X o n).take (n - e))) o (List.replicate e b) = over X o (slide (win X o n) (-(e : Int)) b) := by
  have hw : (win X o n).length = n := wlen h
  have ht : ((win X o n).take (n - e)).length = n - e := by rw [List.length_take]; omega
  have hl : (over (win X o n) e ((win X o n).take (n - e))).length = n := by rw [over_len2 (by omega), hw]
  have e3 : over (over X (o + e) ((win X o n).take (n - e))) o (List.replicate e b) = over (over X o (over (win X o n) e ((win X o n).take (n - e)))) (o + 0) (List.replicate e b) := by rw [over_in (n := n) (by omega) h, Nat.add_zero]
  have hl2 : (over (over (win X o n) e ((win X o n).take (n - e))) 0 (List.replicate e b)).length = n := by rw [over_len2 (by rw [hl]; simp; omega), hl]
  rw [e3, over_in (n := n) (by simp; omega) (by rw [over_len2 (by omega)]; exact h), win_over hl h, over_over (by rw [hl, hl2]) (by omega)]
  have := slide_down (W := win X o n) (e := e) (b := b) (by omega)
  rw [hw] at this
  rw [this]
end Go.Proofs.Ytodkeoibebimgaa.GrOp

/- What the deeds on grids come to, 3: shift, scroll, new, resize, same. -/
import Derived.Test.YtodkeoibebimgaaGrDo
namespace Go.Proofs.Ytodkeoibebimgaa.GrSp
open Go Go.RowKit Go.Proofs.Ytodkeoibebimgaa.SL Go.Proofs.Ytodkeoibebimgaa.Gr Go.Proofs.Ytodkeoibebimgaa.GrMay Go.Proofs.Ytodkeoibebimgaa.GrLs Go.Proofs.Ytodkeoibebimgaa.GrOp
set_option linter.unusedVariables false
set_option linter.unusedSimpArgs false

/-! ### shift -/
def sShift (g : S67) (row a by_ : Int) (s : S70) : S67 × Int :=
  if (rowOk g row s && (decide (0 ≤ a) && decide (a < g.f0))) = true then onRow g row (fun W => over W a.toNat (slide (W.drop a.toNat) (-by_) (blk s))) else no
theorem shift_len {W : List S76} {a : Nat} {d : Int} {b : S76} (h : a ≤ W.length) : (over W a (slide (W.drop a) d b)).length = W.length := over_len2 (by rw [slide_len]; simp; omega)
theorem f43 (g : S67) (hg : Gr g) (row a by_ : Int) (s : S70) (k : Nat) (hk : 1100000 ≤ k) : F43.f k g row a by_ s = some (sShift g row a by_ s) := by
  unfold F43.f sShift
  rw [f76 g hg row s k (by omega)]
  simp only [Option.bind_some]
  cases hr : rowOk g row s
  · simp [lt, no]
  · obtain ⟨w, q, i, e0, e1, rfl, hw0, hw5, hq5, hi, hlen, hb, hp⟩ := rowOk_size hr
    simp only [if_true]
    rw [show (i : Int) * g.f0 = ((i * w : Nat) : Int) from by rw [e0]; simp, e0, if_pos (by omega)]
    simp only [lt, Bool.not_true, Bool.false_or]
    by_cases c0 : a < 0
    · simp [c0, show ¬ (0 ≤ a) from by omega, no]
    · by_cases c1 : a ≥ (w : Int)
      · simp [c0, c1, show ¬ (a < (w : Int)) from by omega, no]
      · obtain ⟨a, rfl⟩ : ∃ a' : Nat, a = (a' : Int) := ⟨a.toNat, by omega⟩
        simp only [c0, c1, decide_false, Bool.or_self, Bool.false_eq_true, if_false, Option.bind_some]
        rw [f88 g.f2 (i * w) w a by_ s (by omega) (by omega) (by omega) (by omega) k (by omega)]
        simp only [Option.bind_some]
        have hl1 : (over g.f2 (i * w) (mendL (over (win g.f2 (i * w) w) a (slide ((win g.f2 (i * w) w).drop a) (-by_) (blk s))))).length = g.f2.length := over_len2 (by rw [mend_len, shift_len (by rw [wlen (by omega)]; omega), wlen (by omega)]; omega)
        rw [if_pos hl1]
        have hc : (a : Int) < (w : Int) := by omega
        simp [onRow, e0, hc]
theorem slide_take {W : List S76} {d : Int} {b : S76} {j : Nat} (h : j < W.length) : (slide W d b).take (j + 1) = (slide W d b).take j ++ [if 0 ≤ (j : Int) + d ∧ (j : Int) + d < (W.length : Int) then W.getD ((j : Int) + d).toNat b else b] := take_succ_map h
theorem l48 (g : S67) (w q i a : Nat) (by_ : Int) (s : S70) (e0 : g.f0 = (w : Int)) (hlen : g.f2.length = w * q) (hb : w * q ≤ 262144) (hq5 : q ≤ 512) (hw5 : w ≤ 512) (hi : i < q) (haw : a < w) (hp : i * w + w ≤ g.f2.length)
    (S : List S76) (hS : S = slide ((win g.f2 (i * w) w).drop a) (-by_) (blk s)) : ∀ (m k j : Nat), a + j + m = w → m < k →
    F48.l0 g (i : Int) (a : Int) by_ s g k ((a + j : Nat) : Int) (over g.f2 (i * w + a) (S.take j)) = some (over g.f2 (i * w + a) S)
  | 0, 0, _, _, hk => by omega
  | 0, k + 1, j, hj, hk => by
    have hSl : S.length = w - a := by rw [hS, slide_len, List.length_drop, wlen (by omega)]
    rw [F48.l0, if_pos (over_len2 (by rw [List.length_take]; omega)), if_neg (by omega), List.take_of_length_le (by omega)]
  | m + 1, 0, _, _, hk => by omega
  | m + 1, k + 1, j, hj, hk => by
    have hwl : (win g.f2 (i * w) w).length = w := wlen (by omega)
    have hdl : ((win g.f2 (i * w) w).drop a).length = w - a := by rw [List.length_drop]; omega
    have hSl : S.length = w - a := by rw [hS, slide_len, hdl]
    have htl : (S.take j).length = j := by rw [List.length_take]; omega
    have hl1 : (over g.f2 (i * w + a) (S.take j)).length = g.f2.length := over_len2 (by omega)
    have ha := at83 (over g.f2 (i * w + a) (S.take j)) w q i g.f1 (by rw [hl1]; exact hlen) hb hq5 hi
    have ha2 := at83r g.f2 w q i g.f1 hlen hb hq5 hi
    rw [← e0] at ha2
    have ha3 : F83.f g (i : Int) = some (win g.f2 (i * w) w) := ha2
    have hnext : S.take (j + 1) = S.take j ++ [if 0 ≤ (j : Int) + -by_ ∧ (j : Int) + -by_ < ((w - a : Nat) : Int) then ((win g.f2 (i * w) w).drop a).getD ((j : Int) + -by_).toNat (blk s) else blk s] := by
      rw [hS, slide_take (by rw [hdl]; omega), hdl]
    rw [F48.l0, if_pos hl1, if_pos (by omega), f70]
    simp only [Option.bind_some, lt]
    rw [ha3, e0, ha]
    simp only [Option.bind_some]
    have hval : ∀ (G : S76 → Option (List S76)), (if ((decide (by_ ≥ IntKind.i64.wrap (0 - (w : Int))) && decide (by_ ≤ (w : Int))) && decide (IntKind.i64.wrap (((a + j : Nat) : Int) - by_) ≥ (a : Int)) && decide (IntKind.i64.wrap (((a + j : Nat) : Int) - by_) < (w : Int))) = true then (if 0 ≤ IntKind.i64.wrap (((a + j : Nat) : Int) - by_) ∧ IntKind.i64.wrap (((a + j : Nat) : Int) - by_) < ((win g.f2 (i * w) w).length : Int) then some (S76.mk (rd (win g.f2 (i * w) w) (IntKind.i64.wrap (((a + j : Nat) : Int) - by_))).f0 (rd (win g.f2 (i * w) w) (IntKind.i64.wrap (((a + j : Nat) : Int) - by_))).f1 (rd (win g.f2 (i * w) w) (IntKind.i64.wrap (((a + j : Nat) : Int) - by_))).f2 (rd (win g.f2 (i * w) w) (IntKind.i64.wrap (((a + j : Nat) : Int) - by_))).f3) else none) else some (blk s)).bind G = G (if 0 ≤ (j : Int) + -by_ ∧ (j : Int) + -by_ < ((w - a : Nat) : Int) then ((win g.f2 (i * w) w).drop a).getD ((j : Int) + -by_).toNat (blk s) else blk s) := fun G => by
      rw [w64 (x := 0 - (w : Int)) (by omega) (by omega)]
      by_cases c : -(w : Int) ≤ by_ ∧ by_ ≤ (w : Int)
      · rw [w64 (x := ((a + j : Nat) : Int) - by_) (by omega) (by omega)]
        by_cases c2 : 0 ≤ (j : Int) + -by_ ∧ (j : Int) + -by_ < ((w - a : Nat) : Int)
        · have hcond : ((decide (by_ ≥ 0 - (w : Int)) && decide (by_ ≤ (w : Int))) && decide (((a + j : Nat) : Int) - by_ ≥ (a : Int)) && decide (((a + j : Nat) : Int) - by_ < (w : Int))) = true := by simp; omega
          rw [if_pos hcond, if_pos (by omega), if_pos c2]
          simp only [Option.bind_some]
          congr 1
          obtain ⟨t, ht⟩ : ∃ t : Nat, (j : Int) + -by_ = (t : Int) := ⟨((j : Int) + -by_).toNat, by omega⟩
          rw [ht, Int.toNat_natCast, show ((a + j : Nat) : Int) - by_ = ((a + t : Nat) : Int) from by omega]
          have h1 : (win g.f2 (i * w) w)[a + t]? = some (rd (win g.f2 (i * w) w) ((a + t : Nat) : Int)) := some_rd (by omega)
          rw [List.getD_eq_getElem?_getD, List.getElem?_drop, h1]; rfl
        · have hcond : ¬ ((decide (by_ ≥ 0 - (w : Int)) && decide (by_ ≤ (w : Int))) && decide (((a + j : Nat) : Int) - by_ ≥ (a : Int)) && decide (((a + j : Nat) : Int) - by_ < (w : Int))) = true := by simp; omega
          rw [if_neg hcond, if_neg c2]; rfl
      · have hcond : (decide (by_ ≥ 0 - (w : Int)) && decide (by_ ≤ (w : Int))) = false := by simp; omega
        rw [hcond, Bool.false_and, Bool.false_and, if_neg (by decide), if_neg (by omega)]; rfl
    rw [hval]
    rw [if_pos (by omega), if_pos (by omega), wsucc (by omega), show (((i * w : Nat) : Int) + ((a + j : Nat) : Int)).toNat = i * w + a + (S.take j).length from by omega, over_set (by omega), ← hnext]
    exact l48 g w q i a by_ s e0 hlen hb hq5 hw5 hi haw hp S hS m k (j + 1) (by omega) (by omega)
theorem f48 (g : S67) (hg : Gr g) (row a by_ : Int) (s : S70) (k : Nat) (hk : 1100000 ≤ k) : F48.f k g row a by_ s = some (sShift g row a by_ s) := by
  unfold F48.f sShift
  rw [f82 g hg s row k (by omega)]
  simp only [Option.bind_some, lt]
  cases hr : rowOk g row s
  · simp [no]
  · obtain ⟨w, q, i, e0, e1, rfl, hw0, hw5, hq5, hi, hlen, hb, hp⟩ := rowOk_size hr
    rw [e0]
    simp only [Bool.not_true, Bool.false_or]
    by_cases c0 : a < 0
    · simp [c0, show ¬ (0 ≤ a) from by omega, no]
    · by_cases c1 : a ≥ (w : Int)
      · simp [c0, c1, show ¬ (a < (w : Int)) from by omega, no]
      · obtain ⟨a, rfl⟩ : ∃ a' : Nat, a = (a' : Int) := ⟨a.toNat, by omega⟩
        simp only [c0, c1, decide_false, Bool.or_self, Bool.false_eq_true, if_false, Option.bind_some]
        rw [f36 g (by omega)]
        simp only [Option.bind_some]
        have hwl : (win g.f2 (i * w) w).length = w := wlen (by omega)
        have h0 := l48 g w q i a by_ s e0 hlen hb hq5 hw5 hi (by omega) hp _ rfl (w - a) k 0 (by omega) (by omega)
        rw [List.take_zero, over_nil, Nat.add_zero] at h0
        rw [h0]
        simp only [Option.bind_some]
        have hsl : (slide ((win g.f2 (i * w) w).drop a) (-by_) (blk s)).length = w - a := by rw [slide_len, List.length_drop]; omega
        have hl1 : (over g.f2 (i * w + a) (slide ((win g.f2 (i * w) w).drop a) (-by_) (blk s))).length = g.f2.length := over_len2 (by omega)
        have hl2 : (over (win g.f2 (i * w) w) a (slide ((win g.f2 (i * w) w).drop a) (-by_) (blk s))).length = w := by rw [shift_len (by omega)]; exact hwl
        have ha2 := at83 (over g.f2 (i * w + a) (slide ((win g.f2 (i * w) w).drop a) (-by_) (blk s))) w q i g.f1 (by rw [hl1]; exact hlen) hb hq5 hi
        rw [if_pos hl1, e0, ha2]
        simp only [Option.bind_some]
        rw [if_pos (by omega), f90 _ (i * w) w (by omega) (by omega) (by omega) k (by omega)]
        simp only [Option.bind_some]
        rw [over_in (n := w) (by omega) (by omega), mend_in (by omega) hl2, if_pos (by rw [over_len2 (by rw [mend_len, hl2]; omega), over_len2 (by rw [hl2]; omega)])]
        have hc : (a : Int) < (w : Int) := by omega
        simp [onRow, e0, hc]
end Go.Proofs.Ytodkeoibebimgaa.GrSp

/- What the deeds on grids come to, 2: write, erase, shift, scroll, new, resize, same. -/
import Derived.Test.YtodkeoibebimgaaGrSp
namespace Go.Proofs.Ytodkeoibebimgaa.GrSp
open Go Go.RowKit Go.Proofs.Ytodkeoibebimgaa.SL Go.Proofs.Ytodkeoibebimgaa.Gr Go.Proofs.Ytodkeoibebimgaa.GrMay Go.Proofs.Ytodkeoibebimgaa.GrLs Go.Proofs.Ytodkeoibebimgaa.GrOp
set_option linter.unusedVariables false
set_option linter.unusedSimpArgs false

/-! ### write -/
theorem l112 (l : List S76) (f : S76 → Bool) (G : S76 → Option Bool) (hG : ∀ x ∈ l, G x = some (f x)) (hl : l.length < 4611686018427387904) : ∀ (m k i : Nat), i + m = l.length → m < k →
    (F112.l0 l G k (i : Int)).bind (fun t => Out.el t (fun r_ => some r_) (fun _ => some (-1))) = some (if (l.drop i).any f = true then ((i + (l.drop i).findIdx f : Nat) : Int) else -1)
  | 0, 0, _, _, hk => by omega
  | 0, k + 1, i, hi, hk => by
    rw [F112.l0, if_neg (by omega), List.drop_of_length_le (by omega)]; simp [el_g]
  | m + 1, 0, _, _, hk => by omega
  | m + 1, k + 1, i, hi, hk => by
    have hi' : i < l.length := by omega
    rw [F112.l0, if_pos (by omega), if_pos (by omega), rd_lt hi', hG _ (List.getElem_mem hi'), List.drop_eq_getElem_cons hi']
    simp only [Option.bind_some]
    cases hf : f l[i]
    · simp only [Bool.false_eq_true, if_false, wsucc (show i < 4611686018427387904 by omega)]
      rw [l112 l f G hG hl m k (i + 1) (by omega) (by omega)]
      simp only [List.any_cons, hf, Bool.false_or, List.findIdx_cons, cond_false]
      split <;> simp <;> omega
    · simp only [if_true, Option.bind_some, el_r, List.any_cons, hf, Bool.true_or, List.findIdx_cons, cond_true, Nat.add_zero]
theorem f85 (l : List S76) (f : S76 → Bool) (G : S76 → Option Bool) (hG : ∀ x ∈ l, G x = some (f x)) (hl : l.length < 4611686018427387904) (k : Nat) (hk : l.length < k) : F85.f k l G = some (l.any f) := by
  unfold F85.f F112.f
  have := l112 l f G hG hl l.length k 0 (by omega) hk
  rw [show (0 : Int) = ((0 : Nat) : Int) from rfl, this]
  simp only [Option.bind_some, List.drop_zero]
  cases l.any f
  · simp
  · simp
theorem f86 (x : S76) (h : 0 ≤ x.f2 ∧ x.f2 < 256) (k : Nat) (hk : 44 ≤ k) : F86.f k x = some (!mayCell x) := by
  unfold F86.f
  rw [f84 x h.1 h.2 k hk]; rfl
def sWrite (g : S67) (row col : Int) (s : S70) (l : List S76) : S67 × Int :=
  if (rowOk g row s && (decide (0 ≤ col) && (decide (col < g.f0) && l.all mayCell))) = true then onRow g row (fun W => over W col.toNat (l.take (g.f0.toNat - col.toNat))) else no
theorem any_not (l : List S76) : (l.any fun x => !mayCell x) = !l.all mayCell := by
  induction l with
  | nil => rfl
  | cons x l ih => simp only [List.any_cons, List.all_cons, ih, Bool.not_and]
theorem f42 (g : S67) (hg : Gr g) (row col : Int) (s : S70) (l : List S76) (hw : ∀ x ∈ l, 0 ≤ x.f2 ∧ x.f2 < 256) (hl : l.length < 4611686018427387904) (k : Nat) (hk : 1100000 + l.length ≤ k) : F42.f k g row col s l = some (sWrite g row col s l) := by
  unfold F42.f sWrite
  rw [f76 g hg row s k (by omega)]
  simp only [Option.bind_some]
  cases hr : rowOk g row s
  · simp [lt, no]
  · obtain ⟨w, q, i, e0, e1, rfl, hw0, hw5, hq5, hi, hlen, hb, hp⟩ := rowOk_size hr
    simp only [if_true]
    rw [show (i : Int) * g.f0 = ((i * w : Nat) : Int) from by rw [e0]; simp, e0, if_pos (by omega)]
    simp only [lt, Bool.not_true, Bool.false_or]
    by_cases c0 : col < 0
    · simp [c0, show ¬ (0 ≤ col) from by omega, no]
    · by_cases c1 : col ≥ (w : Int)
      · simp [c0, c1, show ¬ (col < (w : Int)) from by omega, no]
      · have hG := f85 l (fun x => !mayCell x) (fun x0_ => F86.f k x0_) (fun x hx => f86 x (hw x hx) k (by omega)) hl k (by omega)
        obtain ⟨a, rfl⟩ : ∃ a : Nat, col = (a : Int) := ⟨col.toNat, by omega⟩
        simp only [c0, c1, decide_false, Bool.or_self, Bool.false_eq_true, if_false, Option.bind_some]
        rw [hG, any_not]
        cases hall : l.all mayCell
        · simp [no, hall]
        · simp only [Option.bind_some, Bool.not_true, Bool.false_eq_true, if_false]
          rw [f87 g.f2 (i * w) w a l (by omega) (by omega) (by omega) k (by omega)]
          simp only [Option.bind_some]
          have hl1 : (over g.f2 (i * w) (mendL (over (win g.f2 (i * w) w) a (l.take (w - a))))).length = g.f2.length := over_len2 (by rw [mend_len, over_len2 (by rw [List.length_take, wlen (by omega)]; omega), wlen (by omega)]; omega)
          rw [if_pos hl1]
          have hc : (a : Int) < (w : Int) := by omega
          simp [onRow, e0, hc]
theorem l46 (l : List S76) (hw : ∀ x ∈ l, 0 ≤ x.f2 ∧ x.f2 < 256) (hl : l.length < 4611686018427387904) (z : S67) : ∀ (m k i : Nat), i + m = l.length → m + 44 < k →
    F46.l0 l k z (i : Int) = some (if (l.drop i).all mayCell = true then Out.go z else Out.ret no)
  | 0, 0, _, _, hk => by omega
  | 0, k + 1, i, hi, hk => by
    rw [F46.l0, if_neg (by omega), List.drop_of_length_le (by omega)]; simp
  | m + 1, 0, _, _, hk => by omega
  | m + 1, k + 1, i, hi, hk => by
    have hi' : i < l.length := by omega
    have hx := hw _ (List.getElem_mem hi')
    rw [F46.l0, if_pos (by omega), if_pos (by omega), rd_lt hi', f68 _ hx.1 hx.2 k (by omega), List.drop_eq_getElem_cons hi']
    simp only [Option.bind_some, lt]
    cases hf : mayCell l[i]
    · simp only [List.all_cons, hf, Bool.false_and, Bool.not_false, if_true, Bool.false_eq_true, if_false, no]
    · simp only [Bool.not_true, Bool.false_eq_true, if_false, wsucc (show i < 4611686018427387904 by omega)]
      rw [l46 l hw hl z m k (i + 1) (by omega) (by omega)]
      simp only [List.all_cons, hf, Bool.true_and]
theorem f46 (g : S67) (hg : Gr g) (row col : Int) (s : S70) (l : List S76) (hw : ∀ x ∈ l, 0 ≤ x.f2 ∧ x.f2 < 256) (hl : l.length < 4611686018427387904) (k : Nat) (hk : 1100000 + l.length ≤ k) : F46.f k g row col s l = some (sWrite g row col s l) := by
  unfold F46.f sWrite
  rw [f82 g hg s row k (by omega)]
  simp only [Option.bind_some, lt]
  cases hr : rowOk g row s
  · simp [no]
  · obtain ⟨w, q, i, e0, e1, rfl, hw0, hw5, hq5, hi, hlen, hb, hp⟩ := rowOk_size hr
    rw [e0]
    simp only [Bool.not_true, Bool.false_or]
    by_cases c0 : col < 0
    · simp [c0, show ¬ (0 ≤ col) from by omega, no]
    · by_cases c1 : col ≥ (w : Int)
      · simp [c0, c1, show ¬ (col < (w : Int)) from by omega, no]
      · obtain ⟨a, rfl⟩ : ∃ a : Nat, col = (a : Int) := ⟨col.toNat, by omega⟩
        simp only [c0, c1, decide_false, Bool.or_self, Bool.false_eq_true, if_false, Option.bind_some]
        have h0 := l46 l hw hl (S67.mk 0 0 []) l.length k 0 (by omega) (by omega)
        rw [show (0 : Int) = ((0 : Nat) : Int) from rfl] at h0 ⊢
        rw [h0, List.drop_zero]
        cases hall : l.all mayCell
        · simp [no, hall, el_r]
        · simp only [Option.bind_some, if_true, el_g]
          rw [f36 g (by omega)]
          simp only [Option.bind_some]
          have ha := at83 g.f2 w q i g.f1 hlen hb hq5 hi
          rw [← e0] at ha
          rw [show F83b0.f g (i : Int) = some (((i * w : Nat) : Int), g.f0) from ha]
          simp only [Option.bind_some]
          rw [e0, if_pos (by omega), if_pos (by omega), show (((i * w : Nat) : Int) + (a : Int)).toNat = i * w + a from by omega, show ((w : Int) - (a : Int)).toNat = w - a from by omega]
          have ht : (l.take (w - a)).length ≤ w - a := by rw [List.length_take]; omega
          have hl2 : (over (win g.f2 (i * w) w) a (l.take (w - a))).length = w := by rw [over_len2 (by rw [wlen (by omega)]; omega), wlen (by omega)]
          have hl1 : (over g.f2 (i * w + a) (l.take (w - a))).length = g.f2.length := over_len2 (by omega)
          have ha2 := at83 (over g.f2 (i * w + a) (l.take (w - a))) w q i g.f1 (by rw [hl1]; exact hlen) hb hq5 hi
          rw [ha2]
          simp only [Option.bind_some]
          rw [if_pos (by omega), f90 _ (i * w) w (by omega) (by omega) (by omega) k (by omega)]
          simp only [Option.bind_some]
          rw [over_in (n := w) (by omega) (by omega), mend_in (by omega) hl2, if_pos (by rw [over_len2 (by rw [mend_len, hl2]; omega), over_len2 (by rw [hl2]; omega)])]
          have hc : (a : Int) < (w : Int) := by omega
          simp [onRow, e0, hc]

/-! ### erase -/
def sErase (g : S67) (row a b : Int) (s : S70) : S67 × Int :=
  if (rowOk g row s && (decide (0 ≤ a) && (decide (a ≤ b) && decide (b ≤ g.f0)))) = true then onRow g row (fun W => over W a.toNat (List.replicate (b.toNat - a.toNat) (blk s))) else no
theorem f37 (g : S67) (hg : Gr g) (row a b : Int) (s : S70) (k : Nat) (hk : 1100000 ≤ k) : F37.f k g row a b s = some (sErase g row a b s) := by
  unfold F37.f sErase
  rw [f76 g hg row s k (by omega)]
  simp only [Option.bind_some]
  cases hr : rowOk g row s
  · simp [lt, no]
  · obtain ⟨w, q, i, e0, e1, rfl, hw0, hw5, hq5, hi, hlen, hb, hp⟩ := rowOk_size hr
    simp only [if_true]
    rw [show (i : Int) * g.f0 = ((i * w : Nat) : Int) from by rw [e0]; simp, e0, if_pos (by omega)]
    simp only [lt, Bool.not_true, Bool.false_or]
    by_cases c0 : a < 0
    · simp [c0, show ¬ (0 ≤ a) from by omega, no]
    · by_cases c1 : a > b
      · simp [c0, c1, show ¬ (a ≤ b) from by omega, no]
      · by_cases c2 : b > (w : Int)
        · simp [c0, c1, c2, show ¬ (b ≤ (w : Int)) from by omega, no]
        · obtain ⟨a, rfl⟩ : ∃ a' : Nat, a = (a' : Int) := ⟨a.toNat, by omega⟩
          obtain ⟨b, rfl⟩ : ∃ b' : Nat, b = (b' : Int) := ⟨b.toNat, by omega⟩
          simp only [c0, c1, c2, decide_false, Bool.or_self, Bool.false_eq_true, if_false, Option.bind_some]
          rw [f77 g.f2 (i * w) w a b s (by omega) (by omega) (by omega) (by omega) k (by omega)]
          simp only [Option.bind_some]
          have hl1 : (over g.f2 (i * w) (mendL (over (win g.f2 (i * w) w) a (List.replicate (b - a) (blk s))))).length = g.f2.length := over_len2 (by rw [mend_len, over_len2 (by rw [wlen (by omega)]; simp; omega), wlen (by omega)]; omega)
          rw [if_pos hl1]
          have hc : (a : Int) ≤ (b : Int) := by omega
          have hc2 : (b : Int) ≤ (w : Int) := by omega
          simp [onRow, e0, hc, hc2]
theorem l47 (g : S67) (w q i b : Nat) (s : S70) (a : Nat) (e0 : g.f0 = (w : Int)) (hlen : g.f2.length = w * q) (hb : w * q ≤ 262144) (hq5 : q ≤ 512) (hi : i < q) (hbw : b ≤ w) (hp : i * w + w ≤ g.f2.length) : ∀ (m k j : Nat), a + j + m = b → m < k →
    F47.l0 (i : Int) (b : Int) s g k ((a + j : Nat) : Int) (over g.f2 (i * w + a) (List.replicate j (blk s))) = some (over g.f2 (i * w + a) (List.replicate (b - a) (blk s)))
  | 0, 0, _, _, hk => by omega
  | 0, k + 1, j, hj, hk => by
    rw [F47.l0, if_pos (over_len2 (by simp; omega)), if_neg (by omega), show b - a = j from by omega]
  | m + 1, 0, _, _, hk => by omega
  | m + 1, k + 1, j, hj, hk => by
    have hl1 : (over g.f2 (i * w + a) (List.replicate j (blk s))).length = g.f2.length := over_len2 (by simp; omega)
    have ha := at83 (over g.f2 (i * w + a) (List.replicate j (blk s))) w q i g.f1 (by rw [hl1]; exact hlen) hb hq5 hi
    rw [F47.l0, if_pos hl1, if_pos (by omega), e0, ha]
    simp only [Option.bind_some]
    rw [if_pos (by omega), f70]
    simp only [Option.bind_some, lt]
    rw [if_pos (by omega), wsucc (by omega), show (((i * w : Nat) : Int) + ((a + j : Nat) : Int)).toNat = i * w + a + (List.replicate j (blk s)).length from by simp; omega, over_set (by simp; omega), ← List.replicate_succ']
    exact l47 g w q i b s a e0 hlen hb hq5 hi hbw hp m k (j + 1) (by omega) (by omega)
theorem f47 (g : S67) (hg : Gr g) (row a b : Int) (s : S70) (k : Nat) (hk : 1100000 ≤ k) : F47.f k g row a b s = some (sErase g row a b s) := by
  unfold F47.f sErase
  rw [f82 g hg s row k (by omega)]
  simp only [Option.bind_some, lt]
  cases hr : rowOk g row s
  · simp [no]
  · obtain ⟨w, q, i, e0, e1, rfl, hw0, hw5, hq5, hi, hlen, hb, hp⟩ := rowOk_size hr
    rw [e0]
    simp only [Bool.not_true, Bool.false_or]
    by_cases c0 : a < 0
    · simp [c0, show ¬ (0 ≤ a) from by omega, no]
    · by_cases c1 : a > b
      · simp [c0, c1, show ¬ (a ≤ b) from by omega, no]
      · by_cases c2 : b > (w : Int)
        · simp [c0, c1, c2, show ¬ (b ≤ (w : Int)) from by omega, no]
        · obtain ⟨a, rfl⟩ : ∃ a' : Nat, a = (a' : Int) := ⟨a.toNat, by omega⟩
          obtain ⟨b, rfl⟩ : ∃ b' : Nat, b = (b' : Int) := ⟨b.toNat, by omega⟩
          simp only [c0, c1, c2, decide_false, Bool.or_self, Bool.false_eq_true, if_false, Option.bind_some]
          rw [f36 g (by omega)]
          simp only [Option.bind_some]
          have h0 := l47 g w q i b s a e0 hlen hb hq5 hi (by omega) hp (b - a) k 0 (by omega) (by omega)
          rw [List.replicate_zero, over_nil, Nat.add_zero] at h0
          rw [h0]
          simp only [Option.bind_some]
          have hl1 : (over g.f2 (i * w + a) (List.replicate (b - a) (blk s))).length = g.f2.length := over_len2 (by simp; omega)
          have hl2 : (over (win g.f2 (i * w) w) a (List.replicate (b - a) (blk s))).length = w := by rw [over_len2 (by rw [wlen (by omega)]; simp; omega), wlen (by omega)]
          have ha2 := at83 (over g.f2 (i * w + a) (List.replicate (b - a) (blk s))) w q i g.f1 (by rw [hl1]; exact hlen) hb hq5 hi
          rw [if_pos hl1, e0, ha2]
          simp only [Option.bind_some]
          rw [if_pos (by omega), f90 _ (i * w) w (by omega) (by omega) (by omega) k (by omega)]
          simp only [Option.bind_some]
          rw [over_in (n := w) (by simp; omega) (by omega), mend_in (by omega) hl2, if_pos (by rw [over_len2 (by rw [mend_len, hl2]; omega), over_len2 (by rw [hl2]; omega)])]
          have hc : (a : Int) ≤ (b : Int) := by omega
          have hc2 : (b : Int) ≤ (w : Int) := by omega
          simp [onRow, e0, hc, hc2]
end Go.Proofs.Ytodkeoibebimgaa.GrSp

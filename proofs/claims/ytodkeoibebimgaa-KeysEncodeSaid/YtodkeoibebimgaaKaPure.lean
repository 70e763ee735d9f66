/- The plain law of KeysEncode: what the walked functions compute answers as the statement says. -/
import Derived.Test.YtodkeoibebimgaaKa
import Derived.Test.YtodkeoibebimgaaSlP
namespace Go.Proofs.Ytodkeoibebimgaa.KaPure
open Go Go.RowKit Go.Proofs.Ytodkeoibebimgaa.SL Go.Proofs.Ytodkeoibebimgaa.Ka
set_option linter.unusedVariables false
set_option linter.unusedSimpArgs false

/-- Clean bytes. -/
def cl : List Int → List Int
  | [] => []
  | c :: r => if c = 27 ∨ c = 155 then cl r else if c = 10 then 13 :: cl r else c :: cl r
theorem cl_len : ∀ l : List Int, (cl l).length ≤ l.length
  | [] => Nat.le_refl _
  | c :: r => by
    have := cl_len r
    unfold cl
    split
    · simp; omega
    · split <;> simp <;> omega

theorem l17 (l : List Int) (hL : l.length ≤ 140737488351232) : ∀ (n k : Nat) (acc : List Int) (i : Nat), i + n = l.length → n < k → acc.length ≤ i → F17.l0 l k acc (i : Int) = some (acc ++ cl (l.drop i))
  | 0, k + 1, acc, i, h, _, _ => by
    rw [F17.l0, if_neg (by omega), List.drop_of_length_le (by omega)]; simp [cl]
  | n + 1, k + 1, acc, i, h, hk, ha => by
    have hi : i < l.length := by omega
    have ew : IntKind.i64.wrap ((i : Int) + 1) = ((i + 1 : Nat) : Int) := by rw [w64 (by omega) (by omega)]; rfl
    have ih := fun acc ha => l17 l hL n k acc (i + 1) (by omega) (by omega) ha
    rw [F17.l0, if_pos (by omega), if_pos (by omega), rd_lt hi, List.drop_eq_getElem_cons hi]
    simp only [lt, ew, cl]
    by_cases h1 : l[i] = 27
    · rw [if_pos h1, if_pos (Or.inl h1)]
      simp only [Option.bind_some, h1, decide_true, if_true]
      exact ih acc (by omega)
    · rw [if_neg h1]
      by_cases h2 : l[i] = 155
      · rw [if_pos (Or.inr h2)]
        simp only [Option.bind_some, h2, decide_true, if_true]
        exact ih acc (by omega)
      · have hn : ¬ (l[i] = 27 ∨ l[i] = 155) := fun h => h.elim h1 h2
        rw [if_neg hn]
        simp only [Option.bind_some, h2, decide_false, Bool.false_eq_true, if_false]
        by_cases h3 : l[i] = 10
        · rw [if_pos h3, if_pos h3, if_pos (by simp; omega), ih _ (by simp; omega)]; simp
        · rw [if_neg h3, if_neg h3, if_pos (by simp; omega), ih _ (by simp; omega)]; simp
  | 0, 0, _, _, _, h, _ => by omega
  | n + 1, 0, _, _, _, h, _ => by omega
theorem f17 (l : List Int) (hL : l.length ≤ 140737488351232) (k : Nat) (hk : l.length < k) : F17.f k l = some (cl l) := by
  unfold F17.f
  have := l17 l hL l.length k [] 0 (by omega) hk (by simp)
  rw [show ((0 : Nat) : Int) = 0 from rfl] at this
  rw [this]; simp

theorem l18 (l : List Int) (hL : l.length ≤ 140737488351232) : ∀ (n k : Nat) (acc : List Int) (i : Nat), i + n = l.length → n < k → acc.length ≤ i → F18.l0 l k acc (i : Int) = some (acc ++ cl (l.drop i))
  | 0, k + 1, acc, i, h, _, _ => by
    rw [F18.l0, if_neg (by omega), List.drop_of_length_le (by omega)]; simp [cl]
  | n + 1, k + 1, acc, i, h, hk, ha => by
    have hi : i < l.length := by omega
    have ew : IntKind.i64.wrap ((i : Int) + 1) = ((i + 1 : Nat) : Int) := by rw [w64 (by omega) (by omega)]; rfl
    have ih := fun acc ha => l18 l hL n k acc (i + 1) (by omega) (by omega) ha
    rw [F18.l0, if_pos (by omega), if_pos (by omega), rd_lt hi, List.drop_eq_getElem_cons hi]
    simp only [lt, ew, cl]
    by_cases h1 : l[i] = 27
    · rw [if_pos h1, if_pos (Or.inl h1)]
      simp only [Option.bind_some, h1, decide_true, if_true]
      exact ih acc (by omega)
    · rw [if_neg h1]
      by_cases h2 : l[i] = 155
      · rw [if_pos (Or.inr h2)]
        simp only [Option.bind_some, h2, decide_true, if_true]
        exact ih acc (by omega)
      · have hn : ¬ (l[i] = 27 ∨ l[i] = 155) := fun h => h.elim h1 h2
        rw [if_neg hn]
        simp only [Option.bind_some, h2, decide_false, Bool.false_eq_true, if_false]
        by_cases h3 : l[i] = 10
        · rw [if_pos h3, if_pos h3, if_pos (by simp; omega), ih _ (by simp; omega)]; simp
        · rw [if_neg h3, if_neg h3, if_pos (by omega), if_pos (by simp; omega), ih _ (by simp; omega)]; simp
  | 0, 0, _, _, _, h, _ => by omega
  | n + 1, 0, _, _, _, h, _ => by omega
theorem f18 (l : List Int) (hL : l.length ≤ 140737488351232) (k : Nat) (hk : l.length < k) : F18.f k l = some (cl l) := by
  unfold F18.f
  have := l18 l hL l.length k [] 0 (by omega) hk (by simp)
  rw [show ((0 : Nat) : Int) = 0 from rfl] at this
  rw [this]; simp

theorem over_zero (a b : List Int) : over (List.replicate (a.length + b.length) (0 : Int)) 0 (a.take (a.length + b.length)) = a ++ List.replicate b.length 0 := by
  unfold over
  rw [List.take_of_length_le (l := a) (by omega), List.take_zero, List.nil_append, List.drop_replicate]
  congr 2; omega
theorem over_tail (a b c : List Int) (h : c.length = b.length) : over (a ++ c) a.length b = a ++ b := by
  unfold over
  rw [List.take_left, List.drop_of_length_le (by simp; omega), List.append_nil]
theorem f58 (a b : List Int) (h : a.length + b.length ≤ 140737488355328) : F58.f a b = some (a ++ b) := by
  have ew : IntKind.i64.wrap ((a.length : Int) + (b.length : Int)) = ((a.length + b.length : Nat) : Int) := by rw [w64 (by omega) (by omega)]; simp
  have em : minI (a.length : Int) ((a.length + b.length : Nat) : Int) = a.length := by rw [minI_eq]; omega
  have et := over_tail a b (List.replicate b.length 0) (by simp)
  have eb : b.take (a.length + b.length - a.length) = b := List.take_of_length_le (by omega)
  unfold F58.f
  rw [ew]
  simp only [lt, Int.toNat_natCast, List.length_replicate, over_zero, List.length_append, em, eb, et]
  rw [if_pos (by omega), if_pos (by omega)]

/-- Which events may be. -/
def may (x : S25) : Bool :=
  if x.f0 = 1 then decide (x.f2 = 0) && decide (x.f3 = 0) && decide (x.f4 = 0) && decide (1 ≤ x.f1.length) && decide (x.f1.length ≤ 4096)
  else if x.f0 = 3 then decide (x.f2 = 0) && decide (x.f3 = 0) && decide (x.f4 = 0) && decide (x.f1.length ≤ 4096)
  else if x.f0 = 2 then decide (x.f4 = 0) && decide (x.f1.length = 0) && decide (1 ≤ x.f2) && decide (x.f2 ≤ 512) && decide (1 ≤ x.f3) && decide (x.f3 ≤ 512)
  else if x.f0 = 4 then decide (x.f2 = 0) && decide (x.f3 = 0) && decide (x.f1.length = 0) && decide (65 ≤ x.f4) && decide (x.f4 ≤ 68)
  else false
theorem f57 (x : S25) : F57.f x = some (may x) := by
  unfold F57.f may
  simp only [lt]
  by_cases h1 : x.f0 = 1
  · rw [if_pos h1, if_pos h1]; congr 1; rw [Bool.eq_iff_iff]; simp only [Bool.and_eq_true, decide_eq_true_eq]; omega
  · rw [if_neg h1, if_neg h1]
    by_cases h2 : x.f0 = 3
    · rw [if_pos h2, if_pos h2]; congr 1; rw [Bool.eq_iff_iff]; simp only [Bool.and_eq_true, decide_eq_true_eq]; omega
    · rw [if_neg h2, if_neg h2]
      by_cases h3 : x.f0 = 2
      · rw [if_pos h3, if_pos h3]; congr 1; rw [Bool.eq_iff_iff]; simp only [Bool.and_eq_true, decide_eq_true_eq]; omega
      · rw [if_neg h3, if_neg h3]
        by_cases h4 : x.f0 = 4
        · rw [if_pos h4, if_pos h4]; congr 1; rw [Bool.eq_iff_iff]; simp only [Bool.and_eq_true, decide_eq_true_eq]; omega
        · rw [if_neg h4, if_neg h4]
theorem f59 (x : S25) : F59.f x = some (may x) := by
  unfold F59.f may
  simp only [lt]
  by_cases h1 : x.f0 = 1
  · rw [if_pos h1, if_pos h1]; congr 1; rw [Bool.eq_iff_iff]; simp only [Bool.and_eq_true, decide_eq_true_eq]; omega
  · rw [if_neg h1, if_neg h1]
    by_cases h3 : x.f0 = 2
    · have h2 : ¬ x.f0 = 3 := by omega
      rw [if_pos h3, if_neg h2, if_pos h3]; congr 1; rw [Bool.eq_iff_iff]; simp only [Bool.and_eq_true, decide_eq_true_eq]; omega
    · rw [if_neg h3]
      by_cases h2 : x.f0 = 3
      · rw [if_pos h2, if_pos h2]; congr 1; rw [Bool.eq_iff_iff]; simp only [Bool.and_eq_true, decide_eq_true_eq]; omega
      · rw [if_neg h2, if_neg h2, if_neg h3]
        by_cases h4 : x.f0 = 4
        · rw [if_pos h4, if_pos h4]; congr 1; rw [Bool.eq_iff_iff]; simp only [Bool.and_eq_true, decide_eq_true_eq]; omega
        · rw [if_neg h4, if_neg h4]

/-- What an event's bytes are. -/
def encE (x : S25) (a p : Bool) : List Int × Int :=
  if may x = false then ([], 2) else if x.f0 = 1 then (x.f1, 0) else if x.f0 = 4 then (if a = true then ([27, 79, x.f4], 0) else ([27, 91, x.f4], 0))
  else if x.f0 = 3 then (if p = true then ([27, 91, 50, 48, 48, 126] ++ cl x.f1 ++ [27, 91, 50, 48, 49, 126], 0) else (cl x.f1, 0)) else ([], 0)

theorem f14 (x : S25) (a p : Bool) (hL : x.f1.length ≤ 140737488351232) (k : Nat) (hk : x.f1.length < k) : F14.f k x a p = some (encE x a p) := by
  unfold F14.f encE
  rw [f57, f17 _ hL k hk]
  have hc := cl_len x.f1
  have e58 := f58 [] x.f1 (by simp; omega)
  have e1 := f58 [27, 91, 50, 48, 48, 126] (cl x.f1) (by simp; omega)
  have e2 := f58 ([27, 91, 50, 48, 48, 126] ++ cl x.f1) [27, 91, 50, 48, 49, 126] (by simp; omega)
  simp only [Option.bind_some, lt, e58, e1, e2, List.nil_append]
  cases hm : may x with
  | false => simp
  | true =>
    by_cases h1 : x.f0 = 1
    · simp [h1]
    · by_cases h4 : x.f0 = 4
      · cases a <;> simp [h4]
      · by_cases h3 : x.f0 = 3
        · cases p <;> simp [h3]
        · simp [h1, h3, h4]
theorem f15 (x : S25) (a p : Bool) (hL : x.f1.length ≤ 140737488351232) (k : Nat) (hk : x.f1.length < k) : F15.f k x a p = some (encE x a p) := by
  unfold F15.f encE
  rw [f59, f18 _ hL k hk]
  have hc := cl_len x.f1
  have hb : bytesOf (⟨#[27, 91, 50, 48, 49, 126]⟩ : ByteArray) = [27, 91, 50, 48, 49, 126] := by decide
  simp only [Option.bind_some, lt, hb, List.nil_append]
  rw [if_pos (c := ([] : List Int).length + x.f1.length ≤ 140737488355328) (by simp; omega)]
  rw [if_pos (c := ([27, 91, 50, 48, 48, 126] : List Int).length + (cl x.f1).length ≤ 140737488355328) (by simp; omega)]
  rw [if_pos (c := ([27, 91, 50, 48, 48, 126] ++ cl x.f1 : List Int).length + ([27, 91, 50, 48, 49, 126] : List Int).length ≤ 140737488355328) (by simp; omega)]
  cases hm : may x with
  | false => simp
  | true =>
    by_cases h1 : x.f0 = 1
    · simp [h1]
    · by_cases h4 : x.f0 = 4
      · cases a <;> simp [h4]
      · by_cases h3 : x.f0 = 3
        · cases p <;> simp [h3]
        · simp [h1, h3, h4]

theorem anchored (k : Nat) (hk : 10 < k) : F19.f k = some true := by
  unfold F19.f
  rw [f14 _ _ _ (by simp) k (by simp; omega), f14 _ _ _ (by simp) k (by simp; omega), f14 _ _ _ (by simp) k (by simp; omega)]
  have e1 : encE (S25.mk 4 ([] : List Int) 0 0 65) false false = ([27, 91, 65], 0) := by decide
  have e2 : encE (S25.mk 4 ([] : List Int) 0 0 65) true false = ([27, 79, 65], 0) := by decide
  have e3 : encE (S25.mk 3 ([97, 27, 98, 10] : List Int) 0 0 0) false true = ([27, 91, 50, 48, 48, 126, 97, 98, 13, 27, 91, 50, 48, 49, 126], 0) := by decide
  rw [e1, e2, e3]
  simp [lt, F16.f]

theorem law (x : S25) (m : S27) (b : List Int) (hx : x.f1.length ≤ 140737488351232) (hb : b.length ≤ 140737488351232) : ∃ k, F3.f k x m b = some true := by
  refine ⟨x.f1.length + b.length + 20, ?_⟩
  unfold F3.f
  rw [f14 x _ _ hx _ (by omega), f15 x _ _ hx _ (by omega), f17 b hb _ (by omega), f18 b hb _ (by omega), anchored _ (by omega)]
  simp [lt, F16.f]
theorem row (x0 : S25) (x1 : S27) (x2 : List Int)
    (w0 : (Lit.int .u8 x0.f0).wf = true ∧ (x0.f1.length * 1 ≤ 140737488351232 ∧ ∀ y ∈ x0.f1, (Lit.int .u8 y).wf = true) ∧ (Lit.int .i64 x0.f2).wf = true ∧ (Lit.int .i64 x0.f3).wf = true ∧ (Lit.int .u8 x0.f4).wf = true)
    (w1 : True ∧ True) (w2 : x2.length * 1 ≤ 140737488351232 ∧ ∀ y ∈ x2, (Lit.int .u8 y).wf = true) : ∃ k, F3.f k x0 x1 x2 = some true :=
  law x0 x1 x2 (by have := w0.2.1.1; omega) (by have := w2.1; omega)
end Go.Proofs.Ytodkeoibebimgaa.KaPure

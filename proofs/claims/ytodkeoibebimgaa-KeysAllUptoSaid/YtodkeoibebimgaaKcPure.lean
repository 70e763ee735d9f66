/- The plain law of KeysAll: what the walked functions compute answers as the statement says, where what comes in is of bulk at most 2^20. -/
import Derived.Test.YtodkeoibebimgaaKcScr
namespace Go.Proofs.Ytodkeoibebimgaa.KcPure
open Go Go.RowKit Go.Proofs.Ytodkeoibebimgaa.SL Go.Proofs.Ytodkeoibebimgaa.Kc Go.Proofs.Ytodkeoibebimgaa.KcMay
set_option linter.unusedVariables false
set_option linter.unusedSimpArgs false

/-- Clean bytes. -/
def cl : List Int → List Int
  | [] => []
  | c :: r => if c = 27 ∨ c = 155 then cl r else if c = 10 then 13 :: cl r else c :: cl r
theorem cl_len : ∀ l : List Int, (cl l).length ≤ l.length
  | [] => Nat.le_refl _
  | c :: r => by
    have := cl_len r
    unfold cl
    split
    · simp; omega
    · split <;> simp <;> omega

theorem l17 (l : List Int) (hL : l.length ≤ 140737488351232) : ∀ (n k : Nat) (acc : List Int) (i : Nat), i + n = l.length → n < k → acc.length ≤ i → F17.l0 l k acc (i : Int) = some (acc ++ cl (l.drop i))
  | 0, k + 1, acc, i, h, _, _ => by
    rw [F17.l0, if_neg (by omega), List.drop_of_length_le (by omega)]; simp [cl]
  | n + 1, k + 1, acc, i, h, hk, ha => by
    have hi : i < l.length := by omega
    have ew : IntKind.i64.wrap ((i : Int) + 1) = ((i + 1 : Nat) : Int) := by rw [w64 (by omega) (by omega)]; rfl
    have ih := fun acc ha => l17 l hL n k acc (i + 1) (by omega) (by omega) ha
    rw [F17.l0, if_pos (by omega), if_pos (by omega), rd_lt hi, List.drop_eq_getElem_cons hi]
    simp only [lt, ew, cl]
    by_cases h1 : l[i] = 27
    · rw [if_pos h1, if_pos (Or.inl h1)]
      simp only [Option.bind_some, h1, decide_true, if_true]
      exact ih acc (by omega)
    · rw [if_neg h1]
      by_cases h2 : l[i] = 155
      · rw [if_pos (Or.inr h2)]
        simp only [Option.bind_some, h2, decide_true, if_true]
        exact ih acc (by omega)
      · have hn : ¬ (l[i] = 27 ∨ l[i] = 155) := fun h => h.elim h1 h2
        rw [if_neg hn]
        simp only [Option.bind_some, h2, decide_false, Bool.false_eq_true, if_false]
        by_cases h3 : l[i] = 10
        · rw [if_pos h3, if_pos h3, if_pos (by simp; omega), ih _ (by simp; omega)]; simp
        · rw [if_neg h3, if_neg h3, if_pos (by simp; omega), ih _ (by simp; omega)]; simp
  | 0, 0, _, _, _, h, _ => by omega
  | n + 1, 0, _, _, _, h, _ => by omega
theorem f17 (l : List Int) (hL : l.length ≤ 140737488351232) (k : Nat) (hk : l.length < k) : F17.f k l = some (cl l) := by
  unfold F17.f
  have := l17 l hL l.length k [] 0 (by omega) hk (by simp)
  rw [show ((0 : Nat) : Int) = 0 from rfl] at this
  rw [this]; simp

theorem l18 (l : List Int) (hL : l.length ≤ 140737488351232) : ∀ (n k : Nat) (acc : List Int) (i : Nat), i + n = l.length → n < k → acc.length ≤ i → F18.l0 l k acc (i : Int) = some (acc ++ cl (l.drop i))
  | 0, k + 1, acc, i, h, _, _ => by
    rw [F18.l0, if_neg (by omega), List.drop_of_length_le (by omega)]; simp [cl]
  | n + 1, k + 1, acc, i, h, hk, ha => by
    have hi : i < l.length := by omega
    have ew : IntKind.i64.wrap ((i : Int) + 1) = ((i + 1 : Nat) : Int) := by rw [w64 (by omega) (by omega)]; rfl
    have ih := fun acc ha => l18 l hL n k acc (i + 1) (by omega) (by omega) ha
    rw [F18.l0, if_pos (by omega), if_pos (by omega), rd_lt hi, List.drop_eq_getElem_cons hi]
    simp only [lt, ew, cl]
    by_cases h1 : l[i] = 27
    · rw [if_pos h1, if_pos (Or.inl h1)]
      simp only [Option.bind_some, h1, decide_true, if_true]
      exact ih acc (by omega)
    · rw [if_neg h1]
      by_cases h2 : l[i] = 155
      · rw [if_pos (Or.inr h2)]
        simp only [Option.bind_some, h2, decide_true, if_true]
        exact ih acc (by omega)
      · have hn : ¬ (l[i] = 27 ∨ l[i] = 155) := fun h => h.elim h1 h2
        rw [if_neg hn]
        simp only [Option.bind_some, h2, decide_false, Bool.false_eq_true, if_false]
        by_cases h3 : l[i] = 10
        · rw [if_pos h3, if_pos h3, if_pos (by simp; omega), ih _ (by simp; omega)]; simp
        · rw [if_neg h3, if_neg h3, if_pos (by omega), if_pos (by simp; omega), ih _ (by simp; omega)]; simp
  | 0, 0, _, _, _, h, _ => by omega
  | n + 1, 0, _, _, _, h, _ => by omega
theorem f18 (l : List Int) (hL : l.length ≤ 140737488351232) (k : Nat) (hk : l.length < k) : F18.f k l = some (cl l) := by
  unfold F18.f
  have := l18 l hL l.length k [] 0 (by omega) hk (by simp)
  rw [show ((0 : Nat) : Int) = 0 from rfl] at this
  rw [this]; simp

theorem over_zero (a b : List Int) : over (List.replicate (a.length + b.length) (0 : Int)) 0 (a.take (a.length + b.length)) = a ++ List.replicate b.length 0 := by
  unfold over
  rw [List.take_of_length_le (l := a) (by omega), List.take_zero, List.nil_append, List.drop_replicate]
  congr 2; omega
theorem over_tail (a b c : List Int) (h : c.length = b.length) : over (a ++ c) a.length b = a ++ b := by
  unfold over
  rw [List.take_left, List.drop_of_length_le (by simp; omega), List.append_nil]
theorem f58 (a b : List Int) (h : a.length + b.length ≤ 140737488355328) : F58.f a b = some (a ++ b) := by
  have ew : IntKind.i64.wrap ((a.length : Int) + (b.length : Int)) = ((a.length + b.length : Nat) : Int) := by rw [w64 (by omega) (by omega)]; simp
  have em : minI (a.length : Int) ((a.length + b.length : Nat) : Int) = a.length := by rw [minI_eq]; omega
  have et := over_tail a b (List.replicate b.length 0) (by simp)
  have eb : b.take (a.length + b.length - a.length) = b := List.take_of_length_le (by omega)
  unfold F58.f
  rw [ew]
  simp only [lt, Int.toNat_natCast, List.length_replicate, over_zero, List.length_append, em, eb, et]
  rw [if_pos (by omega), if_pos (by omega)]

/-- Which events may be. -/
def may (x : S25) : Bool :=
  if x.f0 = 1 then decide (x.f2 = 0) && decide (x.f3 = 0) && decide (x.f4 = 0) && decide (1 ≤ x.f1.length) && decide (x.f1.length ≤ 4096)
  else if x.f0 = 3 then decide (x.f2 = 0) && decide (x.f3 = 0) && decide (x.f4 = 0) && decide (x.f1.length ≤ 4096)
  else if x.f0 = 2 then decide (x.f4 = 0) && decide (x.f1.length = 0) && decide (1 ≤ x.f2) && decide (x.f2 ≤ 512) && decide (1 ≤ x.f3) && decide (x.f3 ≤ 512)
  else if x.f0 = 4 then decide (x.f2 = 0) && decide (x.f3 = 0) && decide (x.f1.length = 0) && decide (65 ≤ x.f4) && decide (x.f4 ≤ 68)
  else false
theorem f57 (x : S25) : F57.f x = some (may x) := by
  unfold F57.f may
  simp only [lt]
  by_cases h1 : x.f0 = 1
  · rw [if_pos h1, if_pos h1]; congr 1; rw [Bool.eq_iff_iff]; simp only [Bool.and_eq_true, decide_eq_true_eq]; omega
  · rw [if_neg h1, if_neg h1]
    by_cases h2 : x.f0 = 3
    · rw [if_pos h2, if_pos h2]; congr 1; rw [Bool.eq_iff_iff]; simp only [Bool.and_eq_true, decide_eq_true_eq]; omega
    · rw [if_neg h2, if_neg h2]
      by_cases h3 : x.f0 = 2
      · rw [if_pos h3, if_pos h3]; congr 1; rw [Bool.eq_iff_iff]; simp only [Bool.and_eq_true, decide_eq_true_eq]; omega
      · rw [if_neg h3, if_neg h3]
        by_cases h4 : x.f0 = 4
        · rw [if_pos h4, if_pos h4]; congr 1; rw [Bool.eq_iff_iff]; simp only [Bool.and_eq_true, decide_eq_true_eq]; omega
        · rw [if_neg h4, if_neg h4]
theorem f59 (x : S25) : F59.f x = some (may x) := by
  unfold F59.f may
  simp only [lt]
  by_cases h1 : x.f0 = 1
  · rw [if_pos h1, if_pos h1]; congr 1; rw [Bool.eq_iff_iff]; simp only [Bool.and_eq_true, decide_eq_true_eq]; omega
  · rw [if_neg h1, if_neg h1]
    by_cases h3 : x.f0 = 2
    · have h2 : ¬ x.f0 = 3 := by omega
      rw [if_pos h3, if_neg h2, if_pos h3]; congr 1; rw [Bool.eq_iff_iff]; simp only [Bool.and_eq_true, decide_eq_true_eq]; omega
    · rw [if_neg h3]
      by_cases h2 : x.f0 = 3
      · rw [if_pos h2, if_pos h2]; congr 1; rw [Bool.eq_iff_iff]; simp only [Bool.and_eq_true, decide_eq_true_eq]; omega
      · rw [if_neg h2, if_neg h2, if_neg h3]
        by_cases h4 : x.f0 = 4
        · rw [if_pos h4, if_pos h4]; congr 1; rw [Bool.eq_iff_iff]; simp only [Bool.and_eq_true, decide_eq_true_eq]; omega
        · rw [if_neg h4, if_neg h4]

/-- What an event's bytes are. -/
def encE (x : S25) (a p : Bool) : List Int × Int :=
  if may x = false then ([], 2) else if x.f0 = 1 then (x.f1, 0) else if x.f0 = 4 then (if a = true then ([27, 79, x.f4], 0) else ([27, 91, x.f4], 0))
  else if x.f0 = 3 then (if p = true then ([27, 91, 50, 48, 48, 126] ++ cl x.f1 ++ [27, 91, 50, 48, 49, 126], 0) else (cl x.f1, 0)) else ([], 0)

theorem f14 (x : S25) (a p : Bool) (hL : x.f1.length ≤ 140737488351232) (k : Nat) (hk : x.f1.length < k) : F14.f k x a p = some (encE x a p) := by
  unfold F14.f encE
  rw [f57, f17 _ hL k hk]
  have hc := cl_len x.f1
  have e58 := f58 [] x.f1 (by simp; omega)
  have e1 := f58 [27, 91, 50, 48, 48, 126] (cl x.f1) (by simp; omega)
  have e2 := f58 ([27, 91, 50, 48, 48, 126] ++ cl x.f1) [27, 91, 50, 48, 49, 126] (by simp; omega)
  simp only [Option.bind_some, lt, e58, e1, e2, List.nil_append]
  cases hm : may x with
  | false => simp
  | true =>
    by_cases h1 : x.f0 = 1
    · simp [h1]
    · by_cases h4 : x.f0 = 4
      · cases a <;> simp [h4]
      · by_cases h3 : x.f0 = 3
        · cases p <;> simp [h3]
        · simp [h1, h3, h4]
theorem f15 (x : S25) (a p : Bool) (hL : x.f1.length ≤ 140737488351232) (k : Nat) (hk : x.f1.length < k) : F15.f k x a p = some (encE x a p) := by
  unfold F15.f encE
  rw [f59, f18 _ hL k hk]
  have hc := cl_len x.f1
  have hb : bytesOf (⟨#[27, 91, 50, 48, 49, 126]⟩ : ByteArray) = [27, 91, 50, 48, 49, 126] := by decide
  simp only [Option.bind_some, lt, hb, List.nil_append]
  rw [if_pos (c := ([] : List Int).length + x.f1.length ≤ 140737488355328) (by simp; omega)]
  rw [if_pos (c := ([27, 91, 50, 48, 48, 126] : List Int).length + (cl x.f1).length ≤ 140737488355328) (by simp; omega)]
  rw [if_pos (c := ([27, 91, 50, 48, 48, 126] ++ cl x.f1 : List Int).length + ([27, 91, 50, 48, 49, 126] : List Int).length ≤ 140737488355328) (by simp; omega)]
  cases hm : may x with
  | false => simp
  | true =>
    by_cases h1 : x.f0 = 1
    · simp [h1]
    · by_cases h4 : x.f0 = 4
      · cases a <;> simp [h4]
      · by_cases h3 : x.f0 = 3
        · cases p <;> simp [h3]
        · simp [h1, h3, h4]

theorem anchored (k : Nat) (hk : 10 < k) : F19.f k = some true := by
  unfold F19.f
  rw [f14 _ _ _ (by simp) k (by simp; omega), f14 _ _ _ (by simp) k (by simp; omega), f14 _ _ _ (by simp) k (by simp; omega)]
  have e1 : encE (S25.mk 4 ([] : List Int) 0 0 65) false false = ([27, 91, 65], 0) := by decide
  have e2 : encE (S25.mk 4 ([] : List Int) 0 0 65) true false = ([27, 79, 65], 0) := by decide
  have e3 : encE (S25.mk 3 ([97, 27, 98, 10] : List Int) 0 0 0) false true = ([27, 91, 50, 48, 48, 126, 97, 98, 13, 27, 91, 50, 48, 49, 126], 0) := by decide
  rw [e1, e2, e3]
  simp [lt, F16.f]

/-! ### many events -/
def errOf (a p : Bool) : List S25 → Int
  | [] => 0
  | x :: r => if (encE x a p).2 ≠ 0 then (encE x a p).2 else errOf a p r
def outOf (a p : Bool) : List S25 → List Int
  | [] => []
  | x :: r => (encE x a p).1 ++ outOf a p r
def allE (a p : Bool) (l : List S25) : List Int × Int := if errOf a p l ≠ 0 then ([], errOf a p l) else (outOf a p l, 0)

theorem sum_ones {α : Type} (l : List α) (f : α → Nat) (h : ∀ x, 1 ≤ f x) : l.length ≤ (l.map f).sum := by
  induction l with
  | nil => simp
  | cons x r ih => have := h x; simp only [List.length_cons, List.map_cons, List.sum_cons]; omega
theorem bk25_len (x : S25) : x.f1.length + 1 ≤ bk25 x := by
  unfold bk25
  have := sum_ones x.f1 (fun _ : Int => 1) (fun _ => Nat.le_refl _)
  omega
theorem enc_len (x : S25) (a p : Bool) : (encE x a p).1.length ≤ 13 * bk25 x := by
  have h := bk25_len x
  have hc := cl_len x.f1
  unfold encE
  repeat' split
  all_goals first | (simp; done) | (simp only [List.length_append, List.length_cons, List.length_nil]; omega)
theorem out_len (a p : Bool) : ∀ l : List S25, (outOf a p l).length ≤ 13 * (l.map bk25).sum
  | [] => by simp [outOf]
  | x :: r => by
    have h1 := enc_len x a p
    have h2 := out_len a p r
    simp only [outOf, List.length_append, List.map_cons, List.sum_cons]; omega
theorem len_sum : ∀ l : List S25, l.length ≤ (l.map bk25).sum
  | [] => by simp
  | x :: r => by
    have h1 := bk25_len x
    have h2 := len_sum r
    simp only [List.length_cons, List.map_cons, List.sum_cons]; omega
theorem mem_sum {x : S25} : ∀ {l : List S25}, x ∈ l → bk25 x ≤ (l.map bk25).sum
  | y :: r, h => by
    simp only [List.map_cons, List.sum_cons]
    rcases List.mem_cons.1 h with rfl | h
    · omega
    · have := mem_sum h; omega

theorem l34 (s : S83) (l : List S25) (hl : (l.map bk25).sum ≤ 1048576) : ∀ (n k : Nat) (acc : List Int) (i : Nat), i + n = l.length → n + 1048600 ≤ k → acc.length + (outOf s.f11 s.f12 (l.drop i)).length ≤ 13631488 →
    F34.l0 s l k acc (i : Int) = some (if errOf s.f11 s.f12 (l.drop i) ≠ 0 then Out.ret ([], errOf s.f11 s.f12 (l.drop i)) else Out.go (acc ++ outOf s.f11 s.f12 (l.drop i)))
  | n, 0, _, _, _, h, _ => by omega
  | 0, k + 1, acc, i, h, hk, _ => by
    rw [F34.l0, if_neg (by omega), List.drop_of_length_le (by omega)]; simp [errOf, outOf]
  | n + 1, k + 1, acc, i, h, hk, ha => by
    have hi : i < l.length := by omega
    have hll := len_sum l
    have hm := mem_sum (List.getElem_mem hi)
    have hx := bk25_len l[i]
    have ew : IntKind.i64.wrap ((i : Int) + 1) = ((i + 1 : Nat) : Int) := by rw [w64 (by omega) (by omega)]; rfl
    rw [List.drop_eq_getElem_cons hi] at ha ⊢
    simp only [outOf, List.length_append] at ha
    rw [F34.l0, if_pos (by omega), if_pos (by omega), rd_lt hi, f14 _ _ _ (by omega) k (by omega)]
    simp only [Option.bind_some, ew, errOf, outOf]
    by_cases he : (encE l[i] s.f11 s.f12).2 = 0
    · rw [if_neg (by omega), f58 _ _ (by omega)]
      simp only [Option.bind_some]
      rw [l34 s l hl n k _ (i + 1) (by omega) (by omega) (by simp only [List.length_append]; omega)]
      simp [he]
    · rw [if_pos he]; simp [he]
theorem f34 (s : S83) (l : List S25) (b : Bool) (k : Nat) (hl : (l.map bk25).sum ≤ 1048576) (hk : 3000000 ≤ k) (hb : F74.f k s = some b) : F34.f k s l = some (if b = true then allE s.f11 s.f12 l else ([], 2)) := by
  have hll := len_sum l
  have ho := out_len s.f11 s.f12 l
  unfold F34.f
  rw [hb]
  cases b
  · simp
  · have h0 := l34 s l hl l.length k [] 0 (by omega) (by omega) (by simp; omega)
    rw [show ((0 : Nat) : Int) = 0 from rfl, List.drop_zero] at h0
    simp only [Option.bind_some, Bool.not_true, Bool.false_eq_true, if_false, h0, allE, if_true]
    by_cases he : errOf s.f11 s.f12 l = 0
    · simp [he, el_r, el_g]
    · simp [he, el_r, el_g]


theorem l35 (s : S83) (l : List S25) (hl : (l.map bk25).sum ≤ 1048576) : ∀ (n k : Nat) (acc : List Int) (i : Nat), i + n = l.length → n + 1048600 ≤ k → acc.length + (outOf s.f11 s.f12 (l.drop i)).length ≤ 13631488 →
    F35.l0 s l k acc (i : Int) = some (if errOf s.f11 s.f12 (l.drop i) ≠ 0 then Out.ret ([], errOf s.f11 s.f12 (l.drop i)) else Out.go (acc ++ outOf s.f11 s.f12 (l.drop i)))
  | n, 0, _, _, _, h, _ => by omega
  | 0, k + 1, acc, i, h, hk, _ => by
    rw [F35.l0, if_neg (by omega), List.drop_of_length_le (by omega)]; simp [errOf, outOf]
  | n + 1, k + 1, acc, i, h, hk, ha => by
    have hi : i < l.length := by omega
    have hll := len_sum l
    have hm := mem_sum (List.getElem_mem hi)
    have hx := bk25_len l[i]
    have ew : IntKind.i64.wrap ((i : Int) + 1) = ((i + 1 : Nat) : Int) := by rw [w64 (by omega) (by omega)]; rfl
    rw [List.drop_eq_getElem_cons hi] at ha ⊢
    simp only [outOf, List.length_append] at ha
    rw [F35.l0, if_pos (by omega), if_pos (by omega), rd_lt hi, f15 _ _ _ (by omega) k (by omega)]
    simp only [Option.bind_some, lt, ew, errOf, outOf]
    by_cases he : (encE l[i] s.f11 s.f12).2 = 0
    · rw [if_neg (by omega), if_pos (by omega)]
      rw [l35 s l hl n k _ (i + 1) (by omega) (by omega) (by simp only [List.length_append]; omega)]
      simp [he]
    · rw [if_pos he]; simp [he]
theorem f35 (s : S83) (l : List S25) (b : Bool) (k : Nat) (hl : (l.map bk25).sum ≤ 1048576) (hk : 3000000 ≤ k) (hb : F75.f k s = some b) : F35.f k s l = some (if b = true then allE s.f11 s.f12 l else ([], 2)) := by
  have hll := len_sum l
  have ho := out_len s.f11 s.f12 l
  unfold F35.f
  rw [hb]
  cases b
  · simp
  · have h0 := l35 s l hl l.length k [] 0 (by omega) (by omega) (by simp; omega)
    rw [show ((0 : Nat) : Int) = 0 from rfl, List.drop_zero] at h0
    simp only [Option.bind_some, Bool.not_true, Bool.false_eq_true, if_false, h0, allE, if_true]
    by_cases he : errOf s.f11 s.f12 l = 0
    · simp [he, el_r, el_g]
    · simp [he, el_r, el_g]
theorem wide8 {g : S67} (h : ∀ y_ ∈ g.f2, wf76 y_) : ∀ x ∈ g.f2, 0 ≤ x.f2 ∧ x.f2 < 256 := fun x hx => by
  have h2 := (h x hx).2.2.1
  simp only [Lit.wf, IntKind.min, IntKind.max, Bool.and_eq_true, decide_eq_true_eq] at h2
  have := h2.1; have := h2.2
  constructor <;> (simp [IntKind.signed, IntKind.bits] at *; omega)
theorem row (x0 : S83) (x1 : List S25) (w0 : wf83 x0) (w1 : ∀ y_ ∈ x1, wf25 y_) (hB : bk83 x0 + ((x1.map bk25).sum + 1) ≤ 1048576) : ∃ k, F6.f k x0 x1 = some true := by
  have a1 := sum_ones x0.f0.f2 bk76 (fun x => by unfold bk76; omega)
  have a2 := sum_ones x0.f7 (fun _ : Int => 1) (fun x => Nat.le_refl _)
  have a3 := sum_ones x0.f16.f2 bk76 (fun x => by unfold bk76; omega)
  have a4 := sum_ones x0.f17 (fun _ : Int => 1) (fun x => Nat.le_refl _)
  unfold bk83 bk67 at hB
  have c1 : ∀ x ∈ x0.f0.f2, 0 ≤ x.f2 ∧ x.f2 < 256 := wide8 w0.1.2.2
  have c2 : ∀ x ∈ x0.f16.f2, 0 ≤ x.f2 ∧ x.f2 < 256 := wide8 w0.2.2.2.2.2.2.2.2.2.2.2.2.2.2.2.2.1.2.2
  refine ⟨5000000, ?_⟩
  generalize hkk : (5000000 : Nat) = k
  have h1 := f34 x0 x1 _ k (by omega) (by omega) (f74 x0 (by omega) (by omega) (by omega) (by omega) c1 c2 k (by omega))
  have h2 := f35 x0 x1 _ k (by omega) (by omega) (f75 x0 (by omega) (by omega) (by omega) (by omega) c1 c2 k (by omega))
  unfold F6.f
  rw [h1, h2, anchored k (by omega)]
  simp [F16.f, lt]
end Go.Proofs.Ytodkeoibebimgaa.KcPure

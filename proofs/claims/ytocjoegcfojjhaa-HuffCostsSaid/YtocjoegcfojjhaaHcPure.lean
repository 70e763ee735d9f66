/- The plain law of HuffCosts: what the walked functions compute answers as the statement says. -/
import Derived.Test.YtocjoegcfojjhaaHc
import Derived.Test.YtocjoegcfojjhaaSlP
namespace Go.Proofs.Ytocjoegcfojjhaa.HcPure
open Go Go.RowKit Go.Proofs.Ytocjoegcfojjhaa.SL Go.Proofs.Ytocjoegcfojjhaa.Hc
set_option linter.unusedVariables false
set_option linter.unusedSimpArgs false

theorem el_r {ρ σ β : Type} {r : ρ} {f : ρ → Option β} {g : σ → Option β} : Out.el (.ret r) f g = f r := rfl
theorem el_g {ρ σ β : Type} {s : σ} {f : ρ → Option β} {g : σ → Option β} : Out.el (.go s) f g = g s := rfl

theorem anchored (k : Nat) (hk : 64 ≤ k) : F27.f k = some true := by
  obtain ⟨j, rfl⟩ : ∃ j, k = j + 64 := ⟨k - 64, by omega⟩
  kernel_rfl

/-! ### which lists may be -/
def okIn (m : Int) (l : List Int) : Bool := l.all fun n => decide (0 ≤ n) && decide (n ≤ m)
theorem okIn_cons {m c : Int} {r : List Int} : okIn m (c :: r) = (decide (0 ≤ c) && decide (c ≤ m) && okIn m r) := rfl
theorem okIn_nil {m : Int} : okIn m [] = true := rfl
theorem l96 (m : Int) (l : List Int) (hl : l.length ≤ 17592186043904) : ∀ (n k : Nat) (i : Nat), i + n = l.length → n < k → ∃ t, F96.l0 l (fun x => F82.f x m) k (i : Int) = some t ∧ (okIn m (l.drop i) = true → t = Out.go ()) ∧ (okIn m (l.drop i) = false → ∃ j : Nat, t = Out.ret (j : Int))
  | n, 0, _, _, h => by omega
  | 0, k + 1, i, h, hk => ⟨_, by rw [F96.l0, if_neg (by omega)], fun _ => rfl, fun q => by rw [List.drop_of_length_le (by omega), okIn_nil] at q; cases q⟩
  | n + 1, k + 1, i, h, hk => by
    have hi : i < l.length := by omega
    have ew : IntKind.i64.wrap ((i : Int) + 1) = ((i + 1 : Nat) : Int) := by rw [w64 (by omega) (by omega)]; rfl
    obtain ⟨t, h1, h2, h3⟩ := l96 m l hl n k (i + 1) (by omega) (by omega)
    rw [F96.l0, if_pos (by omega), if_pos (by omega), ew, rd_lt hi, List.drop_eq_getElem_cons hi, h1]
    rw [okIn_cons]
    simp only [F82.f, lt, Option.bind_some]
    by_cases hc : l[i] < 0 ∨ l[i] > m
    · have e : (decide (l[i] < 0) || decide (l[i] > m)) = true := by simpa using hc
      have e2 : (decide (0 ≤ l[i]) && decide (l[i] ≤ m)) = false := by
        rw [Bool.eq_false_iff]; simp only [ne_eq, Bool.and_eq_true, decide_eq_true_eq]; omega
      refine ⟨_, by rw [if_pos e], fun q => ?_, fun _ => ⟨i, rfl⟩⟩
      rw [e2] at q; simp at q
    · have e : ¬ (decide (l[i] < 0) || decide (l[i] > m)) = true := by simpa using hc
      have e2 : (decide (0 ≤ l[i]) && decide (l[i] ≤ m)) = true := by
        simp only [Bool.and_eq_true, decide_eq_true_eq]; omega
      refine ⟨t, by rw [if_neg e], fun q => ?_, fun q => ?_⟩
      · rw [e2, Bool.true_and] at q; exact h2 q
      · rw [e2, Bool.true_and] at q; exact h3 q
theorem f52 (m : Int) (l : List Int) (hl : l.length ≤ 17592186043904) (k : Nat) (hk : l.length < k) : F52.f k l m = some (okIn m l) := by
  obtain ⟨t, h1, h2, h3⟩ := l96 m l hl l.length k 0 (by omega) hk
  rw [show ((0 : Nat) : Int) = 0 from rfl] at h1
  rw [List.drop_zero] at h2 h3
  unfold F52.f F81.f F96.f
  rw [h1]
  cases hb : okIn m l
  · obtain ⟨j, rfl⟩ := h3 hb
    simp [el_r, el_g]
  · rw [h2 hb]; simp [el_r, el_g]

/-! ### weights -/
def w1 (n : Int) : Int := if n > 0 then ((2 ^ (15 - n.toNat) : Nat) : Int) else 0
def wgt : List Int → Int
  | [] => 0
  | n :: r => w1 n + wgt r
theorem w1_le (n : Int) : 0 ≤ w1 n ∧ w1 n ≤ 16384 := by
  unfold w1
  split
  · rename_i h
    have h2 : 2 ^ (15 - n.toNat) ≤ 2 ^ 14 := Nat.pow_le_pow_right (by decide) (by omega)
    generalize 2 ^ (15 - n.toNat) = q at h2 ⊢
    omega
  · omega
theorem wgt_le : ∀ l : List Int, 0 ≤ wgt l ∧ wgt l ≤ 16384 * l.length
  | [] => by simp [wgt]
  | n :: r => by
    have h1 := w1_le n
    have h2 := wgt_le r
    simp only [wgt, List.length_cons]; omega
theorem sh15 : ∀ n : Nat, n ≤ 15 → 1 ≤ n → shrI .i64 32768 (IntKind.u64.wrap (n : Int)) = ((2 ^ (15 - n) : Nat) : Int) := by decide +kernel
theorem sl15 : ∀ n : Nat, n ≤ 15 → 1 ≤ n → shlI .i64 1 (IntKind.u64.wrap (IntKind.i64.wrap (15 - (n : Int)))) = ((2 ^ (15 - n) : Nat) : Int) := by decide +kernel
theorem uw0 (x : Int) : 0 ≤ IntKind.u64.wrap x := by rw [wu64]; omega
theorem l53 (l : List Int) (hl : l.length ≤ 17592186043904) (ho : okIn 15 l = true) : ∀ (n k : Nat) (a : Int) (i : Nat), i + n = l.length → n < k → 0 ≤ a → a ≤ 16384 * i → F53.l0 l k a (i : Int) = some (a + wgt (l.drop i))
  | n, 0, _, _, _, h, _, _ => by omega
  | 0, k + 1, a, i, h, hk, _, _ => by rw [F53.l0, if_neg (by omega), List.drop_of_length_le (by omega)]; simp [wgt]
  | n + 1, k + 1, a, i, h, hk, h0, h1 => by
    have hi : i < l.length := by omega
    have ew : IntKind.i64.wrap ((i : Int) + 1) = ((i + 1 : Nat) : Int) := by rw [w64 (by omega) (by omega)]; rfl
    have hr := List.all_eq_true.1 ho l[i] (List.getElem_mem hi)
    simp only [Bool.and_eq_true, decide_eq_true_eq] at hr
    rw [F53.l0, if_pos (by omega), if_pos (by omega), ew, rd_lt hi, List.drop_eq_getElem_cons hi]
    simp only [lt, wgt]
    have hw := w1_le l[i]
    by_cases hp : l[i] > 0
    · obtain ⟨m, hm⟩ : ∃ m : Nat, l[i] = (m : Int) := ⟨l[i].toNat, by omega⟩
      have e1 : w1 l[i] = ((2 ^ (15 - m) : Nat) : Int) := by unfold w1; rw [if_pos hp, hm]; rfl
      rw [if_pos hp, if_pos (uw0 _), hm, sh15 m (by omega) (by omega), ← e1, w64 (by omega) (by omega), l53 l hl ho n k _ (i + 1) (by omega) (by omega) (by omega) (by omega)]
      rw [← hm]; congr 1; omega
    · have e1 : w1 l[i] = 0 := by unfold w1; rw [if_neg hp]
      rw [if_neg hp, l53 l hl ho n k _ (i + 1) (by omega) (by omega) (by omega) (by omega), e1]
      congr 1; omega
theorem f53 (l : List Int) (hl : l.length ≤ 17592186043904) (ho : okIn 15 l = true) (k : Nat) (hk : l.length < k) : F53.f k l = some (wgt l) := by
  have h := l53 l hl ho l.length k 0 0 (by omega) hk (by omega) (by omega)
  rw [show ((0 : Nat) : Int) = 0 from rfl, List.drop_zero] at h
  unfold F53.f
  rw [h]; simp
theorem l23 (l : List Int) (hl : l.length ≤ 17592186043904) : ∀ (n k : Nat) (a : Int) (i : Nat), i + n = l.length → n < k → 0 ≤ a → a ≤ 16384 * i → F23.l0 l k a (i : Int) = some (if okIn 15 (l.drop i) = true then Out.go (a + wgt (l.drop i)) else Out.ret (0, 2))
  | n, 0, _, _, _, h, _, _ => by omega
  | 0, k + 1, a, i, h, hk, _, _ => by rw [F23.l0, if_neg (by omega), List.drop_of_length_le (by omega)]; simp [wgt, okIn_nil]
  | n + 1, k + 1, a, i, h, hk, h0, h1 => by
    have hi : i < l.length := by omega
    have ew : IntKind.i64.wrap ((i : Int) + 1) = ((i + 1 : Nat) : Int) := by rw [w64 (by omega) (by omega)]; rfl
    have hb : 0 ≤ (i : Int) ∧ (i : Int) < (l.length : Int) := by omega
    have hw := w1_le l[i]
    rw [F23.l0, if_pos (by omega), if_pos hb, ew, rd_lt hi, List.drop_eq_getElem_cons hi, okIn_cons]
    simp only [lt, wgt, if_pos hb]
    by_cases hn : l[i] < 0
    · have e2 : decide (0 ≤ l[i]) = false := decide_eq_false (by omega)
      rw [if_pos hn, e2]; simp
    · have e2 : decide (0 ≤ l[i]) = true := decide_eq_true (by omega)
      rw [if_neg hn, e2]
      by_cases hg : l[i] > 15
      · have e3 : decide (l[i] ≤ 15) = false := decide_eq_false (by omega)
        rw [e3, decide_eq_true hg]; simp
      · have e3 : decide (l[i] ≤ 15) = true := decide_eq_true (by omega)
        rw [e3, decide_eq_false hg]
        simp only [Option.bind_some, Bool.false_eq_true, if_false, Bool.true_and]
        by_cases hp : l[i] > 0
        · obtain ⟨m, hm⟩ : ∃ m : Nat, l[i] = (m : Int) := ⟨l[i].toNat, by omega⟩
          have e1 : w1 l[i] = ((2 ^ (15 - m) : Nat) : Int) := by unfold w1; rw [if_pos hp, hm]; rfl
          rw [if_pos hp, if_pos (uw0 _), hm, sl15 m (by omega) (by omega), ← e1, w64 (by omega) (by omega), l23 l hl n k _ (i + 1) (by omega) (by omega) (by omega) (by omega)]
          rw [← hm, Int.add_assoc]
        · have e1 : w1 l[i] = 0 := by unfold w1; rw [if_neg hp]
          rw [if_neg hp, l23 l hl n k _ (i + 1) (by omega) (by omega) (by omega) (by omega), e1, Int.zero_add]
theorem f23 (l : List Int) (hl : l.length ≤ 17592186043904) (k : Nat) (hk : l.length < k) : F23.f k l = some (if okIn 15 l = true then (if l.length > 512 then (0, 4) else (wgt l, 0)) else (0, 2)) := by
  have h := l23 l hl l.length k 0 0 (by omega) hk (by omega) (by omega)
  rw [show ((0 : Nat) : Int) = 0 from rfl, List.drop_zero] at h
  unfold F23.f
  rw [h]
  have e : ((l.length : Int) > 512) ↔ l.length > 512 := by omega
  simp only [e]
  cases okIn 15 l
  · simp [el_r]
  · by_cases hh : l.length > 512 <;> simp [el_g, hh]
theorem l43 (l : List Int) (hl : l.length ≤ 17592186043904) (ho : okIn 15 l = true) : ∀ (n k : Nat) (a : Int) (i : Nat), i + n = l.length → n < k → 0 ≤ a → a ≤ 16384 * i → F43.l0 l k a (i : Int) = some (a + wgt (l.drop i))
  | n, 0, _, _, _, h, _, _ => by omega
  | 0, k + 1, a, i, h, hk, _, _ => by rw [F43.l0, if_neg (by omega), List.drop_of_length_le (by omega)]; simp [wgt]
  | n + 1, k + 1, a, i, h, hk, h0, h1 => by
    have hi : i < l.length := by omega
    have ew : IntKind.i64.wrap ((i : Int) + 1) = ((i + 1 : Nat) : Int) := by rw [w64 (by omega) (by omega)]; rfl
    have hb : 0 ≤ (i : Int) ∧ (i : Int) < (l.length : Int) := by omega
    have hr := List.all_eq_true.1 ho l[i] (List.getElem_mem hi)
    simp only [Bool.and_eq_true, decide_eq_true_eq] at hr
    rw [F43.l0, if_pos (by omega), if_pos hb, ew, rd_lt hi, List.drop_eq_getElem_cons hi]
    simp only [lt, wgt, if_pos hb]
    have hw := w1_le l[i]
    by_cases hp : l[i] > 0
    · obtain ⟨m, hm⟩ : ∃ m : Nat, l[i] = (m : Int) := ⟨l[i].toNat, by omega⟩
      have e1 : w1 l[i] = ((2 ^ (15 - m) : Nat) : Int) := by unfold w1; rw [if_pos hp, hm]; rfl
      rw [if_pos hp, if_pos (uw0 _), hm, sl15 m (by omega) (by omega), ← e1, w64 (by omega) (by omega), l43 l hl ho n k _ (i + 1) (by omega) (by omega) (by omega) (by omega)]
      rw [← hm]; congr 1; omega
    · have e1 : w1 l[i] = 0 := by unfold w1; rw [if_neg hp]
      rw [if_neg hp, l43 l hl ho n k _ (i + 1) (by omega) (by omega) (by omega) (by omega), e1]
      congr 1; omega
/-- The errors of lengths. -/
def badL (l : List Int) : Int := if okIn 15 l = true ∧ wgt l ≤ 32768 then (if l.length > 512 then 4 else 0) else 2
theorem f43 (l : List Int) (hl : l.length ≤ 17592186043904) (k : Nat) (hk : l.length < k) : F43.f k l = some (badL l) := by
  unfold F43.f badL
  rw [f23 l hl k hk]
  simp only [Option.bind_some, lt]
  cases ho : okIn 15 l
  · simp
  · have h := l43 l hl ho l.length k 0 0 (by omega) hk (by omega) (by omega)
    rw [show ((0 : Nat) : Int) = 0 from rfl, List.drop_zero, Int.zero_add] at h
    by_cases hh : l.length > 512
    · by_cases hw : wgt l ≤ 32768
      · have hw2 : ¬ wgt l > 32768 := by omega
        simp [hh, h, hw, hw2]
      · have hw2 : wgt l > 32768 := by omega
        simp [hh, h, hw, hw2]
    · by_cases hw : wgt l ≤ 32768
      · have hw2 : ¬ wgt l > 32768 := by omega
        simp [hh, hw, hw2]
      · have hw2 : wgt l > 32768 := by omega
        simp [hh, hw, hw2]
theorem l57 (l : List Int) (hl : l.length ≤ 17592186043904) : ∀ (n k : Nat) (i : Nat), i + n = l.length → n < k → F57.l0 l k (i : Int) = some (if okIn 1048576 (l.drop i) = true then Out.go () else Out.ret 2)
  | n, 0, _, _, h => by omega
  | 0, k + 1, i, h, hk => by rw [F57.l0, if_neg (by omega), List.drop_of_length_le (by omega)]; rfl
  | n + 1, k + 1, i, h, hk => by
    have hi : i < l.length := by omega
    have ew : IntKind.i64.wrap ((i : Int) + 1) = ((i + 1 : Nat) : Int) := by rw [w64 (by omega) (by omega)]; rfl
    have hb : 0 ≤ (i : Int) ∧ (i : Int) < (l.length : Int) := by omega
    rw [F57.l0, if_pos (by omega), if_pos hb, ew, rd_lt hi, List.drop_eq_getElem_cons hi, okIn_cons]
    simp only [lt, if_pos hb]
    rw [l57 l hl n k (i + 1) (by omega) (by omega)]
    generalize okIn 1048576 (l.drop (i + 1)) = b
    generalize l[i] = c
    by_cases hn : c < 0
    · have e2 : decide (0 ≤ c) = false := decide_eq_false (by omega)
      rw [if_pos hn, e2]; simp
    · have e2 : decide (0 ≤ c) = true := decide_eq_true (by omega)
      rw [if_neg hn, e2]
      by_cases hg : c > 1048576
      · have e3 : decide (c ≤ 1048576) = false := decide_eq_false (by omega)
        rw [e3, decide_eq_true hg]; simp
      · have e3 : decide (c ≤ 1048576) = true := decide_eq_true (by omega)
        rw [e3, decide_eq_false hg]; simp
theorem f57 (l : List Int) (hl : l.length ≤ 17592186043904) (k : Nat) (hk : l.length < k) : F57.f k l = some (if okIn 1048576 l = true then (if l.length > 512 then 4 else 0) else 2) := by
  have h := l57 l hl l.length k 0 (by omega) hk
  rw [show ((0 : Nat) : Int) = 0 from rfl, List.drop_zero] at h
  have e : ((l.length : Int) > 512) ↔ l.length > 512 := by omega
  unfold F57.f
  rw [h]
  simp only [e]
  cases okIn 1048576 l
  · simp [el_r]
  · by_cases hh : l.length > 512 <;> simp [el_g, hh]

/-! ### sums -/
theorem same29 (a b : List Int) : ∀ (k : Nat) (s i : Int), F29.l0 a b k s i = F28.l0 a b k s i
  | 0, s, i => rfl
  | k + 1, s, i => by
    rw [F29.l0, F28.l0]
    simp only [lt, same29 a b k]
theorem l28 (a b : List Int) (hab : a.length = b.length) (ha : a.length ≤ 17592186043904) : ∀ (n k : Nat) (s : Int) (i : Nat), i + n = a.length → n < k → ∃ r, F28.l0 a b k s (i : Int) = some r
  | n, 0, _, _, _, h => by omega
  | 0, k + 1, s, i, h, hk => ⟨s, by rw [F28.l0, if_neg (by omega)]⟩
  | n + 1, k + 1, s, i, h, hk => by
    have ew : IntKind.i64.wrap ((i : Int) + 1) = ((i + 1 : Nat) : Int) := by rw [w64 (by omega) (by omega)]; rfl
    rw [F28.l0, if_pos (by omega), if_pos (by omega), if_pos (by omega), ew]
    exact l28 a b hab ha n k _ (i + 1) (by omega) (by omega)
theorem law (a b : List Int) (ha : a.length ≤ 17592186043904) (hb : b.length ≤ 17592186043904) : ∃ k, F6.f k a b = some true := by
  refine ⟨17592186044100, ?_⟩
  generalize hk : (17592186044100 : Nat) = k
  unfold F6.f F28.f F29.f
  rw [f52 1048576 a ha k (by omega), f52 15 b hb k (by omega), f57 a ha k (by omega), f43 b hb k (by omega), anchored k (by omega)]
  simp only [Option.bind_some, lt, same29]
  have el : ((a.length : Int) ≠ (b.length : Int)) ↔ a.length ≠ b.length := by omega
  have e5 : ((a.length : Int) > 512) ↔ a.length > 512 := by omega
  simp only [el, e5]
  unfold badL
  by_cases hl : a.length = b.length
  · obtain ⟨r, hr⟩ := l28 a b hl ha a.length k 0 0 (by omega) (by omega)
    rw [show ((0 : Nat) : Int) = 0 from rfl] at hr
    cases hc : okIn 1048576 a
    · simp [hl]
    · cases hd : okIn 15 b
      · simp [hl]
      · rw [f53 b hb hd k (by omega)]
        by_cases hw : wgt b ≤ 32768
        · have hw2 : ¬ wgt b > 32768 := by omega
          by_cases h5 : a.length > 512
          · have h6 : b.length > 512 := by omega
            simp [hl, hw, hw2, h5, h6]
          · have h6 : ¬ b.length > 512 := by omega
            simp [hl, hw, hw2, h5, h6, hr]
        · have hw2 : wgt b > 32768 := by omega
          simp [hl, hw, hw2]
  · cases hc : okIn 1048576 a <;> simp [hl]
theorem row (x0 x1 : List Int) (w0 : x0.length * 8 ≤ 140737488351232 ∧ ∀ y ∈ x0, (Lit.int .i64 y).wf = true) (w1 : x1.length * 8 ≤ 140737488351232 ∧ ∀ y ∈ x1, (Lit.int .i64 y).wf = true) : ∃ k, F6.f k x0 x1 = some true :=
  law x0 x1 (by have := w0.1; omega) (by have := w1.1; omega)
end Go.Proofs.Ytocjoegcfojjhaa.HcPure

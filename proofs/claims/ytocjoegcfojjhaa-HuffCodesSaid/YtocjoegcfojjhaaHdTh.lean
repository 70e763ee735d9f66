/- Lengths, weights and codes: what the program's functions and the document's compute. -/
import Derived.Test.YtocjoegcfojjhaaHd
import Derived.Test.YtocjoegcfojjhaaSlP
namespace Go.Proofs.Ytocjoegcfojjhaa.HdTh
open Go Go.RowKit Go.Proofs.Ytocjoegcfojjhaa.SL Go.Proofs.Ytocjoegcfojjhaa.Hd
set_option linter.unusedVariables false
set_option linter.unusedSimpArgs false

theorem el_r {ρ σ β : Type} {r : ρ} {f : ρ → Option β} {g : σ → Option β} : Out.el (.ret r) f g = f r := rfl
theorem el_g {ρ σ β : Type} {s : σ} {f : ρ → Option β} {g : σ → Option β} : Out.el (.go s) f g = g s := rfl

theorem anchored (k : Nat) (hk : 64 ≤ k) : F27.f k = some true := by
  obtain ⟨j, rfl⟩ : ∃ j, k = j + 64 := ⟨k - 64, by omega⟩
  kernel_rfl

/-! ### which lists may be -/
def okIn (m : Int) (l : List Int) : Bool := l.all fun n => decide (0 ≤ n) && decide (n ≤ m)
theorem okIn_cons {m c : Int} {r : List Int} : okIn m (c :: r) = (decide (0 ≤ c) && decide (c ≤ m) && okIn m r) := rfl
theorem okIn_nil {m : Int} : okIn m [] = true := rfl
theorem l96 (m : Int) (l : List Int) (hl : l.length ≤ 17592186043904) : ∀ (n k : Nat) (i : Nat), i + n = l.length → n < k → ∃ t, F96.l0 l (fun x => F82.f x m) k (i : Int) = some t ∧ (okIn m (l.drop i) = true → t = Out.go ()) ∧ (okIn m (l.drop i) = false → ∃ j : Nat, t = Out.ret (j : Int))
  | n, 0, _, _, h => by omega
  | 0, k + 1, i, h, hk => ⟨_, by rw [F96.l0, if_neg (by omega)], fun _ => rfl, fun q => by rw [List.drop_of_length_le (by omega), okIn_nil] at q; cases q⟩
  | n + 1, k + 1, i, h, hk => by
    have hi : i < l.length := by omega
    have ew : IntKind.i64.wrap ((i : Int) + 1) = ((i + 1 : Nat) : Int) := by rw [w64 (by omega) (by omega)]; rfl
    obtain ⟨t, h1, h2, h3⟩ := l96 m l hl n k (i + 1) (by omega) (by omega)
    rw [F96.l0, if_pos (by omega), if_pos (by omega), ew, rd_lt hi, List.drop_eq_getElem_cons hi, h1]
    rw [okIn_cons]
    simp only [F82.f, lt, Option.bind_some]
    by_cases hc : l[i] < 0 ∨ l[i] > m
    · have e : (decide (l[i] < 0) || decide (l[i] > m)) = true := by simpa using hc
      have e2 : (decide (0 ≤ l[i]) && decide (l[i] ≤ m)) = false := by
        rw [Bool.eq_false_iff]; simp only [ne_eq, Bool.and_eq_true, decide_eq_true_eq]; omega
      refine ⟨_, by rw [if_pos e], fun q => ?_, fun _ => ⟨i, rfl⟩⟩
      rw [e2] at q; simp at q
    · have e : ¬ (decide (l[i] < 0) || decide (l[i] > m)) = true := by simpa using hc
      have e2 : (decide (0 ≤ l[i]) && decide (l[i] ≤ m)) = true := by
        simp only [Bool.and_eq_true, decide_eq_true_eq]; omega
      refine ⟨t, by rw [if_neg e], fun q => ?_, fun q => ?_⟩
      · rw [e2, Bool.true_and] at q; exact h2 q
      · rw [e2, Bool.true_and] at q; exact h3 q
theorem f52 (m : Int) (l : List Int) (hl : l.length ≤ 17592186043904) (k : Nat) (hk : l.length < k) : F52.f k l m = some (okIn m l) := by
  obtain ⟨t, h1, h2, h3⟩ := l96 m l hl l.length k 0 (by omega) hk
  rw [show ((0 : Nat) : Int) = 0 from rfl] at h1
  rw [List.drop_zero] at h2 h3
  unfold F52.f F81.f F96.f
  rw [h1]
  cases hb : okIn m l
  · obtain ⟨j, rfl⟩ := h3 hb
    simp [el_r, el_g]
  · rw [h2 hb]; simp [el_r, el_g]

/-! ### weights -/
def w1 (n : Int) : Int := if n > 0 then ((2 ^ (15 - n.toNat) : Nat) : Int) else 0
def wgt : List Int → Int
  | [] => 0
  | n :: r => w1 n + wgt r
theorem w1_le (n : Int) : 0 ≤ w1 n ∧ w1 n ≤ 16384 := by
  unfold w1
  split
  · rename_i h
    have h2 : 2 ^ (15 - n.toNat) ≤ 2 ^ 14 := Nat.pow_le_pow_right (by decide) (by omega)
    generalize 2 ^ (15 - n.toNat) = q at h2 ⊢
    omega
  · omega
theorem wgt_le : ∀ l : List Int, 0 ≤ wgt l ∧ wgt l ≤ 16384 * l.length
  | [] => by simp [wgt]
  | n :: r => by
    have h1 := w1_le n
    have h2 := wgt_le r
    simp only [wgt, List.length_cons]; omega
theorem sh15 : ∀ n : Nat, n ≤ 15 → 1 ≤ n → shrI .i64 32768 (IntKind.u64.wrap (n : Int)) = ((2 ^ (15 - n) : Nat) : Int) := by decide +kernel
theorem sl15 : ∀ n : Nat, n ≤ 15 → 1 ≤ n → shlI .i64 1 (IntKind.u64.wrap (IntKind.i64.wrap (15 - (n : Int)))) = ((2 ^ (15 - n) : Nat) : Int) := by decide +kernel
theorem uw0 (x : Int) : 0 ≤ IntKind.u64.wrap x := by rw [wu64]; omega
theorem l53 (l : List Int) (hl : l.length ≤ 17592186043904) (ho : okIn 15 l = true) : ∀ (n k : Nat) (a : Int) (i : Nat), i + n = l.length → n < k → 0 ≤ a → a ≤ 16384 * i → F53.l0 l k a (i : Int) = some (a + wgt (l.drop i))
  | n, 0, _, _, _, h, _, _ => by omega
  | 0, k + 1, a, i, h, hk, _, _ => by rw [F53.l0, if_neg (by omega), List.drop_of_length_le (by omega)]; simp [wgt]
  | n + 1, k + 1, a, i, h, hk, h0, h1 => by
    have hi : i < l.length := by omega
    have ew : IntKind.i64.wrap ((i : Int) + 1) = ((i + 1 : Nat) : Int) := by rw [w64 (by omega) (by omega)]; rfl
    have hr := List.all_eq_true.1 ho l[i] (List.getElem_mem hi)
    simp only [Bool.and_eq_true, decide_eq_true_eq] at hr
    rw [F53.l0, if_pos (by omega), if_pos (by omega), ew, rd_lt hi, List.drop_eq_getElem_cons hi]
    simp only [lt, wgt]
    have hw := w1_le l[i]
    by_cases hp : l[i] > 0
    · obtain ⟨m, hm⟩ : ∃ m : Nat, l[i] = (m : Int) := ⟨l[i].toNat, by omega⟩
      have e1 : w1 l[i] = ((2 ^ (15 - m) : Nat) : Int) := by unfold w1; rw [if_pos hp, hm]; rfl
      rw [if_pos hp, if_pos (uw0 _), hm, sh15 m (by omega) (by omega), ← e1, w64 (by omega) (by omega), l53 l hl ho n k _ (i + 1) (by omega) (by omega) (by omega) (by omega)]
      rw [← hm]; congr 1; omega
    · have e1 : w1 l[i] = 0 := by unfold w1; rw [if_neg hp]
      rw [if_neg hp, l53 l hl ho n k _ (i + 1) (by omega) (by omega) (by omega) (by omega), e1]
      congr 1; omega
theorem f53 (l : List Int) (hl : l.length ≤ 17592186043904) (ho : okIn 15 l = true) (k : Nat) (hk : l.length < k) : F53.f k l = some (wgt l) := by
  have h := l53 l hl ho l.length k 0 0 (by omega) hk (by omega) (by omega)
  rw [show ((0 : Nat) : Int) = 0 from rfl, List.drop_zero] at h
  unfold F53.f
  rw [h]; simp
/-- The errors of lengths. -/
def badL (l : List Int) : Int := if okIn 15 l = true ∧ wgt l ≤ 32768 then (if l.length > 512 then 4 else 0) else 2
/-! ### codes -/
def cn (l : List Int) (n : Nat) : Nat := (l.filter fun x => decide (x = (n : Int))).length
def B (l : List Int) : Nat → Nat
  | 0 => 0
  | 1 => 0
  | n + 2 => 2 * (B l (n + 1) + cn l (n + 1))
def W (l : List Int) : Nat → Nat
  | 0 => 0
  | n + 1 => W l n + cn l (n + 1) * 2 ^ (15 - (n + 1))
theorem p2 (n : Nat) (h : n + 1 ≤ 15) : 2 ^ (15 - n) = 2 * 2 ^ (15 - (n + 1)) := by
  rw [show 15 - n = (15 - (n + 1)) + 1 from by omega, Nat.pow_succ, Nat.mul_comm]
theorem BW (l : List Int) : ∀ n, n + 1 ≤ 15 → B l (n + 1) * 2 ^ (15 - (n + 1)) = W l n
  | 0, _ => by simp [B, W]
  | n + 1, h => by
    have ih := BW l n (by omega)
    have e := p2 (n + 1) (by omega)
    show 2 * (B l (n + 1) + cn l (n + 1)) * 2 ^ (15 - (n + 1 + 1)) = W l n + cn l (n + 1) * 2 ^ (15 - (n + 1))
    rw [← ih, e]
    generalize 2 ^ (15 - (n + 1 + 1)) = q
    rw [Nat.mul_assoc, Nat.add_mul, Nat.mul_add]
    have h1 : 2 * (B l (n + 1) * q) = B l (n + 1) * (2 * q) := by rw [← Nat.mul_assoc, ← Nat.mul_assoc, Nat.mul_comm 2]
    have h2 : 2 * (cn l (n + 1) * q) = cn l (n + 1) * (2 * q) := by rw [← Nat.mul_assoc, ← Nat.mul_assoc, Nat.mul_comm 2]
    rw [h1, h2]
theorem cn_cons (x : Int) (l : List Int) (n : Nat) : cn (x :: l) n = cn l n + (if x = (n : Int) then 1 else 0) := by
  unfold cn
  by_cases h : x = (n : Int) <;> simp [h]
theorem W_cons (x : Int) (l : List Int) (hx : 0 ≤ x) : ∀ n : Nat, ((W (x :: l) n : Nat) : Int) = (W l n : Nat) + (if 0 < x ∧ x ≤ (n : Int) then ((2 ^ (15 - x.toNat) : Nat) : Int) else 0)
  | 0 => by simp [W]; omega
  | n + 1 => by
    have ih := W_cons x l hx n
    simp only [W, cn_cons]
    by_cases h : x = ((n + 1 : Nat) : Int)
    · have h1 : ¬ (0 < x ∧ x ≤ (n : Int)) := by omega
      have h2 : 0 < x ∧ x ≤ ((n + 1 : Nat) : Int) := by omega
      have h3 : x.toNat = n + 1 := by omega
      rw [if_neg h1] at ih
      rw [if_pos h, if_pos h2, h3, Nat.add_mul, Nat.one_mul]
      generalize 2 ^ (15 - (n + 1)) = q at *
      generalize cn l (n + 1) * q = z
      omega
    · have h2 : (0 < x ∧ x ≤ ((n + 1 : Nat) : Int)) ↔ (0 < x ∧ x ≤ (n : Int)) := by omega
      rw [if_neg h, Nat.add_zero]
      simp only [h2]
      generalize (if 0 < x ∧ x ≤ (n : Int) then ((2 ^ (15 - x.toNat) : Nat) : Int) else 0) = y at *
      generalize cn l (n + 1) * 2 ^ (15 - (n + 1)) = z
      omega
theorem W_wgt : ∀ l : List Int, okIn 15 l = true → ((W l 15 : Nat) : Int) = wgt l
  | [], _ => by simp [W, wgt, cn]
  | x :: l, h => by
    rw [okIn_cons] at h
    simp only [Bool.and_eq_true, decide_eq_true_eq] at h
    rw [W_cons x l h.1.1, W_wgt l h.2]
    simp only [wgt, w1]
    by_cases hx : 0 < x
    · rw [if_pos ⟨hx, h.1.2⟩, if_pos hx]; omega
    · rw [if_neg (fun q => hx q.1), if_neg hx]; omega
theorem W_mono (l : List Int) : ∀ {n m : Nat}, n ≤ m → W l n ≤ W l m
  | n, 0, h => by obtain rfl : n = 0 := by omega
                  exact Nat.le_refl _
  | n, m + 1, h => by
    rcases Nat.lt_or_ge m n with q | q
    · obtain rfl : n = m + 1 := by omega
      exact Nat.le_refl _
    · exact Nat.le_trans (W_mono l q) (by show W l m ≤ W l m + _; omega)
theorem cn_take (l : List Int) (n i : Nat) (hi : i < l.length) : cn (l.take (i + 1)) n = cn (l.take i) n + (if l[i] = (n : Int) then 1 else 0) := by
  unfold cn
  rw [List.take_succ_eq_append_getElem hi, List.filter_append, List.length_append]
  by_cases h : l[i] = (n : Int) <;> simp [h]
theorem cn_take_le (l : List Int) (n i : Nat) : cn (l.take i) n ≤ cn l n := by
  unfold cn
  exact (List.Sublist.filter _ (List.take_sublist i l)).length_le
/-- Where a code's words begin, of 2^15. -/
def st (l : List Int) (n i : Nat) : Nat := (B l n + cn (l.take i) n) * 2 ^ (15 - n)
theorem st_end (l : List Int) (n : Nat) (h1 : 1 ≤ n) (h2 : n ≤ 15) : st l n l.length = W l n := by
  unfold st
  rw [List.take_length, Nat.add_mul]
  obtain ⟨m, rfl⟩ : ∃ m, n = m + 1 := ⟨n - 1, by omega⟩
  rw [BW l m h2]; rfl
theorem st_zero (l : List Int) (n : Nat) (h2 : n + 1 ≤ 15) : st l (n + 1) 0 = W l n := by
  unfold st
  rw [List.take_zero, show cn [] (n + 1) = 0 from rfl, Nat.add_zero, BW l n h2]
theorem st_step (l : List Int) (n i : Nat) (hi : i < l.length) : st l n (i + 1) = st l n i + (if l[i] = (n : Int) then 2 ^ (15 - n) else 0) := by
  unfold st
  rw [cn_take l n i hi]
  by_cases h : l[i] = (n : Int)
  · rw [if_pos h, if_pos h, ← Nat.add_assoc, Nat.add_mul _ 1, Nat.one_mul]
  · rw [if_neg h, if_neg h]; rfl
theorem st_le (l : List Int) (n i : Nat) (h1 : 1 ≤ n) (h2 : n ≤ 15) : st l n i ≤ W l n := by
  rw [← st_end l n h1 h2]
  unfold st
  rw [List.take_length]
  exact Nat.mul_le_mul_right _ (Nat.add_le_add_left (cn_take_le l n i) _)
theorem st_lt (l : List Int) (n i : Nat) (h1 : 1 ≤ n) (h2 : n ≤ 15) (hi : i < l.length) (he : l[i] = (n : Int)) : st l n i + 2 ^ (15 - n) ≤ W l n := by
  have := st_step l n i hi
  rw [if_pos he] at this
  rw [← this]
  exact st_le l n (i + 1) h1 h2
/-- The code of symbol j. -/
def cv (l : List Int) (j : Nat) : Nat := B l (rd l (j : Int)).toNat + cn (l.take j) (rd l (j : Int)).toNat
theorem st_cv (l : List Int) (j n : Nat) (h : rd l (j : Int) = (n : Int)) : st l n j = cv l j * 2 ^ (15 - n) := by
  unfold st cv; rw [h]; rfl

theorem setmap {α : Type} (f : Nat → α) (m i : Nat) (v : α) : ((List.range m).map f).set i v = (List.range m).map (fun j => if j = i then v else f j) := by
  apply List.ext_getElem
  · simp
  · intro j h1 h2
    simp only [List.length_set, List.length_map, List.length_range] at h1
    rw [List.getElem_set]
    by_cases hj : i = j
    · subst hj; simp
    · have : ¬ j = i := fun q => hj q.symm
      simp [hj, this]
theorem mapcongr {α : Type} {f g : Nat → α} {m : Nat} (h : ∀ j, j < m → f j = g j) : (List.range m).map f = (List.range m).map g := by
  apply List.map_congr_left
  intro j hj; exact h j (List.mem_range.1 hj)
def cd (l : List Int) (n j : Nat) : S88 := if 1 ≤ rd l (j : Int) ∧ rd l (j : Int) ≤ (n : Int) then S88.mk (rd l (j : Int)) (cv l j : Nat) else S88.mk 0 0
def hd (l : List Int) (n j : Nat) : Int := if 1 ≤ rd l (j : Int) ∧ rd l (j : Int) ≤ (n : Int) then ((cv l j : Nat) : Int) else 0
theorem shr15 (k : IntKind) (x : Nat) (n : Nat) (h : n ≤ 15) (hk : 15 ≤ k.bits) : shrI k ((x * 2 ^ n : Nat) : Int) (n : Int) = (x : Int) := by
  rw [shrI_eq k _ n (by omega)]
  have : ((2 ^ n : Nat) : Int) = (2 ^ n : Int) := by simp
  rw [← this, ← Int.natCast_ediv, Nat.mul_div_cancel _ (Nat.pow_pos (by decide))]
theorem uw (n : Nat) (h : n ≤ 15) : IntKind.u64.wrap (IntKind.i64.wrap (15 - (n : Int))) = ((15 - n : Nat) : Int) := by
  rw [w64 (by omega) (by omega), wu64]; omega
theorem su15 : ∀ n : Nat, n ≤ 15 → 1 ≤ n → shrI .u64 32768 (IntKind.u64.wrap (n : Int)) = ((2 ^ (15 - n) : Nat) : Int) := by decide +kernel
theorem l48a (l : List Int) (hl : l.length ≤ 17592186043904) (ho : okIn 15 l = true) (hw : W l 15 ≤ 32768) (n : Nat) (hn1 : 1 ≤ n) (hn2 : n ≤ 15) : ∀ (m k : Nat) (i : Nat), i + m = l.length → m < k →
    F48.l1 l (n : Int) k ((List.range l.length).map fun j => cd l (if j < i then n else n - 1) j) ((st l n i : Nat) : Int) (i : Int) = some ((List.range l.length).map (cd l n), ((st l n l.length : Nat) : Int))
  | m, 0, _, _, h => by omega
  | 0, k + 1, i, h, hk => by
    rw [F48.l1, if_neg (by omega)]
    obtain rfl : i = l.length := by omega
    congr 2
    exact mapcongr fun j hj => by rw [if_pos hj]
  | m + 1, k + 1, i, h, hk => by
    have hi : i < l.length := by omega
    have ew : IntKind.i64.wrap ((i : Int) + 1) = ((i + 1 : Nat) : Int) := by rw [w64 (by omega) (by omega)]; rfl
    have hs := st_step l n i hi
    have hmono := W_mono l hn2
    have ih := l48a l hl ho hw n hn1 hn2 m k (i + 1) (by omega) (by omega)
    rw [F48.l1, if_pos (by omega), if_pos (by omega), ew, rd_lt hi]
    simp only [lt]
    by_cases he : l[i] = (n : Int)
    · have hlt := st_lt l n i hn1 hn2 hi he
      rw [if_pos he] at hs
      rw [if_pos he, if_pos (uw0 _), if_pos (by simp; omega), if_pos (uw0 _), uw n hn2, su15 n hn2 hn1]
      have e1 : shrI .u64 ((st l n i : Nat) : Int) ((15 - n : Nat) : Int) = ((cv l i : Nat) : Int) := by
        rw [st_cv l i n (by rw [rd_lt hi]; exact he)]
        exact shr15 .u64 _ (15 - n) (by omega) (by decide)
      have e2 : IntKind.u64.wrap (((st l n i : Nat) : Int) + ((2 ^ (15 - n) : Nat) : Int)) = ((st l n (i + 1) : Nat) : Int) := by
        generalize 2 ^ (15 - n) = q at *
        rw [wu64, Int.emod_eq_of_lt (by omega) (by omega), hs]; simp
      rw [e1, e2, Int.toNat_natCast, setmap, ← ih]
      congr 1
      refine mapcongr fun j hj => ?_
      by_cases hji : j = i
      · subst hji
        rw [if_pos rfl, if_pos (by omega)]
        unfold cd
        rw [rd_lt hi, if_pos (by omega), he]
      · rw [if_neg hji]
        by_cases hlt2 : j < i
        · rw [if_pos hlt2, if_pos (by omega)]
        · rw [if_neg hlt2, if_neg (by omega)]
    · rw [if_neg he] at hs ⊢
      rw [hs, Nat.add_zero] at ih
      rw [← ih]
      congr 1
      refine mapcongr fun j hj => ?_
      by_cases hji : j = i
      · subst hji
        rw [if_neg (by omega), if_pos (by omega)]
        unfold cd
        rw [rd_lt hi]
        have : (1 ≤ l[j] ∧ l[j] ≤ ((n - 1 : Nat) : Int)) ↔ (1 ≤ l[j] ∧ l[j] ≤ (n : Int)) := by omega
        simp only [this]
      · by_cases hlt2 : j < i
        · rw [if_pos hlt2, if_pos (by omega)]
        · rw [if_neg hlt2, if_neg (by omega)]
theorem l48b (l : List Int) (hl : l.length ≤ 17592186043904) (ho : okIn 15 l = true) (hw : W l 15 ≤ 32768) : ∀ (m k : Nat) (n : Nat), n + m = 16 → 1 ≤ n → m + l.length < k →
    F48.l0 l k ((List.range l.length).map (cd l (n - 1))) ((W l (n - 1) : Nat) : Int) (n : Int) = some ((List.range l.length).map (cd l 15))
  | m, 0, _, _, _, h => by omega
  | 0, k + 1, n, h, h1, hk => by
    rw [F48.l0, if_neg (by omega)]
    obtain rfl : n = 16 := by omega
    rfl
  | m + 1, k + 1, n, h, h1, hk => by
    have ew : IntKind.i64.wrap ((n : Int) + 1) = ((n + 1 : Nat) : Int) := by rw [w64 (by omega) (by omega)]; rfl
    have ih := l48b l hl ho hw m k (n + 1) (by omega) (by omega) (by omega)
    obtain ⟨q, rfl⟩ : ∃ q, n = q + 1 := ⟨n - 1, by omega⟩
    have ha := l48a l hl ho hw (q + 1) (by omega) (by omega) l.length k 0 (by omega) (by omega)
    rw [st_zero l q (by omega), st_end l (q + 1) (by omega) (by omega)] at ha
    have e0 : ((List.range l.length).map fun j => cd l (if j < 0 then q + 1 else q + 1 - 1) j) = (List.range l.length).map (cd l (q + 1 - 1)) := mapcongr fun j _ => by rw [if_neg (by omega)]
    rw [e0] at ha
    rw [F48.l0, if_pos (by omega), show ((0 : Int)) = ((0 : Nat) : Int) from rfl]
    simp only [Nat.add_sub_cancel] at ha ih ⊢
    rw [ha]
    simp only [Option.bind_some, lt]
    rw [ew]
    exact ih
theorem f48 (l : List Int) (hl : l.length ≤ 8796093022208) (ho : okIn 15 l = true) (hw : wgt l ≤ 32768) (k : Nat) (hk : l.length + 16 < k) : F48.f k l = some ((List.range l.length).map (cd l 15)) := by
  have hW := W_wgt l ho
  have h := l48b l (by omega) ho (by omega) 15 k 1 rfl (by omega) (by omega)
  unfold F48.f
  rw [if_pos (by omega)]
  simp only [lt, Int.toNat_natCast]
  have e0 : (List.range l.length).map (cd l (1 - 1)) = List.replicate l.length (S88.mk 0 0) := by
    have : (List.range l.length).map (cd l (1 - 1)) = (List.range l.length).map (fun _ => S88.mk 0 0) := mapcongr fun j _ => by unfold cd; rw [if_neg (by omega)]
    rw [this, List.map_const', List.length_range]
  rw [e0] at h
  rw [show ((1 : Nat) : Int) = 1 from rfl, show ((W l (1 - 1) : Nat) : Int) = 0 from rfl] at h
  rw [h]; rfl

/-! ### bits -/
theorem or64 (a b : Nat) (ha : a < 2 ^ 64) (hb : b < 2 ^ 64) : orI .u64 (a : Int) (b : Int) = ((a ||| b : Nat) : Int) := by
  show IntKind.u64.wrap ((BitVec.ofInt 64 (a : Int) ||| BitVec.ofInt 64 (b : Int)).toNat : Int) = _
  rw [BitVec.ofInt_natCast, BitVec.ofInt_natCast, BitVec.toNat_or, BitVec.toNat_ofNat, BitVec.toNat_ofNat, Nat.mod_eq_of_lt ha, Nat.mod_eq_of_lt hb, wu64]
  have := Nat.or_lt_two_pow ha hb
  omega
theorem and64 (a b : Nat) (ha : a < 2 ^ 64) (hb : b < 2 ^ 64) : andI .u64 (a : Int) (b : Int) = ((a &&& b : Nat) : Int) := by
  show IntKind.u64.wrap ((BitVec.ofInt 64 (a : Int) &&& BitVec.ofInt 64 (b : Int)).toNat : Int) = _
  rw [BitVec.ofInt_natCast, BitVec.ofInt_natCast, BitVec.toNat_and, BitVec.toNat_ofNat, BitVec.toNat_ofNat, Nat.mod_eq_of_lt ha, Nat.mod_eq_of_lt hb, wu64]
  have : a &&& b ≤ a := Nat.and_le_left
  omega
theorem and8 (a b : Nat) (ha : a < 2 ^ 8) (hb : b < 2 ^ 8) : andI .u8 (a : Int) (b : Int) = ((a &&& b : Nat) : Int) := by
  show IntKind.u8.wrap ((BitVec.ofInt 8 (a : Int) &&& BitVec.ofInt 8 (b : Int)).toNat : Int) = _
  rw [BitVec.ofInt_natCast, BitVec.ofInt_natCast, BitVec.toNat_and, BitVec.toNat_ofNat, BitVec.toNat_ofNat, Nat.mod_eq_of_lt ha, Nat.mod_eq_of_lt hb, wu8]
  have : a &&& b ≤ a := Nat.and_le_left
  omega
theorem shl1 (a : Nat) (ha : a < 2 ^ 62) : shlI .u64 (a : Int) 1 = ((2 * a : Nat) : Int) := by
  show IntKind.u64.wrap ((a : Int) * 2 ^ (min (Int.toNat 1) 64)) = _
  rw [show min (Int.toNat 1) 64 = 1 from rfl, wu64]; omega
theorem or1 (a b : Nat) (hb : b < 2) : 2 * a ||| b = 2 * a + b := by
  have := Nat.two_pow_add_eq_or_of_lt (i := 1) (b := b) (by simpa using hb) a
  rw [Nat.pow_one] at this; exact this.symm
theorem push (a b : Nat) (ha : a < 2 ^ 62) (hb : b < 2) : orI .u64 (shlI .u64 (a : Int) 1) (b : Int) = ((2 * a + b : Nat) : Int) := by
  rw [shl1 a ha, or64 _ _ (by omega) (by omega), or1 a b hb]
theorem bit64 (a : Nat) (ha : a < 2 ^ 64) : andI .u64 (a : Int) 1 = ((a % 2 : Nat) : Int) := by
  rw [show (1 : Int) = ((1 : Nat) : Int) from rfl, and64 a 1 ha (by decide), Nat.and_one_is_mod]
theorem shrN (k : IntKind) (a n : Nat) (h : n ≤ k.bits) : shrI k (a : Int) (n : Int) = ((a / 2 ^ n : Nat) : Int) := by
  rw [shrI_eq k _ n h]
  have : ((2 ^ n : Nat) : Int) = (2 ^ n : Int) := by simp
  rw [← this, ← Int.natCast_ediv]
/-- The first s bits of v, turned about. -/
def rv (v : Nat) : Nat → Nat
  | 0 => 0
  | s + 1 => 2 * rv v s + (v / 2 ^ s) % 2
theorem rv_lt (v : Nat) : ∀ s, rv v s < 2 ^ s
  | 0 => by simp [rv]
  | s + 1 => by
    have := rv_lt v s
    have h2 := Nat.mod_lt (v / 2 ^ s) (show 0 < 2 by decide)
    rw [rv, Nat.pow_succ]; omega
theorem l49 (v s : Nat) (hv : v < 2 ^ 15) (hs : s ≤ 15) : ∀ (n k i : Nat), i + n = s → n < k → F49.l0 (S52.mk (v : Nat) (s : Nat)) k (S52.mk ((v / 2 ^ i : Nat) : Int) (s : Nat)) (S52.mk ((rv v i : Nat) : Int) (s : Nat)) (i : Int) = some (S52.mk ((rv v s : Nat) : Int) (s : Nat))
  | n, 0, i, _, h => by omega
  | 0, k + 1, i, h, hk => by
    obtain rfl : i = s := by omega
    rw [F49.l0, if_neg (by show ¬ ((i : Int) < (i : Int)); omega)]
  | n + 1, k + 1, i, h, hk => by
    have ew : IntKind.i64.wrap ((i : Int) + 1) = ((i + 1 : Nat) : Int) := by rw [w64 (by omega) (by omega)]; rfl
    have hr := rv_lt v i
    have hp : 2 ^ i ≤ 2 ^ 15 := Nat.pow_le_pow_right (by decide) (by omega)
    have hd : v / 2 ^ i ≤ v := Nat.div_le_self _ _
    have e1 : shrI .u64 ((v / 2 ^ i : Nat) : Int) 1 = ((v / 2 ^ (i + 1) : Nat) : Int) := by
      rw [show (1 : Int) = ((1 : Nat) : Int) from rfl, shrN .u64 _ 1 (by decide), Nat.pow_one, Nat.div_div_eq_div_mul, ← Nat.pow_succ]
    have e2 : orI .u64 (shlI .u64 ((rv v i : Nat) : Int) 1) (andI .u64 ((v / 2 ^ i : Nat) : Int) 1) = ((rv v (i + 1) : Nat) : Int) := by
      rw [bit64 _ (by omega), push _ _ (by omega) (Nat.mod_lt _ (by decide))]; rfl
    have ih := l49 v s hv hs n k (i + 1) (by omega) (by omega)
    rw [F49.l0, if_pos (by show (i : Int) < (s : Int); omega)]
    simp only [ew, e1, e2]
    exact ih
theorem f79 (v s : Nat) (hv : v < 2 ^ s) (hs : s ≤ 15) : F79.f (S52.mk (v : Nat) (s : Nat)) = some true := by
  have e : IntKind.u64.wrap (s : Int) = (s : Int) := by rw [wu64, Int.emod_eq_of_lt (by omega) (by omega)]
  have e2 : shrI .u64 (v : Int) (s : Int) = 0 := by rw [shrN .u64 v s (by show s ≤ 64; omega), Nat.div_eq_of_lt hv]; rfl
  have h1 : (decide ((s : Int) ≥ 0) && decide ((s : Int) ≤ 64)) = true := by simp; omega
  unfold F79.f
  simp only [lt, h1, if_true]
  rw [if_neg (by omega), if_pos (uw0 _), e, e2]; rfl
theorem f49 (v s : Nat) (hv : v < 2 ^ s) (hs : s ≤ 15) (k : Nat) (hk : 16 < k) : F49.f k (S52.mk (v : Nat) (s : Nat)) = some (S52.mk ((rv v s : Nat) : Int) (s : Nat), 0) := by
  have hp : 2 ^ s ≤ 2 ^ 15 := Nat.pow_le_pow_right (by decide) hs
  have h := l49 v s (by omega) hs s k 0 (by omega) (by omega)
  rw [Nat.pow_zero, Nat.div_one] at h
  unfold F49.f
  rw [f79 v s hv hs]
  have h' : F49.l0 (S52.mk (v : Nat) (s : Nat)) k (S52.mk (v : Nat) (s : Nat)) (S52.mk 0 (S52.mk (v : Nat) (s : Nat)).f1) 0 = some (S52.mk ((rv v s : Nat) : Int) (s : Nat)) := h
  simp only [Option.bind_some, Bool.not_true, Bool.false_eq_true, if_false, h']

/-! ### words are parted among the codes -/
theorem st_mono (l : List Int) (n : Nat) : ∀ {i j : Nat}, i ≤ j → j ≤ l.length → st l n i ≤ st l n j
  | i, 0, h, _ => by obtain rfl : i = 0 := by omega
                     exact Nat.le_refl _
  | i, j + 1, h, hj => by
    rcases Nat.lt_or_ge j i with q | q
    · obtain rfl : i = j + 1 := by omega
      exact Nat.le_refl _
    · have := st_mono l n q (by omega)
      rw [st_step l n j (by omega)]; omega
def S (l : List Int) (j : Nat) : Nat := cv l j * 2 ^ (15 - (rd l (j : Int)).toNat)
theorem rdNat (l : List Int) (ho : okIn 15 l = true) (j : Nat) (hj : j < l.length) : ∃ n : Nat, rd l (j : Int) = (n : Int) ∧ n ≤ 15 := by
  have hr := List.all_eq_true.1 ho l[j] (List.getElem_mem hj)
  simp only [Bool.and_eq_true, decide_eq_true_eq] at hr
  exact ⟨l[j].toNat, by rw [rd_lt hj]; omega, by omega⟩
theorem S_st (l : List Int) (j n : Nat) (h : rd l (j : Int) = (n : Int)) : S l j = st l n j := by
  rw [st_cv l j n h]; unfold S; rw [h]; rfl
theorem S_end (l : List Int) (j n : Nat) (hj : j < l.length) (h : rd l (j : Int) = (n : Int)) (h1 : 1 ≤ n) (h2 : n ≤ 15) : S l j + 2 ^ (15 - n) ≤ W l n := by
  rw [S_st l j n h]
  exact st_lt l n j h1 h2 hj (by rw [← rd_lt hj]; exact h)
theorem cv_lt (l : List Int) (hw : W l 15 ≤ 32768) (j n : Nat) (hj : j < l.length) (h : rd l (j : Int) = (n : Int)) (h1 : 1 ≤ n) (h2 : n ≤ 15) : cv l j < 2 ^ n := by
  have he := S_end l j n hj h h1 h2
  have hm := W_mono l h2
  have e : S l j = cv l j * 2 ^ (15 - n) := by rw [S_st l j n h, st_cv l j n h]
  have e2 : 2 ^ n * 2 ^ (15 - n) = 2 ^ 15 := by rw [← Nat.pow_add]; congr 1; omega
  have hp : 0 < 2 ^ (15 - n) := Nat.pow_pos (by decide)
  rw [e] at he
  refine Nat.lt_of_mul_lt_mul_right (a := 2 ^ (15 - n)) ?_
  rw [e2]
  generalize cv l j * 2 ^ (15 - n) = x at he ⊢
  generalize 2 ^ (15 - n) = y at he hp
  have : (2 : Nat) ^ 15 = 32768 := by decide
  omega
/-- Two codes: the later one begins behind the earlier one's words. -/
theorem S_after (l : List Int) (i j n m : Nat) (hi : i < l.length) (hj : j < l.length) (ei : rd l (i : Int) = (n : Int)) (ej : rd l (j : Int) = (m : Int)) (h1 : 1 ≤ n) (h2 : m ≤ 15) (h : n < m ∨ n = m ∧ i < j) : S l i + 2 ^ (15 - n) ≤ S l j := by
  rcases h with h | ⟨rfl, h⟩
  · have a := S_end l i n hi ei h1 (by omega)
    have b := W_mono l (show n ≤ m - 1 by omega)
    rw [S_st l j m ej]
    have c := st_mono l m (Nat.zero_le j) (by omega)
    obtain ⟨q, rfl⟩ : ∃ q, m = q + 1 := ⟨m - 1, by omega⟩
    rw [st_zero l q h2] at c
    simp only [Nat.add_sub_cancel] at b
    omega
  · rw [S_st l i n ei, S_st l j n ej]
    have a := st_step l n i hi
    rw [if_pos (by rw [← rd_lt hi]; exact ei)] at a
    have c := st_mono l n (show i + 1 ≤ j by omega) (by omega)
    omega
theorem ivt (f : Nat → Nat) (p : Nat) : ∀ m, f 0 ≤ p → p < f m → ∃ i, i < m ∧ f i ≤ p ∧ p < f (i + 1)
  | 0, h1, h2 => by omega
  | m + 1, h1, h2 => by
    rcases Nat.lt_or_ge p (f m) with q | q
    · obtain ⟨i, a, b, c⟩ := ivt f p m h1 q
      exact ⟨i, by omega, b, c⟩
    · exact ⟨m, by omega, q, h2⟩
theorem cover (l : List Int) (p : Nat) (hp : p < W l 15) : ∃ i n, i < l.length ∧ rd l (i : Int) = ((n : Nat) : Int) ∧ 1 ≤ n ∧ n ≤ 15 ∧ S l i ≤ p ∧ p < S l i + 2 ^ (15 - n) := by
  obtain ⟨q, hq, a, b⟩ := ivt (W l) p 15 (Nat.zero_le _) hp
  have a' : st l (q + 1) 0 ≤ p := by rw [st_zero l q (by omega)]; exact a
  have b' : p < st l (q + 1) l.length := by rw [st_end l (q + 1) (by omega) (by omega)]; exact b
  obtain ⟨i, hi, c, d⟩ := ivt (st l (q + 1)) p l.length a' b'
  rw [st_step l (q + 1) i hi] at d
  by_cases he : l[i] = ((q + 1 : Nat) : Int)
  · rw [if_pos he] at d
    have er : rd l (i : Int) = ((q + 1 : Nat) : Int) := by rw [rd_lt hi]; exact he
    exact ⟨i, q + 1, hi, er, by omega, by omega, by rw [S_st l i _ er]; exact c, by rw [S_st l i _ er]; exact d⟩
  · rw [if_neg he] at d; omega
theorem same_code (l : List Int) (i j n m : Nat) (hi : i < l.length) (hj : j < l.length) (ei : rd l (i : Int) = (n : Int)) (ej : rd l (j : Int) = (m : Int)) (h1 : 1 ≤ n) (h2 : n ≤ m) (h3 : m ≤ 15) (he : cv l j / 2 ^ (m - n) = cv l i) : i = j := by
  have e1 : S l i = cv l i * 2 ^ (15 - n) := by rw [S_st l i n ei, st_cv l i n ei]
  have e2 : S l j = cv l j * 2 ^ (15 - m) := by rw [S_st l j m ej, st_cv l j m ej]
  have e3 : 2 ^ (15 - n) = 2 ^ (m - n) * 2 ^ (15 - m) := by rw [← Nat.pow_add]; congr 1; omega
  have hp : 0 < 2 ^ (m - n) := Nat.pow_pos (by decide)
  have hq : 0 < 2 ^ (15 - m) := Nat.pow_pos (by decide)
  have lo : cv l i * 2 ^ (m - n) ≤ cv l j := by rw [← he]; exact Nat.div_mul_le_self _ _
  have hi' : cv l j < (cv l i + 1) * 2 ^ (m - n) := by rw [← he, Nat.add_mul, Nat.one_mul]; have := Nat.lt_div_mul_add (a := cv l j) hp; omega
  have lo2 : S l i ≤ S l j := by
    rw [e1, e2, e3, ← Nat.mul_assoc]; exact Nat.mul_le_mul_right _ lo
  have hi2 : S l j < S l i + 2 ^ (15 - n) := by
    rw [e1, e2, e3, ← Nat.mul_assoc]
    have : cv l j * 2 ^ (15 - m) < (cv l i + 1) * 2 ^ (m - n) * 2 ^ (15 - m) := Nat.mul_lt_mul_of_pos_right hi' hq
    rw [Nat.add_mul, Nat.one_mul, Nat.add_mul] at this
    exact this
  rcases Nat.lt_trichotomy i j with q | q | q
  · have := S_after l i j n m hi hj ei ej h1 h3 (by omega); omega
  · exact q
  · rcases Nat.lt_or_ge n m with r | r
    · have := S_after l i j n m hi hj ei ej h1 h3 (Or.inl r); omega
    · obtain rfl : n = m := by omega
      have := S_after l j i n n hj hi ej ei h1 h3 (Or.inr ⟨rfl, q⟩)
      have : 0 < 2 ^ (15 - n) := Nat.pow_pos (by decide)
      omega

/-! ### the program's codes -/
theorem f47 (l : List Int) (hl : l.length ≤ 17592186043904) (k : Nat) (hk : l.length < k) : F47.f k l = some (badL l) := by
  unfold F47.f badL
  rw [f52 15 l hl k hk]
  have e : ((l.length : Int) > 512) ↔ l.length > 512 := by omega
  simp only [Option.bind_some, e]
  cases ho : okIn 15 l
  · simp
  · rw [f53 l hl ho k hk]
    by_cases hw : wgt l ≤ 32768
    · have hw2 : ¬ wgt l > 32768 := by omega
      by_cases hh : l.length > 512 <;> simp [hw, hw2, hh]
    · have hw2 : wgt l > 32768 := by omega
      simp [hw, hw2]
def bt (l : List Int) (j : Nat) : S52 := if 1 ≤ rd l (j : Int) then S52.mk ((rv (cv l j) (rd l (j : Int)).toNat : Nat) : Int) (rd l (j : Int)) else S52.mk 0 0
theorem rdmap {α : Type} [Inhabited α] (f : Nat → α) (m j : Nat) (h : j < m) : rd ((List.range m).map f) (j : Int) = f j := by
  rw [rd_lt (by simpa using h)]; simp
theorem drop_range {α : Type} (f : Nat → α) (m i : Nat) (h : i < m) : ((List.range m).map f).drop i = f i :: ((List.range m).map f).drop (i + 1) := by
  rw [List.drop_eq_getElem_cons (by simpa using h)]; simp
theorem f49cd (l : List Int) (ho : okIn 15 l = true) (hw : W l 15 ≤ 32768) (j : Nat) (hj : j < l.length) (k : Nat) (hk : 16 < k) : F49.f k (S52.mk (cd l 15 j).f1 (cd l 15 j).f0) = some (bt l j, 0) := by
  obtain ⟨n, hn, h15⟩ := rdNat l ho j hj
  unfold cd bt
  rw [hn]
  by_cases h1 : 1 ≤ ((n : Nat) : Int)
  · rw [if_pos ⟨h1, by omega⟩, if_pos h1]
    exact f49 (cv l j) n (cv_lt l hw j n hj hn (by omega) h15) h15 k hk
  · rw [if_neg (by omega), if_neg h1]
    have := f49 0 0 (by decide) (by decide) k hk
    exact this
theorem l20 (l : List Int) (hl : l.length ≤ 512) (ho : okIn 15 l = true) (hw : W l 15 ≤ 32768) : ∀ (n k : Nat) (acc : List S52) (i : Nat), i + n = l.length → n + 17 < k → acc.length = i →
    F20.l0 ((List.range l.length).map (cd l 15)) k acc (i : Int) = some (Out.go (acc ++ ((List.range l.length).map (bt l)).drop i))
  | n, 0, _, _, _, h, _ => by omega
  | 0, k + 1, acc, i, h, hk, _ => by
    rw [F20.l0, if_neg (by simp; omega), List.drop_of_length_le (by simp; omega), List.append_nil]
  | n + 1, k + 1, acc, i, h, hk, ha => by
    have hi : i < l.length := by omega
    have ew : IntKind.i64.wrap ((i : Int) + 1) = ((i + 1 : Nat) : Int) := by rw [w64 (by omega) (by omega)]; rfl
    rw [F20.l0, if_pos (by simp; omega), if_pos (by simp; omega), rdmap _ _ _ hi, f49cd l ho hw i hi k (by omega), drop_range _ _ _ hi]
    simp only [Option.bind_some, lt, ew]
    rw [if_neg (by decide), if_pos (by simp; omega), l20 l hl ho hw n k _ (i + 1) (by omega) (by omega) (by simp; omega)]
    simp
theorem f20 (l : List Int) (hl : l.length ≤ 17592186043904) (k : Nat) (hk : l.length + 600 < k) : F20.f k l = some (if badL l = 0 then ((List.range l.length).map (bt l), 0) else ([], badL l)) := by
  unfold F20.f
  rw [f47 l hl k (by omega)]
  simp only [Option.bind_some]
  by_cases hb : badL l = 0
  · rw [if_neg (by omega), if_pos hb]
    unfold badL at hb
    split at hb
    · rename_i hc
      split at hb
      · cases hb
      · rename_i h5
        have hW := W_wgt l hc.1
        have h := l20 l (by omega) hc.1 (by omega) l.length k [] 0 (by omega) (by omega) rfl
        rw [show ((0 : Nat) : Int) = 0 from rfl, List.drop_zero, List.nil_append] at h
        rw [f48 l (by omega) hc.1 hc.2 k (by omega)]
        simp only [Option.bind_some, h, el_g]
    · cases hb
  · rw [if_pos hb, if_neg hb]
theorem badL_ok {l : List Int} (h : badL l = 0) : okIn 15 l = true ∧ wgt l ≤ 32768 ∧ l.length ≤ 512 := by
  unfold badL at h
  split at h
  · rename_i hc
    split at h
    · cases h
    · exact ⟨hc.1, hc.2, by omega⟩
  · cases h
end Go.Proofs.Ytocjoegcfojjhaa.HdTh

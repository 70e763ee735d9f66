/- What a receiver computes. -/
import Derived.Test.YtodkeoibebimgaaSq
import Derived.Test.YtodkeoibebimgaaSlP
namespace Go.Proofs.Ytodkeoibebimgaa.SqTk
open Go Go.RowKit Go.Proofs.Ytodkeoibebimgaa.SL Go.Proofs.Ytodkeoibebimgaa.Sq
set_option linter.unusedVariables false
set_option linter.unusedSimpArgs false

theorem wsucc {i : Nat} (h : i < 4611686018427387904) : IntKind.i64.wrap ((i : Int) + 1) = ((i + 1 : Nat) : Int) := by rw [w64 (by omega) (by omega)]; rfl
theorem wpred {i : Nat} (h0 : 0 < i) (h : i < 4611686018427387904) : IntKind.i64.wrap ((i : Int) - 1) = ((i - 1 : Nat) : Int) := by rw [w64 (by omega) (by omega)]; omega
def cv (x : S63) : S128 := S128.mk x.f0 (S41.mk x.f1) x.f2
theorem cv0 (x : S63) : (cv x).f0 = x.f0 := rfl
theorem cv1 (x : S63) : (cv x).f1 = S41.mk x.f1 := rfl
theorem rd_map {L : List S63} {i : Nat} (h : i < L.length) : rd (L.map cv) (i : Int) = cv (rd L (i : Int)) := by
  rw [rd_lt (by simpa using h), rd_lt h]; simp
theorem rd_mem {L : List S63} {i : Nat} (h : i < L.length) : rd L (i : Int) ∈ L := by rw [rd_lt h]; exact List.getElem_mem h
theorem f100 (x : S63) (n : Int) : F100.f (cv x) n = some (decide (x.f0 = n)) := rfl

/-! ### find -/
def find (L : List S63) (n : Int) : Option Nat := L.findIdx? fun x => decide (x.f0 = n)
theorem find_lt {L : List S63} {n : Int} {j : Nat} (h : find L n = some j) : j < L.length := by
  unfold find at h
  rw [List.findIdx?_eq_some_iff_getElem] at h
  exact h.1
theorem find_here {L : List S63} {n : Int} {i : Nat} (hi : i < L.length) (h : (rd L (i : Int)).f0 = n) (hb : ∀ j, j < i → (rd L (j : Int)).f0 ≠ n) : find L n = some i := by
  unfold find
  rw [List.findIdx?_eq_some_iff_getElem]
  refine ⟨hi, ?_, fun j hj => ?_⟩
  · rw [rd_lt hi] at h; simpa using h
  · have := hb j hj
    rw [rd_lt (by omega)] at this
    simpa using this
theorem find_none {L : List S63} {n : Int} (hb : ∀ j, j < L.length → (rd L (j : Int)).f0 ≠ n) : find L n = none := by
  unfold find
  rw [List.findIdx?_eq_none_iff]
  intro x hx
  obtain ⟨j, hj, rfl⟩ := List.getElem_of_mem hx
  have := hb j hj
  rw [rd_lt hj] at this
  simpa using this
theorem find_none' {L : List S63} {n : Int} (h : find L n = none) : ∀ x ∈ L, x.f0 ≠ n := fun x hx => by
  unfold find at h
  rw [List.findIdx?_eq_none_iff] at h
  simpa using h x hx
theorem l99 (L : List S63) (n : Int) (hL : L.length ≤ 4194304) : ∀ (m k i : Nat), i + m = L.length → m < k → (∀ j, j < i → (rd L (j : Int)).f0 ≠ n) →
    F99.l0 (L.map cv) (fun x => F100.f x n) k (i : Int) = some (match find L n with | some j => Out.ret (j : Int) | none => Out.go ())
  | _, 0, _, _, hk, _ => by omega
  | 0, k + 1, i, hi, hk, hb => by
    rw [F99.l0, if_neg (by simp; omega), find_none (fun j hj => hb j (by omega))]
  | m + 1, k + 1, i, hi, hk, hb => by
    have hi2 : i < L.length := by omega
    rw [F99.l0, if_pos (by simp; omega), if_pos (by simp; omega), rd_map hi2, f100]
    simp only [Option.bind_some]
    by_cases h : (rd L (i : Int)).f0 = n
    · rw [find_here hi2 h hb, if_pos (decide_eq_true h)]
    · rw [if_neg (by rw [decide_eq_true_eq]; exact h), wsucc (by omega)]
      exact l99 L n hL m k (i + 1) (by omega) (by omega) fun j hj => by
        by_cases hji : j = i
        · subst hji; exact h
        · exact hb j (by omega)
def fI (L : List S63) (n : Int) : Int := match find L n with | some j => (j : Int) | none => -1
theorem f61 (L : List S63) (n : Int) (hL : L.length ≤ 4194304) (k : Nat) (hk : L.length < k) : F61.f k (L.map cv) n = some (fI L n) := by
  unfold F61.f F99.f fI
  have h : F99.l0 (L.map cv) (fun x => F100.f x n) k 0 = _ := l99 L n hL L.length k 0 (by omega) hk (fun j hj => by omega)
  rw [h]
  cases find L n <;> rfl
theorem l97 (t : S121) (n : Int) (hL : t.f0.length ≤ 4194304) : ∀ (m k i : Nat), i + m = t.f0.length → m < k → (∀ j, j < i → (rd t.f0 (j : Int)).f0 ≠ n) →
    F97b0.l0 t n k (i : Int) = some (match find t.f0 n with | some j => Out.ret (j : Int) | none => Out.go ())
  | _, 0, _, _, hk, _ => by omega
  | 0, k + 1, i, hi, hk, hb => by
    rw [F97b0.l0, if_neg (by omega), find_none (fun j hj => hb j (by omega))]
  | m + 1, k + 1, i, hi, hk, hb => by
    have hi2 : i < t.f0.length := by omega
    rw [F97b0.l0, if_pos (by omega), if_pos (by omega)]
    by_cases h : (rd t.f0 (i : Int)).f0 = n
    · rw [find_here hi2 h hb, if_pos h]
    · rw [if_neg h, wsucc (by omega)]
      exact l97 t n hL m k (i + 1) (by omega) (by omega) fun j hj => by
        by_cases hji : j = i
        · subst hji; exact h
        · exact hb j (by omega)
theorem f97 (t : S121) (n : Int) (hL : t.f0.length ≤ 4194304) (k : Nat) (hk : t.f0.length < k) : F97b0.f k t n = some (fI t.f0 n) := by
  unfold F97b0.f fI
  have h : F97b0.l0 t n k 0 = _ := l97 t n hL t.f0.length k 0 (by omega) hk (fun j hj => by omega)
  rw [h]
  cases find t.f0 n <;> rfl

/-! ### thrown -/
def thr : List S63 → Int → List S63
  | [], _ => []
  | [x], _ => [x]
  | x :: y :: l, a => if x.f0 < a then thr (y :: l) a else x :: y :: l
theorem thr_drop (L : List S63) (a : Int) (i : Nat) (hi : i + 1 < L.length) : thr (L.drop i) a = if (rd L (i : Int)).f0 < a then thr (L.drop (i + 1)) a else L.drop i := by
  have e1 : L.drop i = rd L (i : Int) :: L.drop (i + 1) := by rw [rd_lt (by omega)]; exact List.drop_eq_getElem_cons (by omega)
  have e2 : L.drop (i + 1) = rd L ((i + 1 : Nat) : Int) :: L.drop (i + 1 + 1) := by rw [rd_lt (by omega)]; exact List.drop_eq_getElem_cons (by omega)
  rw [e1, e2, thr]
theorem thr_last (L : List S63) (a : Int) (i : Nat) (hi : i + 1 = L.length) : thr (L.drop i) a = L.drop i := by
  have e1 : L.drop i = rd L (i : Int) :: L.drop (i + 1) := by rw [rd_lt (by omega)]; exact List.drop_eq_getElem_cons (by omega)
  rw [e1, List.drop_eq_nil_of_le (by omega), thr]
theorem thr_suffix : ∀ (L : List S63) (a : Int), L ≠ [] → ∃ j, j < L.length ∧ thr L a = L.drop j
  | [], _, h => absurd rfl h
  | [x], _, _ => ⟨0, by simp, rfl⟩
  | x :: y :: l, a, _ => by
    rw [thr]
    split
    · obtain ⟨j, hj, e⟩ := thr_suffix (y :: l) a (by simp)
      exact ⟨j + 1, by simp at hj ⊢; omega, by rw [e]; rfl⟩
    · exact ⟨0, by simp, rfl⟩
theorem l93 (L : List S63) (a : Int) (hL : L.length ≤ 4194304) : ∀ (m k i : Nat), i + m + 1 = L.length → m < k → ∃ j : Nat, F93.l0 (L.map cv) a k (i : Int) = some (j : Int) ∧ j < L.length ∧ thr (L.drop i) a = L.drop j
  | _, 0, _, _, hk => by omega
  | 0, k + 1, i, hi, hk => by
    refine ⟨i, ?_, by omega, thr_last L a i (by omega)⟩
    rw [F93.l0, List.length_map, wpred (by omega) (by omega), if_neg (by omega)]
    rfl
  | m + 1, k + 1, i, hi, hk => by
    have ht := thr_drop L a i (by omega)
    by_cases h : (rd L (i : Int)).f0 < a
    · obtain ⟨j, h1, h2, h3⟩ := l93 L a hL m k (i + 1) (by omega) (by omega)
      refine ⟨j, ?_, h2, by rw [ht, if_pos h]; exact h3⟩
      rw [F93.l0, List.length_map, wpred (by omega) (by omega), if_pos (by omega), if_pos (by omega), rd_map (by omega), cv0]
      simp only [Option.bind_some, lt]
      rw [if_pos (by simpa using h), wsucc (by omega)]
      exact h1
    · refine ⟨i, ?_, by omega, by rw [ht, if_neg h]⟩
      rw [F93.l0, List.length_map, wpred (by omega) (by omega), if_pos (by omega), if_pos (by omega), rd_map (by omega), cv0]
      simp only [Option.bind_some, lt]
      rw [if_neg (by simpa using h)]
theorem f62 (l : List S128) (h : l.length ≤ 4194304) : F62.f l = some l := by
  unfold F62.f
  rw [if_pos (by simp; omega)]; simp [lt]
theorem f93 (L : List S63) (a : Int) (h0 : L ≠ []) (hL : L.length ≤ 4194304) (k : Nat) (hk : L.length ≤ k) : F93.f k (L.map cv) a = some ((thr L a).map cv) := by
  have hp : 0 < L.length := List.length_pos_iff.2 h0
  obtain ⟨j, h1, h2, h3⟩ := l93 L a hL (L.length - 1) k 0 (by omega) (by omega)
  rw [List.drop_zero] at h3
  unfold F93.f
  rw [show F93.l0 (L.map cv) a k 0 = some (j : Int) from h1]
  simp only [Option.bind_some]
  have hs : sub (L.map cv) (j : Int) ((L.map cv).length : Int) = (L.drop j).map cv := by
    unfold sub
    simp only [Int.toNat_natCast]
    rw [List.take_of_length_le (by simp), List.map_drop]
  rw [if_pos (by simp; omega), hs, ← h3]
  simp only [lt]
  rw [f62 _ (by rw [h3]; simp; omega)]
  rfl
def keep : List S63 → Int → List S63
  | [], _ => []
  | [x], _ => [x]
  | x :: y :: l, a => if x.f0 ≥ a then x :: keep (y :: l) a else keep (y :: l) a
def Asc (L : List S63) : Prop := L.Pairwise fun x y => x.f0 < y.f0
theorem thr_ge {x : S63} {l : List S63} {a : Int} (h : ¬ x.f0 < a) : thr (x :: l) a = x :: l := by
  cases l with
  | nil => rfl
  | cons y l => rw [thr, if_neg h]
theorem keep_thr : ∀ (L : List S63) (a : Int), Asc L → keep L a = thr L a
  | [], _, _ => rfl
  | [x], _, _ => rfl
  | x :: y :: l, a, h => by
    have h2 : Asc (y :: l) := (List.pairwise_cons.1 h).2
    have hxy : x.f0 < y.f0 := (List.pairwise_cons.1 h).1 y (by simp)
    rw [keep, thr, keep_thr (y :: l) a h2]
    by_cases q : x.f0 < a
    · rw [if_pos q, if_neg (by omega)]
    · rw [if_neg q, if_pos (by omega), thr_ge (by omega)]
theorem keep_drop (L : List S63) (a : Int) (i : Nat) (hi : i < L.length) : keep (L.drop i) a = if (rd L (i : Int)).f0 ≥ a ∨ i + 1 = L.length then rd L (i : Int) :: keep (L.drop (i + 1)) a else keep (L.drop (i + 1)) a := by
  have e1 : L.drop i = rd L (i : Int) :: L.drop (i + 1) := by rw [rd_lt (by omega)]; exact List.drop_eq_getElem_cons (by omega)
  by_cases hl : i + 1 = L.length
  · rw [if_pos (.inr hl), e1, List.drop_eq_nil_of_le (show L.length ≤ i + 1 by omega)]; rfl
  · have e2 : L.drop (i + 1) = rd L ((i + 1 : Nat) : Int) :: L.drop (i + 1 + 1) := by rw [rd_lt (by omega)]; exact List.drop_eq_getElem_cons (by omega)
    rw [e1, e2, keep]
    by_cases q : (rd L (i : Int)).f0 ≥ a
    · rw [if_pos q, if_pos (.inl q)]
    · rw [if_neg q, if_neg (by omega)]
theorem l98 (t : S121) (a : Int) (hL : t.f0.length ≤ 4194304) : ∀ (m k i : Nat) (acc : List S63), i + m = t.f0.length → m < k → acc.length ≤ i → F98b0.l0 t a k acc (i : Int) = some (acc ++ keep (t.f0.drop i) a)
  | _, 0, _, _, _, hk, _ => by omega
  | 0, k + 1, i, acc, hi, hk, _ => by
    rw [F98b0.l0, if_neg (by omega), List.drop_eq_nil_of_le (by omega), keep, List.append_nil]
  | m + 1, k + 1, i, acc, hi, hk, ha => by
    rw [F98b0.l0, if_pos (by omega), if_pos (by omega), wpred (by omega) (by omega), wsucc (by omega), keep_drop t.f0 a i (by omega)]
    simp only [lt]
    by_cases q : (rd t.f0 (i : Int)).f0 ≥ a ∨ i + 1 = t.f0.length
    · rw [if_pos q, if_pos (by simp only [Bool.or_eq_true, decide_eq_true_eq]; omega), if_pos (by omega), if_pos (by simp; omega), l98 t a hL m k (i + 1) _ (by omega) (by omega) (by simp; omega), List.append_assoc]
      rfl
    · rw [if_neg q, if_neg (by simp only [Bool.or_eq_true, decide_eq_true_eq]; omega), l98 t a hL m k (i + 1) _ (by omega) (by omega) (by omega)]
theorem f98 (t : S121) (a : Int) (hA : Asc t.f0) (hL : t.f0.length ≤ 4194304) (k : Nat) (hk : t.f0.length < k) : F98b0.f k t a = some (S121.mk (thr t.f0 a)) := by
  unfold F98b0.f
  have h : F98b0.l0 t a k [] 0 = _ := l98 t a hL t.f0.length k 0 [] (by omega) hk (by simp)
  rw [h, List.drop_zero, keep_thr _ _ hA]
  rfl
theorem l55 (t : S121) (x : S54) (hL : t.f0.length ≤ 4194304) : ∀ (m k i n : Nat), i + m = t.f0.length → m < k → n ≤ i → F55b0.l0 t x k (n : Int) (i : Int) = some ((n + (keep (t.f0.drop i) x.f3).length : Nat) : Int)
  | _, 0, _, _, _, hk, _ => by omega
  | 0, k + 1, i, n, hi, hk, _ => by
    rw [F55b0.l0, if_neg (by omega), List.drop_eq_nil_of_le (by omega), keep]; rfl
  | m + 1, k + 1, i, n, hi, hk, hn => by
    have e : (if 0 ≤ (i : Int) ∧ (i : Int) < (t.f0.length : Int) then (if ((rd t.f0 (i : Int)).f0) ≥ x.f3 then (some true) else (some (decide ((i : Int) = ((t.f0.length - 1 : Nat) : Int))))) else none) = some (decide ((rd t.f0 (i : Int)).f0 ≥ x.f3 ∨ i + 1 = t.f0.length)) := by
      rw [if_pos (by omega)]
      by_cases q : (rd t.f0 (i : Int)).f0 ≥ x.f3
      · rw [if_pos q]; simp [q]
      · rw [if_neg q]; congr 1; rw [decide_eq_decide]; omega
    rw [F55b0.l0, if_pos (by omega), wpred (by omega) (by omega), e, wsucc (by omega), wsucc (by omega), keep_drop t.f0 x.f3 i (by omega)]
    simp only [Option.bind_some, lt]
    by_cases q : (rd t.f0 (i : Int)).f0 ≥ x.f3 ∨ i + 1 = t.f0.length
    · rw [if_pos (decide_eq_true q), if_pos q, l55 t x hL m k (i + 1) (n + 1) (by omega) (by omega) (by omega)]
      congr 2; simp; omega
    · rw [if_neg (by rw [decide_eq_true_eq]; exact q), if_neg q, l55 t x hL m k (i + 1) n (by omega) (by omega) (by omega)]

/-! ### where a number goes -/
def pos (L : List S63) (n : Int) : Nat := (L.filter fun x => decide (x.f0 < n)).length
theorem asc_take : ∀ (L : List S63) (n : Int), Asc L → (L.filter fun x => decide (x.f0 < n)) = L.take (pos L n) ∧ (L.filter fun x => decide (x.f0 ≥ n)) = L.drop (pos L n)
  | [], _, _ => ⟨rfl, rfl⟩
  | x :: l, n, h => by
    have h2 := (List.pairwise_cons.1 h).2
    have h1 := (List.pairwise_cons.1 h).1
    obtain ⟨i1, i2⟩ := asc_take l n h2
    unfold pos at *
    by_cases q : x.f0 < n
    · rw [List.filter_cons_of_pos (by simpa using q), List.filter_cons_of_neg (by simp; omega), List.length_cons, List.take_succ_cons, List.drop_succ_cons, ← i1, ← i2]
      exact ⟨rfl, rfl⟩
    · have e : (l.filter fun x => decide (x.f0 < n)) = [] := by
        rw [List.filter_eq_nil_iff]
        intro y hy
        have := h1 y hy
        simp; omega
      rw [List.filter_cons_of_neg (by simpa using q), List.filter_cons_of_pos (by simp; omega), e]
      rw [e] at i2
      simp only [List.length_nil, List.drop_zero, List.take_zero] at i2 ⊢
      exact ⟨trivial, by rw [i2]⟩
theorem pos_le (L : List S63) (n : Int) : pos L n ≤ L.length := List.length_filter_le _ _
theorem asc_rd {L : List S63} (h : Asc L) {i j : Nat} (hij : i < j) (hj : j < L.length) : (rd L (i : Int)).f0 < (rd L (j : Int)).f0 := by
  rw [rd_lt (by omega), rd_lt hj]
  exact List.pairwise_iff_getElem.1 h i j (by omega) hj hij
theorem pos_lt {L : List S63} {n : Int} (h : Asc L) {i : Nat} (hi : i < L.length) : (rd L (i : Int)).f0 < n ↔ i < pos L n := by
  obtain ⟨h1, h2⟩ := asc_take L n h
  have hp := pos_le L n
  constructor
  · intro q
    rcases Nat.lt_or_ge i (pos L n) with z | z
    · exact z
    · exfalso
      have hm : rd L (i : Int) ∈ L.drop (pos L n) := by
        rw [rd_lt hi, List.mem_drop_iff_getElem]
        exact ⟨i - pos L n, by omega, by congr 1; omega⟩
      rw [← h2, List.mem_filter] at hm
      have := hm.2
      simp at this; omega
  · intro q
    have hm : rd L (i : Int) ∈ L.take (pos L n) := by
      rw [rd_lt hi, List.mem_take_iff_getElem]
      exact ⟨i, by omega, rfl⟩
    rw [← h1, List.mem_filter] at hm
    simpa using hm.2
theorem mid {a b : Nat} (h : a + b < 4611686018427387904) : IntKind.i64.wrap (shrI .u64 (IntKind.u64.wrap (IntKind.i64.wrap ((a : Int) + (b : Int)))) 1) = (((a + b) / 2 : Nat) : Int) := by
  rw [w64 (x := (a : Int) + (b : Int)) (by omega) (by omega), wu64, Int.emod_eq_of_lt (by omega) (by omega)]
  have := shrI_eq .u64 ((a : Int) + (b : Int)) 1 (by decide)
  rw [show ((1 : Nat) : Int) = 1 from rfl] at this
  rw [this]
  have e : ((a : Int) + (b : Int)) / (2 ^ 1 : Int) = (((a + b) / 2 : Nat) : Int) := by omega
  rw [e, w64 (by omega) (by omega)]
theorem l94 (L : List S63) (n : Int) (hA : Asc L) (hL : L.length ≤ 4194304) : ∀ (m k lo hi : Nat), hi - lo ≤ m → m < k → lo ≤ pos L n → pos L n ≤ hi → hi ≤ L.length →
    F94.l0 (L.map cv) n (fun x0 x1 => F95.f x0 x1) k (lo : Int) (hi : Int) = some ((pos L n : Nat) : Int)
  | _, 0, _, _, _, hk, _, _, _ => by omega
  | m, k + 1, lo, hi, hm, hk, h1, h2, h3 => by
    rw [F94.l0]
    by_cases q : lo < hi
    · rw [if_pos (by omega), mid (by omega)]
      simp only [lt]
      have hmid : (lo + hi) / 2 < L.length := by omega
      rw [if_pos (by rw [List.length_map]; omega), rd_map hmid]
      have hp := pos_lt (n := n) hA hmid
      unfold F95.f
      rw [cv0]
      cases m with
      | zero => omega
      | succ m =>
        by_cases z : (rd L (((lo + hi) / 2 : Nat) : Int)).f0 < n
        · rw [if_pos z]
          simp only [Option.bind_some]
          rw [if_pos (by decide), wsucc (by omega)]
          exact l94 L n hA hL m k ((lo + hi) / 2 + 1) hi (by omega) (by omega) (by have := hp.1 z; omega) h2 h3
        · rw [if_neg z]
          have e : ((if (rd L (((lo + hi) / 2 : Nat) : Int)).f0 > n then some 1 else some 0 : Option Int)).bind (fun r11 => if r11 < 0 then F94.l0 (L.map cv) n (fun x0 x1 => F95.f x0 x1) k (IntKind.i64.wrap ((((lo + hi) / 2 : Nat) : Int) + 1)) (hi : Int) else F94.l0 (L.map cv) n (fun x0 x1 => F95.f x0 x1) k (lo : Int) (((lo + hi) / 2 : Nat) : Int)) = F94.l0 (L.map cv) n (fun x0 x1 => F95.f x0 x1) k (lo : Int) (((lo + hi) / 2 : Nat) : Int) := by
            by_cases y : (rd L (((lo + hi) / 2 : Nat) : Int)).f0 > n
            · rw [if_pos y]; rfl
            · rw [if_neg y]; rfl
          refine Eq.trans e ?_
          exact l94 L n hA hL m k lo ((lo + hi) / 2) (by omega) (by omega) h1 (by
            rcases Nat.lt_or_ge ((lo + hi) / 2) (pos L n) with y | y
            · exact absurd (hp.2 y) z
            · exact y) (by omega)
    · rw [if_neg (by omega)]
      congr 2; omega
theorem f94 (L : List S63) (n : Int) (hA : Asc L) (hL : L.length ≤ 4194304) (k : Nat) (hk : L.length < k) : ∃ b, F94.f k (L.map cv) n (fun x0 x1 => F95.f x0 x1) = some (((pos L n : Nat) : Int), b) := by
  have hp := pos_le L n
  unfold F94.f
  simp only [lt]
  have h : F94.l0 (L.map cv) n (fun x0 x1 => F95.f x0 x1) k 0 ((L.map cv).length : Int) = some ((pos L n : Nat) : Int) := by
    rw [List.length_map]; exact l94 L n hA hL L.length k 0 L.length (by omega) hk (by omega) hp (Nat.le_refl _)
  rw [h]
  simp only [Option.bind_some]
  by_cases q : pos L n < L.length
  · rw [if_pos (by rw [List.length_map]; omega), if_pos (by rw [List.length_map]; omega), rd_map q]
    unfold F95.f
    split
    · exact ⟨_, rfl⟩
    · split <;> exact ⟨_, rfl⟩
  · rw [if_neg (by rw [List.length_map]; omega)]
    exact ⟨_, rfl⟩

/-! ### Take -/
theorem l55b (t : S121) (x : S54) (hL : t.f0.length ≤ 4194304) : ∀ (m k i : Nat) (acc : List S63), i + m = t.f0.length → m < k → acc.length ≤ i → F55b0.l1 t x k acc (i : Int) = some (acc ++ (t.f0.drop i).filter fun y => decide (y.f0 < x.f1))
  | _, 0, _, _, _, hk, _ => by omega
  | 0, k + 1, i, acc, hi, hk, _ => by
    rw [F55b0.l1, if_neg (by omega), List.drop_eq_nil_of_le (by omega)]; simp
  | m + 1, k + 1, i, acc, hi, hk, ha => by
    have e1 : t.f0.drop i = rd t.f0 (i : Int) :: t.f0.drop (i + 1) := by rw [rd_lt (by omega)]; exact List.drop_eq_getElem_cons (by omega)
    rw [F55b0.l1, if_pos (by omega), if_pos (by omega), wsucc (by omega), e1]
    simp only [lt]
    by_cases q : (rd t.f0 (i : Int)).f0 < x.f1
    · rw [if_pos q, if_pos (by omega), if_pos (by simp; omega), l55b t x hL m k (i + 1) _ (by omega) (by omega) (by simp; omega), List.filter_cons_of_pos (by simpa using q), List.append_assoc]
      rfl
    · rw [if_neg q, l55b t x hL m k (i + 1) _ (by omega) (by omega) (by omega), List.filter_cons_of_neg (by simpa using q)]
theorem l55c (t : S121) (x : S54) (hL : t.f0.length ≤ 4194304) (N : Nat) (hN : N ≤ 4194305) : ∀ (m k i : Nat) (acc : List S63), i + m = t.f0.length → m < k → acc.length ≤ i + N → F55b0.l2 t x k acc (i : Int) = some (acc ++ (t.f0.drop i).filter fun y => decide (y.f0 > x.f1))
  | _, 0, _, _, _, hk, _ => by omega
  | 0, k + 1, i, acc, hi, hk, _ => by
    rw [F55b0.l2, if_neg (by omega), List.drop_eq_nil_of_le (by omega)]; simp
  | m + 1, k + 1, i, acc, hi, hk, ha => by
    have e1 : t.f0.drop i = rd t.f0 (i : Int) :: t.f0.drop (i + 1) := by rw [rd_lt (by omega)]; exact List.drop_eq_getElem_cons (by omega)
    rw [F55b0.l2, if_pos (by omega), if_pos (by omega), wsucc (by omega), e1]
    simp only [lt]
    by_cases q : (rd t.f0 (i : Int)).f0 > x.f1
    · rw [if_pos q, if_pos (by omega), if_pos (by simp; omega), l55c t x hL N hN m k (i + 1) _ (by omega) (by omega) (by simp; omega), List.filter_cons_of_pos (by simpa using q), List.append_assoc]
      rfl
    · rw [if_neg q, l55c t x hL N hN m k (i + 1) _ (by omega) (by omega) (by omega), List.filter_cons_of_neg (by simpa using q)]
def ins (L : List S63) (r : S63) : List S63 := L.take (pos L r.f0) ++ [r] ++ L.drop (pos L r.f0)
theorem ins_asc {L : List S63} {r : S63} (h : Asc L) (hn : ∀ x ∈ L, x.f0 ≠ r.f0) : Asc (ins L r) := by
  obtain ⟨h1, h2⟩ := asc_take L r.f0 h
  unfold ins
  rw [← h1, ← h2]
  have hf : ∀ p : S63 → Bool, Asc (L.filter p) := fun p => List.Pairwise.filter p h
  refine List.pairwise_append.2 ⟨List.pairwise_append.2 ⟨hf _, List.pairwise_singleton _ _, fun a ha b hb => ?_⟩, hf _, fun a ha b hb => ?_⟩
  · simp at hb; subst hb
    simpa using (List.mem_filter.1 ha).2
  · have hb2 := (List.mem_filter.1 hb)
    have hb3 := hn b hb2.1
    have hb4 : b.f0 ≥ r.f0 := by simpa using hb2.2
    rcases List.mem_append.1 ha with q | q
    · have : a.f0 < r.f0 := by simpa using (List.mem_filter.1 q).2
      omega
    · simp at q; subst q; omega
theorem ins_len {L : List S63} {r : S63} : (ins L r).length = L.length + 1 := by
  have := pos_le L r.f0
  simp [ins]; omega
theorem ins_ref {L : List S63} {r : S63} (h : Asc L) (hn : ∀ x ∈ L, x.f0 ≠ r.f0) : (L.filter fun y => decide (y.f0 < r.f0)) ++ [r] ++ (L.filter fun y => decide (y.f0 > r.f0)) = ins L r := by
  obtain ⟨h1, h2⟩ := asc_take L r.f0 h
  unfold ins
  rw [← h1, ← h2]
  congr 1
  refine List.filter_congr fun x hx => ?_
  have := hn x hx
  rw [decide_eq_decide]; omega
theorem f96 (l0 : List S128) (p : Nat) (x : S128) (hp : p ≤ l0.length) (hl : l0.length ≤ 4194304) : F96m0b2.f l0 (p : Int) [x] = some (l0.take p ++ [x] ++ l0.drop p) := by
  unfold F96m0b2.f
  rw [if_pos (by omega)]
  simp only [lt, List.length_singleton]
  rw [if_neg (by decide)]
  by_cases q : (p : Int) = (l0.length : Int)
  · have : p = l0.length := by omega
    rw [if_pos q, if_pos (by omega), this]; simp
  · rw [if_neg q, if_pos (by omega), Int.toNat_natCast]
theorem strOf_size (l : List Int) : (strOf l).size = l.length := strOfNums_size l
/-- What a receiver comes to. -/
def take (L : List S63) (x : S54) : Bool × Int × List S63 :=
  if fI L x.f1 ≥ 0 then (false, 0, thr L x.f3)
  else if fI L x.f0 < 0 ∨ x.f1 < x.f0 then (false, 230, L)
  else if (thr L x.f3).length ≥ 32 then (false, 231, L)
  else (decide (pos L x.f1 = L.length), 0, thr (ins L (S63.mk x.f1 ((rd L (fI L x.f0)).f1 ++ strOf x.f4) 0)) x.f3)
theorem fI_lt {L : List S63} {n : Int} (h : ¬ fI L n < 0) : ∃ j : Nat, fI L n = (j : Int) ∧ j < L.length := by
  unfold fI at h ⊢
  cases q : find L n with
  | none => rw [q] at h; simp at h
  | some j => exact ⟨j, rfl, find_lt q⟩
theorem fI_none {L : List S63} {n : Int} (h : ¬ fI L n ≥ 0) : ∀ x ∈ L, x.f0 ≠ n := by
  unfold fI at h
  cases q : find L n with
  | none => exact find_none' q
  | some j => rw [q] at h; simp at h
theorem thr_len {L : List S63} {a : Int} : (thr L a).length ≤ L.length := by
  by_cases h : L = []
  · subst h; simp [thr]
  · obtain ⟨j, _, e⟩ := thr_suffix L a h
    rw [e]; simp
structure RI (B : Nat) (L : List S63) : Prop where
  ne : L ≠ []
  asc : Asc L
  txt : ∀ x ∈ L, x.f1.size ≤ B
theorem thr_inv {B : Nat} {L : List S63} (h : RI B L) (a : Int) : RI B (thr L a) := by
  obtain ⟨j, hj, e⟩ := thr_suffix L a h.ne
  rw [e]
  refine ⟨fun q => ?_, List.Pairwise.drop h.asc, fun x hx => h.txt x (List.mem_of_mem_drop hx)⟩
  have := congrArg List.length q
  simp at this; omega
theorem take_inv {B : Nat} {L : List S63} (h : RI B L) (x : S54) : RI (B + x.f4.length) (take L x).2.2 ∧ (take L x).2.2.length ≤ L.length + 1 := by
  have up : ∀ M, RI B M → RI (B + x.f4.length) M := fun M q => ⟨q.ne, q.asc, fun y hy => by have := q.txt y hy; omega⟩
  unfold take
  split
  · exact ⟨up _ (thr_inv h _), by have := thr_len (L := L) (a := x.f3); show (thr L x.f3).length ≤ _; omega⟩
  · rename_i hn
    split
    · exact ⟨up _ h, by show L.length ≤ _; omega⟩
    · rename_i ho
      split
      · exact ⟨up _ h, by show L.length ≤ _; omega⟩
      · obtain ⟨j, hj, hjl⟩ := fI_lt (L := L) (n := x.f0) (by omega)
        have hm := rd_mem hjl
        have hI : RI (B + x.f4.length) (ins L (S63.mk x.f1 ((rd L (fI L x.f0)).f1 ++ strOf x.f4) 0)) := by
          refine ⟨fun q => ?_, ins_asc h.asc (fI_none hn), fun y hy => ?_⟩
          · have := congrArg List.length q
            rw [ins_len] at this; simp at this
          · unfold ins at hy
            rcases List.mem_append.1 hy with q | q
            · rcases List.mem_append.1 q with q | q
              · have := h.txt y (List.mem_of_mem_take q); omega
              · simp at q; subst q
                show (_ ++ _ : ByteArray).size ≤ _
                rw [ByteArray.size_append, strOf_size, hj]
                have := h.txt _ hm; omega
            · have := h.txt y (List.mem_of_mem_drop q); omega
        refine ⟨thr_inv hI _, ?_⟩
        have := thr_len (L := ins L (S63.mk x.f1 ((rd L (fI L x.f0)).f1 ++ strOf x.f4) 0)) (a := x.f3)
        rw [ins_len] at this
        exact this
theorem f92 {L : List S63} (h : L ≠ []) : F92.f (S162.mk (L.map cv)) = some true := by
  have := List.length_pos_iff.2 h
  unfold F92.f
  simp
  omega
theorem f64 (l : List Int) (h : l.length ≤ 4194304) : F64.f l = some l := by
  unfold F64.f
  rw [if_pos (by simp; omega)]
  simp [lt]
theorem f52 {B : Nat} {L : List S63} (h : RI B L) (hB : B ≤ 4194304) (hL : L.length ≤ 4194000) (x : S54) (hx : x.f4.length ≤ 4194304) (k : Nat) (hk : 4194400 ≤ k) : F52.f k (S162.mk (L.map cv)) x = some ((take L x).1, (take L x).2.1, S162.mk ((take L x).2.2.map cv)) := by
  have hpos := pos_le L x.f1
  unfold F52.f take
  rw [f92 h.ne]
  simp only [Option.bind_some, Bool.not_true, Bool.false_eq_true, if_false]
  rw [f61 L x.f1 (by omega) k (by omega)]
  simp only [Option.bind_some]
  by_cases c1 : fI L x.f1 ≥ 0
  · rw [if_pos c1, if_pos c1, f93 L x.f3 h.ne (by omega) k (by omega)]; rfl
  · rw [if_neg c1, if_neg c1, f61 L x.f0 (by omega) k (by omega)]
    simp only [Option.bind_some, lt]
    by_cases c2 : fI L x.f0 < 0 ∨ x.f1 < x.f0
    · rw [if_pos (by simpa only [Bool.or_eq_true, decide_eq_true_eq] using c2), if_pos c2]
    · rw [if_neg (by simpa only [Bool.or_eq_true, decide_eq_true_eq] using c2), if_neg c2, f93 L x.f3 h.ne (by omega) k (by omega)]
      simp only [Option.bind_some, List.length_map]
      by_cases c3 : (thr L x.f3).length ≥ 32
      · rw [if_pos (by omega), if_pos c3]
      · obtain ⟨j, hj, hjl⟩ := fI_lt (L := L) (n := x.f0) (by omega)
        have hm := rd_mem hjl
        have hsz := h.txt _ hm
        obtain ⟨b, hb⟩ := f94 L x.f1 h.asc (by omega) k (by omega)
        rw [if_neg (by omega), if_neg c3, hj, if_pos (by omega), f64 _ hx, rd_map hjl, cv1]
        simp only [Option.bind_some]
        have e142 : F142b1.f (S41.mk (rd L (j : Int)).f1) x.f4 = some (S41.mk ((rd L (j : Int)).f1 ++ strOf x.f4), 0) := by
          unfold F142b1.f
          rw [if_pos (by rw [strOf_size]; show (rd L (j : Int)).f1.size + _ ≤ _; omega)]
        rw [e142]
        simp only [Option.bind_some]
        rw [if_neg (by simp), hb, f62 _ (by simp; omega)]
        simp only [Option.bind_some, F143.f]
        rw [f96 _ _ _ (by simpa using hpos) (by simp; omega)]
        simp only [Option.bind_some]
        have hins : (L.map cv).take (pos L x.f1) ++ [S128.mk x.f1 (S41.mk ((rd L (j : Int)).f1 ++ strOf x.f4)) 0] ++ (L.map cv).drop (pos L x.f1) = (ins L (S63.mk x.f1 ((rd L (j : Int)).f1 ++ strOf x.f4) 0)).map cv := by
          unfold ins
          simp [cv, List.map_take, List.map_drop]
        rw [hins, f93 _ x.f3 (fun q => by have := congrArg List.length q; rw [ins_len] at this; simp at this) (by rw [ins_len]; omega) k (by rw [ins_len]; omega)]
        simp only [Option.bind_some]
        congr 2
        rw [decide_eq_decide]; omega
theorem f55 {B : Nat} {L : List S63} (h : RI B L) (hB : B ≤ 4194304) (hL : L.length ≤ 4194000) (x : S54) (hx : x.f4.length ≤ 4194304) (k : Nat) (hk : 4194400 ≤ k) : F55b0.f k (S121.mk L) x = some ((take L x).1, (take L x).2.1, S121.mk (take L x).2.2) := by
  unfold F55b0.f take
  rw [f97 (S121.mk L) x.f1 (by show L.length ≤ _; omega) k (by show L.length < k; omega)]
  simp only [Option.bind_some]
  by_cases c1 : fI L x.f1 ≥ 0
  · rw [if_pos c1, if_pos c1, f98 (S121.mk L) x.f3 h.asc (by show L.length ≤ _; omega) k (by show L.length < k; omega)]; rfl
  · rw [if_neg c1, if_neg c1, f97 (S121.mk L) x.f0 (by show L.length ≤ _; omega) k (by show L.length < k; omega)]
    simp only [Option.bind_some, lt]
    by_cases c2 : fI L x.f0 < 0 ∨ x.f1 < x.f0
    · rw [if_pos (by simpa only [Bool.or_eq_true, decide_eq_true_eq] using c2), if_pos c2]
    · have h0 : F55b0.l0 (S121.mk L) x k 0 0 = some (((0 + (keep (L.drop 0) x.f3).length : Nat)) : Int) := l55 (S121.mk L) x (by show L.length ≤ _; omega) L.length k 0 0 (by show 0 + L.length = L.length; omega) (by omega) (by omega)
      rw [if_neg (by simpa only [Bool.or_eq_true, decide_eq_true_eq] using c2), if_neg c2, h0, List.drop_zero, keep_thr _ _ h.asc]
      simp only [Option.bind_some]
      by_cases c3 : (thr L x.f3).length ≥ 32
      · rw [if_pos (by omega), if_pos c3]
      · obtain ⟨j, hj, hjl⟩ := fI_lt (L := L) (n := x.f0) (by omega)
        have hm := rd_mem hjl
        have hsz := h.txt _ hm
        have h1 : F55b0.l1 (S121.mk L) x k [] 0 = some ([] ++ (L.drop 0).filter fun y => decide (y.f0 < x.f1)) := l55b (S121.mk L) x (by show L.length ≤ _; omega) L.length k 0 [] (by show 0 + L.length = L.length; omega) (by omega) (by simp)
        have hfl : (L.filter fun y => decide (y.f0 < x.f1)).length ≤ L.length := List.length_filter_le _ _
        rw [if_neg (by omega), if_neg c3, hj, if_pos (by show 0 ≤ (j : Int) ∧ (j : Int) < (L.length : Int); omega), if_pos (by rw [strOf_size]; show (rd L (j : Int)).f1.size + _ ≤ _; omega), h1]
        simp only [Option.bind_some, List.nil_append, List.drop_zero]
        rw [if_pos (by simp; omega)]
        have h2 := l55c (S121.mk L) x (by show L.length ≤ _; omega) 4194305 (Nat.le_refl _) L.length k 0 ((L.filter fun y => decide (y.f0 < x.f1)) ++ [S63.mk x.f1 ((rd L (j : Int)).f1 ++ strOf x.f4) 0]) (by show 0 + L.length = L.length; omega) (by omega) (by simp; omega)
        rw [show F55b0.l2 (S121.mk L) x k ((L.filter fun y => decide (y.f0 < x.f1)) ++ [S63.mk x.f1 ((rd (S121.mk L).f0 (j : Int)).f1 ++ strOf x.f4) 0]) 0 = _ from h2]
        simp only [Option.bind_some, List.drop_zero]
        have hr := ins_ref (r := S63.mk x.f1 ((rd L (j : Int)).f1 ++ strOf x.f4) 0) h.asc (fI_none c1)
        rw [show (L.filter fun y => decide (y.f0 < x.f1)) ++ [S63.mk x.f1 ((rd L (j : Int)).f1 ++ strOf x.f4) 0] ++ (L.filter fun y => decide (y.f0 > x.f1)) = ins L (S63.mk x.f1 ((rd L (j : Int)).f1 ++ strOf x.f4) 0) from hr]
        rw [f98 (S121.mk (ins L (S63.mk x.f1 ((rd L (j : Int)).f1 ++ strOf x.f4) 0))) x.f3 (ins_asc h.asc (fI_none c1)) (by show (ins L _).length ≤ _; rw [ins_len]; omega) k (by show (ins L _).length < _; rw [ins_len]; omega)]
        simp only [Option.bind_some]
        congr 2
        rw [decide_eq_decide]
        unfold pos
        show ((L.filter fun y => decide (y.f0 < x.f1)).length : Int) = (L.length : Int) ↔ _
        omega
theorem f53 {L : List S63} (h : L ≠ []) (hL : L.length ≤ 4194304) : F53.f (S162.mk (L.map cv)) = some ((rd L ((L.length - 1 : Nat) : Int)).f0, S41.mk (rd L ((L.length - 1 : Nat) : Int)).f1) := by
  have := List.length_pos_iff.2 h
  have hm : rd (L.map cv) ((L.length - 1 : Nat) : Int) = cv (rd L ((L.length - 1 : Nat) : Int)) := rd_map (by omega)
  unfold F53.f
  rw [f92 h]
  simp only [Option.bind_some, Bool.not_true, Bool.false_eq_true, if_false, List.length_map, lt]
  rw [wpred (by omega) (by omega), if_pos (by omega), hm]
  rfl
theorem anchored (k : Nat) (hk : 1000 ≤ k) : F29.f k = some true := by
  obtain ⟨j, rfl⟩ : ∃ j, k = j + 600 := ⟨k - 600, by omega⟩
  kernel_rfl
end Go.Proofs.Ytodkeoibebimgaa.SqTk

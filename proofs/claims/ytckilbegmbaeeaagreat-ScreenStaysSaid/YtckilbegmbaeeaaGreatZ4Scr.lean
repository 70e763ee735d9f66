import Derived.Test.YtckilbegmbaeeaaGreatZ4Dr
namespace Go.Proofs.YtckilbegmbaeeaaGreat.Z4May
open Go Go.RowKit Go.Proofs.YtckilbegmbaeeaaGreat.SL Go.Proofs.YtckilbegmbaeeaaGreat.Z4 Go.Proofs.YtckilbegmbaeeaaGreat.Z4Sp
set_option linter.unusedVariables false
set_option linter.unusedSimpArgs false
def posOk (g : S26) (r c : Int) (p : Bool) : Bool := decide (0 ≤ r) && decide (r < g.f1) && decide (0 ≤ c) && decide (c < g.f0) && (!p || decide (c = g.f0 - 1))
def tabsOk (w : Int) : Int → List Int → Bool
 | _, [] => true
 | last, c :: r => decide (last < c) && decide (c < w) && tabsOk w c r
def altOk (s : S34) : Bool := if s.f15 = true then mayGrid s.f16 && decide (s.f16.f0 = s.f0.f0) && decide (s.f16.f1 = s.f0.f1) else decide (s.f16.f0 = 0) && decide (s.f16.f1 = 0) && decide (s.f16.f2.length = 0)
def nn (l : List Int) : Bool := l.all fun c => decide (0 ≤ c)
theorem nn_cons {c : Int} {r : List Int} : nn (c :: r) = (decide (0 ≤ c) && nn r) := rfl
theorem nn_nil : nn [] = true := rfl
def titleOk (l : List Int) : Bool := decide (l.length ≤ 256) && nn l
def mayScreen (s : S34) : Bool := mayGrid s.f0 && mayStyle s.f4 && mayStyle s.f14.f4 && (decide (0 ≤ s.f5) && decide (s.f5 ≤ s.f6) && decide (s.f6 < s.f0.f1)) &&
 posOk s.f0 s.f1 s.f2 s.f3 && posOk s.f0 s.f14.f0 s.f14.f1 s.f14.f2 && tabsOk s.f0.f0 (-1) s.f7 && altOk s && titleOk s.f17
theorem mayGrid_w {g : S26} (h : mayGrid g = true) : 1 ≤ g.f0 ∧ g.f0 ≤ 512 := by
 unfold mayGrid at h
 simp only [Bool.and_eq_true, decide_eq_true_eq] at h
 exact ⟨h.1.1, h.1.2.1⟩
theorem r20 {α : Type} [Inhabited α] (a b : α) : rd [a, b] 0 = a := rfl
theorem r21 {α : Type} [Inhabited α] (a b : α) : rd [a, b] 1 = b := rfl
theorem dn {a b : Int} : decide (a ≤ b) = !decide (b < a) := by by_cases h : b < a <;> simp [h] <;> omega
theorem pos_q {r c h w v : Int} {p : Bool} : (if (decide (r < 0) || decide (r ≥ h) || decide (c < 0) || decide (c ≥ w)) = true then some true else (if p = true then some (decide (c ≠ v)) else some false) : Option Bool) =
  some (!(decide (0 ≤ r) && decide (r < h) && decide (0 ≤ c) && decide (c < w) && (!p || decide (c = v)))) := by
 have e1 : decide (r ≥ h) = !decide (r < h) := dn
 have e2 : decide (c ≥ w) = !decide (c < w) := dn
 have e3 : decide (c ≠ v) = !decide (c = v) := by simp
 rw [e1, e2, e3, dn (a := 0) (b := r), dn (a := 0) (b := c)]
 generalize decide (r < 0) = b1
 generalize decide (r < h) = b2
 generalize decide (c < 0) = b3
 generalize decide (c < w) = b4
 generalize decide (c = v) = b5
 cases b1 <;> cases b2 <;> cases b3 <;> cases b4 <;> cases b5 <;> cases p <;> rfl
theorem l74a (s : S34) (hw : 1 ≤ s.f0.f0 ∧ s.f0.f0 ≤ 512) (k : Nat) (hk : 44 ≤ k) : F16b0.l0 s k 0 = some (if (posOk s.f0 s.f1 s.f2 s.f3 && posOk s.f0 s.f14.f0 s.f14.f1 s.f14.f2) = true then Out.go () else Out.ret false) := by
 obtain ⟨k, rfl⟩ : ∃ j, k = j + 3 := ⟨k - 3, by omega⟩
 have ew : IntKind.i64.wrap (s.f0.f0 - 1) = s.f0.f0 - 1 := w64 (by omega) (by omega)
 unfold posOk
 have n0 : (0 : Int) < 2 := by decide
 have n1 : (1 : Int) < 2 := by decide
 have n2 : ¬ (2 : Int) < 2 := by decide
 have m0 : (0 : Int) ≤ 0 ∧ (0 : Int) < 2 := by decide
 have m1 : (0 : Int) ≤ 1 ∧ (1 : Int) < 2 := by decide
 rw [F16b0.l0, if_pos n0, if_pos m0, r20, ww0, F16b0.l0, if_pos n1, if_pos m1, r21, ww1, F16b0.l0, if_neg n2]
 simp only [lt]
 rw [ew, pos_q, pos_q]
 simp only [Option.bind_some]
 generalize (decide (0 ≤ s.f1) && decide (s.f1 < s.f0.f1) && decide (0 ≤ s.f2) && decide (s.f2 < s.f0.f0) && (!s.f3 || decide (s.f2 = s.f0.f0 - 1))) = b1
 generalize (decide (0 ≤ s.f14.f0) && decide (s.f14.f0 < s.f0.f1) && decide (0 ≤ s.f14.f1) && decide (s.f14.f1 < s.f0.f0) && (!s.f14.f2 || decide (s.f14.f1 = s.f0.f0 - 1))) = b2
 cases b1 <;> cases b2 <;> simp
theorem f108 (g : S26) (hw : 1 ≤ g.f0 ∧ g.f0 ≤ 512) (r c : Int) (p : Bool) : F55b0.f g r c p = some (posOk g r c p) := by
 have ew : IntKind.i64.wrap (g.f0 - 1) = g.f0 - 1 := w64 (by omega) (by omega)
 unfold F55b0.f posOk
 simp only [lt, ew, ge_iff_le, Option.bind_some]
 generalize decide (0 ≤ r) = b1
 generalize decide (r < g.f1) = b2
 generalize decide (0 ≤ c) = b3
 generalize decide (c < g.f0) = b4
 generalize decide (c = g.f0 - 1) = b5
 cases b1 <;> cases b2 <;> cases b3 <;> cases b4 <;> cases b5 <;> cases p <;> rfl
theorem l74b (s : S34) (hs : s.f7.length < 4611686018427387904) : ∀ (n k : Nat) (a : Int) (i : Nat), i + n = s.f7.length → n < k → F16b0.l1 s k a (i : Int) = some (if tabsOk s.f0.f0 a (s.f7.drop i) = true then Out.go () else Out.ret false)
 | n, 0, _, _, _, h => by omega
 | 0, k + 1, a, i, h, hk => by rw [F16b0.l1, if_neg (by omega), List.drop_of_length_le (by omega)]; rfl
 | n + 1, k + 1, a, i, h, hk => by
  have hi : i < s.f7.length := by omega
  have ew : IntKind.i64.wrap ((i : Int) + 1) = ((i + 1 : Nat) : Int) := by rw [w64 (by omega) (by omega)]; rfl
  rw [F16b0.l1, if_pos (by omega), if_pos (by omega), ew, rd_lt hi, List.drop_eq_getElem_cons hi, tabsOk]
  simp only [lt]
  rw [l74b s hs n k _ (i + 1) (by omega) (by omega)]
  generalize tabsOk s.f0.f0 s.f7[i] (s.f7.drop (i + 1)) = b
  generalize s.f7[i] = c
  by_cases h1 : a < c <;> by_cases h2 : c < s.f0.f0 <;> simp [h1, h2] <;> first | omega | (rw [if_pos (by omega)]) | (rw [if_neg (by omega)])
theorem l75a (s : S34) (hs : s.f7.length < 4611686018427387904) : ∀ (n k : Nat) (i : Nat), i + n = s.f7.length → n < k → (0 < i → 0 ≤ rd s.f7 ((i - 1 : Nat) : Int)) →
  F15b0.l0 s k (i : Int) = some (if tabsOk s.f0.f0 (if i = 0 then -1 else rd s.f7 ((i - 1 : Nat) : Int)) (s.f7.drop i) = true then Out.go () else Out.ret false)
 | n, 0, _, _, h, _ => by omega
 | 0, k + 1, i, h, hk, _ => by rw [F15b0.l0, if_neg (by omega), List.drop_of_length_le (by omega)]; rfl
 | n + 1, k + 1, i, h, hk, hp => by
  have hi : i < s.f7.length := by omega
  have ew : IntKind.i64.wrap ((i : Int) + 1) = ((i + 1 : Nat) : Int) := by rw [w64 (by omega) (by omega)]; rfl
  have hb2 : 0 ≤ (i : Int) ∧ (i : Int) < (s.f7.length : Int) := by omega
  have ih : 0 ≤ rd s.f7 (i : Int) → F15b0.l0 s k ((i + 1 : Nat) : Int) = some (if tabsOk s.f0.f0 (rd s.f7 (i : Int)) (s.f7.drop (i + 1)) = true then Out.go () else Out.ret false) := fun q => by
   have z := l75a s hs n k (i + 1) (by omega) (by omega) (fun _ => q)
   rwa [if_neg (Nat.succ_ne_zero i)] at z
  rw [F15b0.l0, if_pos (by omega), ew, List.drop_eq_getElem_cons hi, tabsOk]
  simp only [lt, if_pos hb2, if_true]
  rw [← rd_lt hi]
  rcases Nat.eq_zero_or_pos i with h0 | h0
  ·subst h0
   have hz : ¬ (((0 : Nat) : Int) > 0) := by omega
   simp only [hz, if_false, if_true]
   by_cases h1 : rd s.f7 ((0 : Nat) : Int) < 0
   ·have h3 : ¬ (-1 < rd s.f7 ((0 : Nat) : Int)) := by omega
    simp only [h1, h3, if_true, decide_false, Bool.false_and, Option.bind_some, Bool.false_eq_true, if_false]
   ·have h3 : -1 < rd s.f7 ((0 : Nat) : Int) := by omega
    rw [ih (by omega)]
    generalize tabsOk s.f0.f0 (rd s.f7 ((0 : Nat) : Int)) (s.f7.drop (0 + 1)) = b
    by_cases h2 : rd s.f7 ((0 : Nat) : Int) < s.f0.f0
    ·have h4 : ¬ (rd s.f7 ((0 : Nat) : Int) ≥ s.f0.f0) := by omega
     simp only [h1, h2, h3, h4, if_false, decide_true, Bool.true_and, Option.bind_some, Bool.false_eq_true]
    ·have h4 : rd s.f7 ((0 : Nat) : Int) ≥ s.f0.f0 := by omega
     simp only [h1, h2, h3, h4, if_false, if_true, decide_true, decide_false, Bool.true_and, Bool.false_and, Option.bind_some, Bool.false_eq_true]
  ·have hz : ((i : Int) > 0) := by omega
   have ew2 : IntKind.i64.wrap ((i : Int) - 1) = ((i - 1 : Nat) : Int) := by rw [w64 (by omega) (by omega)]; omega
   have hb : 0 ≤ ((i - 1 : Nat) : Int) ∧ ((i - 1 : Nat) : Int) < (s.f7.length : Int) := by omega
   have hp1 := hp h0
   have hi0 : ¬ i = 0 := by omega
   simp only [hz, ew2, if_pos hb, if_true, hi0, if_false]
   generalize rd s.f7 ((i - 1 : Nat) : Int) = p at hp1
   by_cases h1 : rd s.f7 (i : Int) < 0
   ·have h3 : ¬ (p < rd s.f7 (i : Int)) := by omega
    simp only [h1, h3, if_true, decide_false, Bool.false_and, Option.bind_some, Bool.false_eq_true, if_false]
   ·rw [ih (by omega)]
    generalize tabsOk s.f0.f0 (rd s.f7 (i : Int)) (s.f7.drop (i + 1)) = b
    by_cases h2 : rd s.f7 (i : Int) < s.f0.f0
    ·have h4 : ¬ (rd s.f7 (i : Int) ≥ s.f0.f0) := by omega
     by_cases h5 : p < rd s.f7 (i : Int)
     ·have h6 : ¬ (rd s.f7 (i : Int) ≤ p) := by omega
      simp only [h1, h2, h4, h5, h6, if_false, decide_true, decide_false, Bool.true_and, Option.bind_some, Bool.false_eq_true]
     ·have h6 : rd s.f7 (i : Int) ≤ p := by omega
      simp only [h1, h2, h4, h5, h6, if_false, if_true, decide_true, decide_false, Bool.true_and, Bool.false_and, Option.bind_some, Bool.false_eq_true]
    ·have h4 : rd s.f7 (i : Int) ≥ s.f0.f0 := by omega
     simp only [h1, h2, h4, if_false, if_true, decide_true, decide_false, Bool.and_false, Bool.false_and, Option.bind_some, Bool.false_eq_true]
theorem f91nil (a : List S55) (k : Nat) (hk : 0 < k) : F114b0.f k a ([] : List S55) = some (decide (a.length = 0)) := by
 unfold F114b0.f
 obtain ⟨k, rfl⟩ : ∃ j, k = j + 1 := ⟨k - 1, by omega⟩
 by_cases h : a.length = 0
 ·rw [if_neg (by simp [h]), F114b0.l0, if_neg (by omega)]; simp [el_r, el_g, h]
 ·rw [if_pos (by simpa using h)]; simp [h]
theorem l119 (l : List Int) (hl : l.length < 4611686018427387904) : ∀ (n k : Nat) (i : Nat), i + n = l.length → n < k → ∃ t, F115b0.l0 l (fun x => F61.f x) k (i : Int) = some t ∧ (nn (l.drop i) = true → t = Out.go ()) ∧ (nn (l.drop i) = false → ∃ j : Nat, t = Out.ret (j : Int))
 | n, 0, _, _, h => by omega
 | 0, k + 1, i, h, hk => ⟨_, by rw [F115b0.l0, if_neg (by omega)], fun _ => rfl, fun q => by rw [List.drop_of_length_le (by omega), nn_nil] at q; cases q⟩
 | n + 1, k + 1, i, h, hk => by
  have hi : i < l.length := by omega
  have ew : IntKind.i64.wrap ((i : Int) + 1) = ((i + 1 : Nat) : Int) := by rw [w64 (by omega) (by omega)]; rfl
  obtain ⟨t, h1, h2, h3⟩ := l119 l hl n k (i + 1) (by omega) (by omega)
  rw [F115b0.l0, if_pos (by omega), if_pos (by omega), ew, rd_lt hi, List.drop_eq_getElem_cons hi, h1]
  rw [nn_cons]
  simp only [F61.f, Option.bind_some]
  by_cases hc : l[i] < 0
  ·refine ⟨_, by rw [if_pos (by simpa using hc)], fun q => ?_, fun _ => ⟨i, rfl⟩⟩
   simp only [Bool.and_eq_true, decide_eq_true_eq] at q; omega
  ·have e : decide (0 ≤ l[i]) = true := decide_eq_true (by omega)
   refine ⟨t, by rw [if_neg (by simpa using hc)], fun q => ?_, fun q => ?_⟩
   ·rw [e, Bool.true_and] at q; exact h2 q
   ·rw [e, Bool.true_and] at q; exact h3 q
theorem f106 (l : List Int) (hl : l.length < 4611686018427387904) (k : Nat) (hk : l.length < k) : F60b0.f k l (fun x => F61.f x) = some (!nn l) := by
 obtain ⟨t, h1, h2, h3⟩ := l119 l hl l.length k 0 (by omega) hk
 rw [show ((0 : Nat) : Int) = 0 from rfl] at h1
 rw [List.drop_zero] at h2 h3
 unfold F60b0.f F115b0.f
 rw [h1]
 cases hb : nn l
 ·obtain ⟨j, rfl⟩ := h3 hb
  simp [el_r, el_g]
 ·rw [h2 hb]; simp [el_r, el_g]
theorem l75b (s : S34) (hs : s.f17.length < 4611686018427387904) : ∀ (n k : Nat) (i : Nat), i + n = s.f17.length → n < k → F15b0.l1 s k (i : Int) = some (if nn (s.f17.drop i) = true then Out.go () else Out.ret false)
 | n, 0, _, _, h => by omega
 | 0, k + 1, i, h, hk => by rw [F15b0.l1, if_neg (by omega), List.drop_of_length_le (by omega)]; rfl
 | n + 1, k + 1, i, h, hk => by
  have hi : i < s.f17.length := by omega
  have ew : IntKind.i64.wrap ((i : Int) + 1) = ((i + 1 : Nat) : Int) := by rw [w64 (by omega) (by omega)]; rfl
  rw [F15b0.l1, if_pos (by omega), if_pos (by omega), ew, rd_lt hi, List.drop_eq_getElem_cons hi]
  simp only [lt]
  rw [nn_cons, l75b s hs n k (i + 1) (by omega) (by omega)]
  generalize nn (s.f17.drop (i + 1)) = b
  generalize s.f17[i] = c
  by_cases h1 : c < 0
  ·have : ¬ (0 ≤ c) := by omega
   simp [h1, this]
  ·have : 0 ≤ c := by omega
   simp [h1, this]
structure Sg (s : S34) : Prop where
 g : Gr s.f0
 m : Gr s.f16
 t : s.f7.length < 17592186044416
 u : s.f17.length < 35184372088832
theorem f74 (s : S34) (hs : Sg s) (k : Nat) (hk : 40000000000000 ≤ k) : F16b0.f k s = some (mayScreen s) := by
 have h2 : s.f7.length < 4611686018427387904 := by have := hs.t; omega
 have h4 : s.f17.length < 4611686018427387904 := by have := hs.u; omega
 have h4' := hs.u
 have h2' := hs.t
 unfold F16b0.f mayScreen
 rw [f41w _ hs.g k (by omega), f41w _ hs.m k (by omega), f71, f71, f106 _ h4 k (by omega)]
 simp only [Option.bind_some]
 cases hg : mayGrid s.f0
 ·simp [lt]
 ·have hb := l74b s h2 s.f7.length k (-1) 0 (by omega) (by omega)
  rw [show ((0 : Nat) : Int) = 0 from rfl, List.drop_zero] at hb
  have h50 : F59b0.f k s.f16 (S26.mk 0 0 ([] : List S55)) = some (decide (s.f16.f0 = 0) && decide (s.f16.f1 = 0) && decide (s.f16.f2.length = 0)) := by
   unfold F59b0.f
   simp only [lt, f91nil _ k (by omega), Option.bind_some]
   by_cases q : (decide (s.f16.f0 = 0) && decide (s.f16.f1 = 0)) = true
   ·rw [if_pos q, q]; simp
   ·rw [if_neg q]; simp only [Bool.not_eq_true] at q; rw [q]; simp
  rw [l74a s (mayGrid_w hg) k (by omega), hb, h50]
  unfold altOk titleOk
  have e5 : decide (0 ≤ s.f5) = !decide (s.f5 < 0) := dn
  have e6 : decide (s.f5 ≤ s.f6) = !decide (s.f5 > s.f6) := dn
  have e7 : decide (s.f6 ≥ s.f0.f1) = !decide (s.f6 < s.f0.f1) := dn
  have et : ((s.f17.length : Int) ≤ 256) ↔ s.f17.length ≤ 256 := by omega
  simp only [lt, e5, e6, e7, et]
  generalize mayStyle s.f4 = b1
  generalize mayStyle s.f14.f4 = b2
  generalize decide (s.f5 < 0) = b3
  generalize decide (s.f5 > s.f6) = b4
  generalize decide (s.f6 < s.f0.f1) = b5
  generalize posOk s.f0 s.f1 s.f2 s.f3 = b6
  generalize posOk s.f0 s.f14.f0 s.f14.f1 s.f14.f2 = b7
  generalize tabsOk s.f0.f0 (-1) s.f7 = b8
  generalize nn s.f17 = b9
  cases b1 <;> cases b2 <;> cases b3 <;> cases b4 <;> cases b5 <;> cases b6 <;> cases b7 <;> cases b8 <;> simp [el_r, el_g]
  by_cases ht : s.f17.length ≤ 256 <;> cases ha : s.f15
  ·by_cases q3 : s.f16.f0 = 0 <;> by_cases q4 : s.f16.f1 = 0 <;> by_cases q5 : s.f16.f2 = [] <;> cases b9 <;> simp [ht, q3, q4, q5]
  ·cases hm : mayGrid s.f16 <;> by_cases q1 : s.f16.f0 = s.f0.f0 <;> by_cases q2 : s.f16.f1 = s.f0.f1 <;> cases b9 <;> simp [ht, q1, q2]
  ·by_cases q3 : s.f16.f0 = 0 <;> by_cases q4 : s.f16.f1 = 0 <;> by_cases q5 : s.f16.f2 = [] <;> cases b9 <;> simp [ht, q3, q4, q5]
  ·cases hm : mayGrid s.f16 <;> by_cases q1 : s.f16.f0 = s.f0.f0 <;> by_cases q2 : s.f16.f1 = s.f0.f1 <;> cases b9 <;> simp [ht, q1, q2]
theorem f75 (s : S34) (hs : Sg s) (k : Nat) (hk : 40000000000000 ≤ k) : F15b0.f k s = some (mayScreen s) := by
 have h2 : s.f7.length < 4611686018427387904 := by have := hs.t; omega
 have h4 : s.f17.length < 4611686018427387904 := by have := hs.u; omega
 have h4' := hs.u
 have h2' := hs.t
 unfold F15b0.f mayScreen
 rw [f30w _ hs.g k (by omega), f30w _ hs.m k (by omega), f89, f89]
 simp only [Option.bind_some]
 cases hg : mayGrid s.f0
 ·simp [lt]
 ·have ha := l75a s h2 s.f7.length k 0 (by omega) (by omega) (fun h => by omega)
  rw [if_pos rfl, show ((0 : Nat) : Int) = 0 from rfl, List.drop_zero] at ha
  have hb := l75b s h4 s.f17.length k 0 (by omega) (by omega)
  rw [show ((0 : Nat) : Int) = 0 from rfl, List.drop_zero] at hb
  rw [f108 _ (mayGrid_w hg), f108 _ (mayGrid_w hg), ha, hb]
  unfold altOk titleOk
  have e5 : decide (0 ≤ s.f5) = !decide (s.f5 < 0) := dn
  have e6 : decide (s.f5 ≤ s.f6) = !decide (s.f5 > s.f6) := dn
  have e7 : decide (s.f6 ≥ s.f0.f1) = !decide (s.f6 < s.f0.f1) := dn
  have et : ((s.f17.length : Int) > 256) ↔ ¬ s.f17.length ≤ 256 := by omega
  simp only [lt, e5, e6, e7, et]
  generalize mayStyle s.f4 = b1
  generalize mayStyle s.f14.f4 = b2
  generalize decide (s.f5 < 0) = b3
  generalize decide (s.f5 > s.f6) = b4
  generalize decide (s.f6 < s.f0.f1) = b5
  generalize posOk s.f0 s.f1 s.f2 s.f3 = b6
  generalize posOk s.f0 s.f14.f0 s.f14.f1 s.f14.f2 = b7
  generalize tabsOk s.f0.f0 (-1) s.f7 = b8
  generalize nn s.f17 = b9
  cases b1 <;> cases b2 <;> cases b3 <;> cases b4 <;> cases b5 <;> cases b6 <;> cases b7 <;> cases b8 <;> simp [el_r, el_g]
  by_cases ht : s.f17.length ≤ 256 <;> cases ha : s.f15
  ·by_cases q3 : s.f16.f0 = 0 <;> by_cases q4 : s.f16.f1 = 0 <;> by_cases q5 : s.f16.f2 = [] <;> cases b9 <;> simp [ht, q3, q4, q5, el_r, el_g]
  ·cases hm : mayGrid s.f16 <;> by_cases q1 : s.f16.f0 = s.f0.f0 <;> by_cases q2 : s.f16.f1 = s.f0.f1 <;> cases b9 <;> simp [ht, q1, q2, el_r, el_g]
  ·by_cases q3 : s.f16.f0 = 0 <;> by_cases q4 : s.f16.f1 = 0 <;> by_cases q5 : s.f16.f2 = [] <;> cases b9 <;> simp [ht, q3, q4, q5, el_r, el_g]
  ·cases hm : mayGrid s.f16 <;> by_cases q1 : s.f16.f0 = s.f0.f0 <;> by_cases q2 : s.f16.f1 = s.f0.f1 <;> cases b9 <;> simp [ht, q1, q2, el_r, el_g]
end Go.Proofs.YtckilbegmbaeeaaGreat.Z4May

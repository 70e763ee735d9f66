import Derived.Test.YtckilbegmbaeeaaGreatZ4E
namespace Go.Proofs.YtckilbegmbaeeaaGreat.Z4Sc
open Go Go.RowKit Go.Proofs.YtckilbegmbaeeaaGreat.SL Go.Proofs.YtckilbegmbaeeaaGreat.Z4 Go.Proofs.YtckilbegmbaeeaaGreat.Z4May Go.Proofs.YtckilbegmbaeeaaGreat.Z4Ls Go.Proofs.YtckilbegmbaeeaaGreat.Z4Op Go.Proofs.YtckilbegmbaeeaaGreat.Z4Sp
set_option linter.unusedVariables false
set_option linter.unusedSimpArgs false
theorem l125 (l : List Int) (a : Int) (hl : l.length ≤ 1048576) (S : ∀ (i j : Nat) (hi : i < l.length) (hj : j < l.length), i < j → l[i] < l[j]) :
  ∀ (n k lo hi : Nat), hi - lo ≤ n → n < k → lo ≤ hi → hi ≤ l.length → (∀ (i : Nat) (h : i < l.length), i < lo → l[i] < a) → (∀ (i : Nat) (h : i < l.length), hi ≤ i → a ≤ l[i]) →
   ∃ p : Nat, F125b0.l0 l a k (lo : Int) (hi : Int) = some (p : Int) ∧ p ≤ l.length ∧ (∀ (i : Nat) (h : i < l.length), i < p → l[i] < a) ∧ (∀ (i : Nat) (h : i < l.length), p ≤ i → a ≤ l[i])
 | n, 0, _, _, _, h, _, _, _, _ => by omega
 | n, k + 1, lo, hi, h1, h2, h3, h4, ha, hb => by
  rw [F125b0.l0]
  by_cases hlt : lo < hi
  ·rw [if_pos (by omega)]
   have e1 : IntKind.i64.wrap (shrI .u64 (IntKind.u64.wrap (IntKind.i64.wrap ((lo : Int) + (hi : Int)))) 1) = (((lo + hi) / 2 : Nat) : Int) := by
    have e0 : shrI .u64 (IntKind.u64.wrap ((lo : Int) + (hi : Int))) 1 = (((lo + hi) / 2 : Nat) : Int) := by
     rw [wu64, Int.emod_eq_of_lt (by omega) (by omega), show (1 : Int) = ((1 : Nat) : Int) from rfl, shrI_eq _ _ 1 (by decide)]
     simp
    rw [w64 (x := (lo : Int) + (hi : Int)) (by omega) (by omega), e0, w64 (by omega) (by omega)]
   have hm : (lo + hi) / 2 < l.length := by omega
   simp only [lt, e1]
   rw [if_pos (by omega), rd_lt hm]
   obtain ⟨m, rfl⟩ : ∃ m, n = m + 1 := ⟨n - 1, by omega⟩
   have hless : F153.f l[(lo + hi) / 2] a = some (decide (l[(lo + hi) / 2] < a)) := by
    unfold F153.f F159.f; simp [lt]
   rw [hless]
   simp only [Option.bind_some, decide_eq_true_eq]
   by_cases hc : l[(lo + hi) / 2] < a
   ·rw [if_pos hc, w64 (by omega) (by omega)]
    exact l125 l a hl S m k ((lo + hi) / 2 + 1) hi (by omega) (by omega) (by omega) h4 (fun i h hi' => by
     rcases Nat.lt_or_ge i ((lo + hi) / 2) with q | q
     ·have := S _ _ h hm q; omega
     ·obtain rfl : i = (lo + hi) / 2 := by omega
      exact hc) hb
   ·rw [if_neg hc]
    exact l125 l a hl S m k lo ((lo + hi) / 2) (by omega) (by omega) (by omega) (by omega) ha (fun i h hi' => by
     rcases Nat.lt_or_ge ((lo + hi) / 2) i with q | q
     ·have := S _ _ hm h q; omega
     ·obtain rfl : i = (lo + hi) / 2 := by omega
      omega)
  ·obtain rfl : lo = hi := by omega
   rw [if_neg (by omega)]
   exact ⟨lo, rfl, h4, ha, hb⟩
theorem f125 (l : List Int) (a : Int) (hl : l.length ≤ 1048576) (S : List.Pairwise (· < ·) l) (k : Nat) (hk : l.length < k) :
  ∃ p : Nat, F125b0.f k l a = some ((p : Int), decide (p < l.length ∧ rd l (p : Int) = a)) ∧ p ≤ l.length ∧ (∀ (i : Nat) (h : i < l.length), i < p → l[i] < a) ∧ (∀ (i : Nat) (h : i < l.length), p ≤ i → a ≤ l[i]) := by
 obtain ⟨p, h1, h2, h3, h4⟩ := l125 l a hl (fun i j hi hj hij => List.pairwise_iff_getElem.1 S i j hi hj hij) l.length k 0 l.length (by omega) hk (by omega) (by omega) (fun i h q => by omega) (fun i h q => by omega)
 refine ⟨p, ?_, h2, h3, h4⟩
 unfold F125b0.f F154.f
 simp only [lt]
 rw [show F125b0.l0 l a k 0 (l.length : Int) = some (p : Int) from h1]
 simp only [Option.bind_some]
 by_cases hp : p < l.length
 ·rw [if_pos (by omega), if_pos (by omega)]
  by_cases he : rd l (p : Int) = a
  ·simp [he, hp]
  ·rw [if_neg he]
   simp [he, hp]
 ·rw [if_neg (by omega)]
  simp [hp]
def nt : List Int → Int → Int → Int
 | [], _, d => d
 | t :: r, c, d => if t > c then t else nt r c d
theorem nt_at : ∀ (l : List Int) (c d : Int) (p : Nat), (∀ (i : Nat) (h : i < l.length), i < p → l[i] ≤ c) → (∀ (i : Nat) (h : i < l.length), p ≤ i → c < l[i]) → p ≤ l.length → nt l c d = if p < l.length then rd l (p : Int) else d
 | [], c, d, p, _, _, _ => by simp [nt]
 | t :: r, c, d, 0, _, h2, _ => by
  have := h2 0 (by simp) (by omega)
  simp only [List.getElem_cons_zero] at this
  unfold nt
  rw [if_pos this]; rfl
 | t :: r, c, d, p + 1, h1, h2, h3 => by
  have := h1 0 (by simp) (by omega)
  simp only [List.getElem_cons_zero] at this
  unfold nt
  rw [if_neg (by omega), nt_at r c d p (fun i h hi => by have := h1 (i + 1) (by simp; omega) (by omega); simpa using this) (fun i h hi => by have := h2 (i + 1) (by simp; omega) (by omega); simpa using this) (by simp at h3; omega)]
  by_cases hp : p < r.length
  ·rw [if_pos hp, if_pos (by simp; omega), rd_lt hp, rd_lt (xs := t :: r) (show p + 1 < (t :: r).length by simp; omega)]; rfl
  ·rw [if_neg hp, if_neg (by simp; omega)]
theorem nt_in : ∀ (l : List Int) (c d : Int), nt l c d = d ∨ nt l c d ∈ l
 | [], _, _ => .inl rfl
 | t :: r, c, d => by
  unfold nt
  split
  ·exact .inr (by simp)
  ·rcases nt_in r c d with z | z
   ·exact .inl z
   ·exact .inr (by simp [z])
def dControl (s : S34) (c : Int) : S34 :=
 if c = 8 then { s with f2 := max (s.f2 - 1) 0, f3 := false } else if c = 9 then { s with f2 := nt s.f7 s.f2 (s.f0.f0 - 1), f3 := false }
 else if c = 10 ∨ c = 11 ∨ c = 12 then { dFeed s with f3 := false } else if c = 13 then { s with f2 := 0, f3 := false } else if c = 141 then { dBack s with f3 := false } else s
theorem tabs_pw {s : S34} (h : M s) : List.Pairwise (· < ·) s.f7 ∧ ∀ x ∈ s.f7, -1 < x ∧ x < s.f0.f0 := tabs_iff.1 h.tabs
theorem next_in {s : S34} (h : Ok s) : 0 ≤ nt s.f7 s.f2 (s.f0.f0 - 1) ∧ nt s.f7 s.f2 (s.f0.f0 - 1) < s.f0.f0 := by
 obtain ⟨w, q, e0, _, _, _, _, _, _, _⟩ := h.size
 rcases nt_in s.f7 s.f2 (s.f0.f0 - 1) with z | z
 ·omega
 ·have := (tabs_pw h.m).2 _ z; omega
theorem okControl {s : S34} (h : Ok s) (c : Int) : Ok (dControl s c) := by
 have hc := cursor h
 have hn := next_in h
 have hr := Like.refl s
 unfold dControl
 split
 ·exact ok_like h (like_cur hr _ _) (mg_cur h.mg _ _) ⟨by show 0 ≤ max (s.f2 - 1) 0; omega, by show max (s.f2 - 1) 0 < s.f0.f0; omega, fun q => by cases q⟩
 ·split
  ·exact ok_like h (like_cur hr _ _) (mg_cur h.mg _ _) ⟨hn.1, hn.2, fun q => by cases q⟩
  ·split
   ·obtain ⟨l, e2, e3⟩ := feed_like h.mg
    exact ok_like h (like_cur l (dFeed s).f2 false) (mg_cur (feed_mg h.mg) (dFeed s).f2 false) ⟨by show 0 ≤ (dFeed s).f2; rw [e2]; exact hc.1, by show (dFeed s).f2 < (dFeed s).f0.f0; rw [e2, l.d0]; exact hc.2.1, fun q => by cases q⟩
   ·split
    ·exact ok_like h (like_cur hr _ _) (mg_cur h.mg _ _) ⟨by show (0 : Int) ≤ 0; omega, by show (0 : Int) < s.f0.f0; omega, fun q => by cases q⟩
    ·split
     ·obtain ⟨l, e2, e3⟩ := back_like h.mg
      exact ok_like h (like_cur l (dBack s).f2 false) (mg_cur (back_mg h.mg) (dBack s).f2 false) ⟨by show 0 ≤ (dBack s).f2; rw [e2]; exact hc.1, by show (dBack s).f2 < (dBack s).f0.f0; rw [e2, l.d0]; exact hc.2.1, fun q => by cases q⟩
     ·exact h
theorem pcontrol (s : S34) (h : Ok s) (c : Int) (k : Nat) (hk : 1100000 ≤ k) : F75Lb_0_.f k s c = some (dControl s c) := by
 obtain ⟨w, q, e0, e1, a, b, c', d, hl, hb⟩ := h.size
 have hc := cursor h
 have ht := tabs_small h.m
 have hpw := tabs_pw h.m
 unfold F75Lb_0_.f dControl
 by_cases c8 : c = 8
 ·rw [if_pos c8, if_pos c8, w64 (by omega) (by omega), maxI_eq]; rfl
 ·rw [if_neg c8, if_neg c8]
  by_cases c9 : c = 9
  ·rw [if_pos c9, if_pos c9]
   obtain ⟨p, h1, h2, h3, h4⟩ := f125 s.f7 s.f2 (by omega) hpw.1 k (by omega)
   rw [h1, plast s (by omega) (by omega)]
   simp only [Option.bind_some, decide_eq_true_eq]
   have S : ∀ (i j : Nat) (hi : i < s.f7.length) (hj : j < s.f7.length), i < j → s.f7[i] < s.f7[j] := fun i j hi hj hij => List.pairwise_iff_getElem.1 hpw.1 i j hi hj hij
   by_cases hf : p < s.f7.length ∧ rd s.f7 (p : Int) = s.f2
   ·rw [if_pos hf, w64 (by omega) (by omega)]
    simp only [lt, Option.bind_some]
    have hn := nt_at s.f7 s.f2 (s.f0.f0 - 1) (p + 1) (fun i hi hip => by
     rcases Nat.lt_or_ge i p with z | z
     ·have := h3 i hi z; omega
     ·obtain rfl : i = p := by omega
      rw [← rd_lt hi, hf.2]; exact Int.le_refl _) (fun i hi hip => by
     have := S p i hf.1 hi (by omega)
     rw [← rd_lt hf.1, hf.2] at this; exact this) (by omega)
    rw [hn]
    by_cases z : p + 1 < s.f7.length
    ·rw [if_pos (by omega), if_pos (by omega), if_pos z]; rfl
    ·rw [if_neg (by omega), if_neg z]; rfl
   ·rw [if_neg hf]
    simp only [Option.bind_some]
    have hn := nt_at s.f7 s.f2 (s.f0.f0 - 1) p (fun i hi hip => by have := h3 i hi hip; omega) (fun i hi hip => by
     have h5 := h4 i hi hip
     rcases Nat.lt_or_ge p i with z | z
     ·have h6 := h4 p (by omega) (Nat.le_refl _)
      have := S p i (by omega) hi z
      omega
     ·obtain rfl : i = p := by omega
      have : ¬ rd s.f7 (i : Int) = s.f2 := fun q => hf ⟨hi, q⟩
      rw [rd_lt hi] at this; omega) h2
    rw [hn]
    by_cases z : p < s.f7.length
    ·rw [if_pos (by omega), if_pos (by omega), if_pos z]; rfl
    ·rw [if_neg (by omega), if_neg z]; rfl
  ·rw [if_neg c9, if_neg c9, pfeed s h.mg k hk, pback s h.mg k hk]
   simp only [Option.bind_some]
   by_cases c10 : c = 10
   ·subst c10; rfl
   ·by_cases c11 : c = 11
    ·subst c11; rfl
    ·by_cases c12 : c = 12
     ·subst c12; rfl
     ·simp only [c10, c11, c12, if_false, decide_false, Option.bind_some, Bool.false_eq_true, or_self]
      by_cases c13 : c = 13
      ·rw [if_pos c13, if_pos c13]; rfl
      ·rw [if_neg c13, if_neg c13]
       by_cases c141 : c = 141
       ·rw [if_pos c141, if_pos c141]; rfl
       ·rw [if_neg c141, if_neg c141]; rfl
def ins (c : Int) : List Int → List Int
 | [] => [c]
 | t :: r => if t < c then t :: ins c r else if t = c then t :: r else c :: t :: r
theorem ins_mem {c x : Int} : ∀ {l : List Int}, x ∈ ins c l ↔ x = c ∨ x ∈ l
 | [] => by simp [ins]
 | t :: r => by
  unfold ins
  split
  ·simp only [List.mem_cons, ins_mem (l := r)]
   constructor
   ·rintro (h | h | h) <;> simp [h]
   ·rintro (h | h | h) <;> simp [h]
  ·split
   ·rename_i h; simp [h]
   ·simp
theorem ins_pw {c : Int} : ∀ {l : List Int}, List.Pairwise (· < ·) l → List.Pairwise (· < ·) (ins c l)
 | [], _ => by simp [ins]
 | t :: r, h => by
  rw [List.pairwise_cons] at h
  unfold ins
  split
  ·rw [List.pairwise_cons]
   refine ⟨fun x hx => ?_, ins_pw h.2⟩
   rcases ins_mem.1 hx with z | z
   ·omega
   ·exact h.1 x z
  ·split
   ·exact List.pairwise_cons.2 h
   ·rw [List.pairwise_cons]
    refine ⟨fun x hx => ?_, List.pairwise_cons.2 h⟩
    rcases List.mem_cons.1 hx with z | z
    ·omega
    ·have := h.1 x z; omega
theorem pw_ext : ∀ {l m : List Int}, List.Pairwise (· < ·) l → List.Pairwise (· < ·) m → (∀ x, x ∈ l ↔ x ∈ m) → l = m
 | [], [], _, _, _ => rfl
 | [], b :: m, _, _, h => absurd ((h b).2 (by simp)) (by simp)
 | a :: l, [], _, _, h => absurd ((h a).1 (by simp)) (by simp)
 | a :: l, b :: m, hl, hm, h => by
  rw [List.pairwise_cons] at hl hm
  have hab : a = b := by
   rcases List.mem_cons.1 ((h a).1 (by simp)) with z | z
   ·exact z
   ·rcases List.mem_cons.1 ((h b).2 (by simp)) with y | y
    ·exact y.symm
    ·have := hm.1 a z; have := hl.1 b y; omega
  subst hab
  rw [pw_ext hl.2 hm.2 fun x => ?_]
  constructor
  ·intro hx
   rcases List.mem_cons.1 ((h x).1 (by simp [hx])) with z | z
   ·have := hl.1 x hx; omega
   ·exact z
  ·intro hx
   rcases List.mem_cons.1 ((h x).2 (by simp [hx])) with z | z
   ·have := hm.1 x hx; omega
   ·exact z
def dTabs (l : List Int) (c kind : Int) : List Int := if kind = 0 then ins c l else if kind = 1 then l.filter (fun x => decide (x ≠ c)) else if kind = 2 then [] else l
def dTab (s : S34) (kind : Int) : S34 := { s with f7 := dTabs s.f7 s.f2 kind }
theorem tabs_pw2 {l : List Int} {c kind : Int} (h : List.Pairwise (· < ·) l) : List.Pairwise (· < ·) (dTabs l c kind) := by
 unfold dTabs
 split
 ·exact ins_pw h
 ·split
  ·exact List.Pairwise.filter _ h
  ·split
   ·exact List.Pairwise.nil
   ·exact h
theorem tabs_mem {l : List Int} {c kind x : Int} (h : x ∈ dTabs l c kind) : x = c ∨ x ∈ l := by
 unfold dTabs at h
 split at h
 ·exact ins_mem.1 h
 ·split at h
  ·exact .inr (List.mem_filter.1 h).1
  ·split at h
   ·simp at h
   ·exact .inr h
theorem okTab {s : S34} (h : Ok s) (kind : Int) : Ok (dTab s kind) := by
 have hc := cursor h
 have hp := tabs_pw h.m
 refine ⟨⟨h.m.g, h.m.y, h.m.y2, h.m.t0, h.m.t1, h.m.t2, h.m.p, h.m.p2, tabs_iff.2 ⟨tabs_pw2 hp.1, fun x hx => ?_⟩, h.m.alt, h.m.ti⟩, h.b, h.b2⟩
 rcases tabs_mem hx with z | z
 ·rw [z]; exact ⟨by omega, hc.2.1⟩
 ·exact hp.2 x z
theorem split_at {l : List Int} {c : Int} (hp : List.Pairwise (· < ·) l) {p : Nat} (h2 : p ≤ l.length) (h3 : ∀ (i : Nat) (h : i < l.length), i < p → l[i] < c) (h4 : ∀ (i : Nat) (h : i < l.length), p ≤ i → c ≤ l[i]) (hn : ¬ (p < l.length ∧ rd l (p : Int) = c)) :
  l.take p ++ [c] ++ l.drop p = ins c l := by
 have hgt : ∀ (i : Nat) (h : i < l.length), p ≤ i → c < l[i] := fun i hi hpi => by
  have h5 := h4 i hi hpi
  rcases Nat.lt_or_ge p i with z | z
  ·have h6 := h4 p (by omega) (Nat.le_refl _)
   have := List.pairwise_iff_getElem.1 hp p i (by omega) hi z
   omega
  ·obtain rfl : i = p := by omega
   have : ¬ rd l (i : Int) = c := fun q => hn ⟨hi, q⟩
   rw [rd_lt hi] at this; omega
 have ha : ∀ x ∈ l.take p, x < c := fun x hx => by
  obtain ⟨i, hi, rfl⟩ := List.getElem_of_mem hx
  rw [List.length_take] at hi
  rw [List.getElem_take]; exact h3 i (by omega) (by omega)
 have hb : ∀ x ∈ l.drop p, c < x := fun x hx => by
  obtain ⟨i, hi, rfl⟩ := List.getElem_of_mem hx
  rw [List.length_drop] at hi
  rw [List.getElem_drop]; exact hgt _ (by omega) (by omega)
 refine pw_ext ?_ (ins_pw hp) fun x => ?_
 ·have hp' := hp
  rw [← List.take_append_drop p l, List.pairwise_append] at hp'
  rw [List.append_assoc, List.pairwise_append]
  refine ⟨hp'.1, ?_, fun a ha' b hb' => ?_⟩
  ·rw [List.singleton_append, List.pairwise_cons]
   exact ⟨hb, hp'.2.1⟩
  ·rw [List.singleton_append] at hb'
   rcases List.mem_cons.1 hb' with z | z
   ·rw [z]; exact ha a ha'
   ·exact hp'.2.2 a ha' b z
 ·rw [ins_mem]
  have e : x ∈ l ↔ x ∈ l.take p ∨ x ∈ l.drop p := by rw [← List.mem_append, List.take_append_drop]
  rw [e]
  simp only [List.mem_append, List.mem_singleton]
  constructor
  ·rintro ((h | h) | h) <;> simp [h]
  ·rintro (h | h | h) <;> simp [h]
theorem cut_at {l : List Int} {c : Int} (hp : List.Pairwise (· < ·) l) {p : Nat} (h1 : p < l.length) (hc : rd l (p : Int) = c) : l.take p ++ l.drop (p + 1) = l.filter (fun x => decide (x ≠ c)) := by
 have S : ∀ (i j : Nat) (hi : i < l.length) (hj : j < l.length), i < j → l[i] < l[j] := fun i j hi hj hij => List.pairwise_iff_getElem.1 hp i j hi hj hij
 rw [rd_lt h1] at hc
 have hd : l.drop p = c :: l.drop (p + 1) := by rw [List.drop_eq_getElem_cons h1, hc]
 have e : l = l.take p ++ (c :: l.drop (p + 1)) := by rw [← hd, List.take_append_drop]
 have ha : ∀ x ∈ l.take p, x < c := fun x hx => by
  obtain ⟨i, hi, rfl⟩ := List.getElem_of_mem hx
  rw [List.length_take] at hi
  rw [List.getElem_take, ← hc]; exact S _ _ _ _ (by omega)
 have hb : ∀ x ∈ l.drop (p + 1), c < x := fun x hx => by
  obtain ⟨i, hi, rfl⟩ := List.getElem_of_mem hx
  rw [List.length_drop] at hi
  rw [List.getElem_drop, ← hc]; exact S _ _ _ _ (by omega)
 conv => rhs; rw [e]
 rw [List.filter_append, List.filter_cons_of_neg (by simp), List.filter_eq_self.2 (fun x hx => by have := ha x hx; simp; omega), List.filter_eq_self.2 (fun x hx => by have := hb x hx; simp; omega)]
theorem f133 (l m : List Int) (p : Nat) (hp : p ≤ l.length) (hl : l.length + m.length ≤ 17592186044416) : F133m0b2.f l (p : Int) m = some (l.take p ++ m ++ l.drop p) := by
 unfold F133m0b2.f
 rw [if_pos (by omega)]
 simp only [lt]
 by_cases hm : (m.length : Int) = 0
 ·rw [if_pos hm]
  have : m = [] := List.length_eq_zero_iff.1 (by omega)
  subst this
  simp
 ·rw [if_neg hm]
  by_cases hq : (p : Int) = (l.length : Int)
  ·rw [if_pos hq, if_pos hl]
   have : p = l.length := by omega
   subst this
   simp
  ·rw [if_neg hq, if_pos hl, Int.toNat_natCast]
theorem f134 (l : List Int) (p : Nat) (hp : p < l.length) (hl : l.length ≤ 1048576) : F134m0.f l (p : Int) ((p + 1 : Nat) : Int) = some (l.take p ++ l.drop (p + 1)) := by
 unfold F134m0.f
 rw [if_pos (by omega), if_neg (by omega)]
 simp only [lt]
 rw [if_pos (by omega), if_pos (by omega), if_pos (by omega)]
 have e1 : sub l (0 + ((p + 1 : Nat) : Int)) (0 + ((p + 1 : Nat) : Int) + ((l.length : Int) - ((p + 1 : Nat) : Int))) = l.drop (p + 1) := by
  rw [show (0 : Int) + ((p + 1 : Nat) : Int) = ((p + 1 : Nat) : Int) from by omega, show (l.length : Int) - ((p + 1 : Nat) : Int) = ((l.length - (p + 1) : Nat) : Int) from by omega, sub_win]
  unfold win
  rw [List.take_of_length_le (by simp)]
 rw [e1, show ((0 : Int) + 0 + ((p : Int) - 0)).toNat = p from by omega]
 have hX : (over l p (l.drop (p + 1))).length = l.length := over_len2 (by rw [List.length_drop]; omega)
 rw [if_pos (by omega), if_pos (by omega)]
 have e3 : ((p : Int) - 0 + ((l.length : Int) - ((p + 1 : Nat) : Int))).toNat = l.length - 1 := by omega
 have e4 : ((0 : Int) + 0 + ((p : Int) - 0 + ((l.length : Int) - ((p + 1 : Nat) : Int)))).toNat = l.length - 1 := by omega
 rw [e4, e3]
 have e5 : ((l.length : Int) - ((p : Int) - 0 + ((l.length : Int) - ((p + 1 : Nat) : Int)))).toNat = 1 := by omega
 rw [e5]
 congr 1
 apply List.ext_getElem?
 intro i
 rw [List.getElem?_take]
 by_cases hi : i < l.length - 1
 ·rw [if_pos hi, over_get (by rw [hX]; simp; omega), if_pos (by omega), over_get (by rw [List.length_drop]; omega), List.length_drop]
  by_cases hip : i < p
  ·rw [if_pos hip, List.getElem?_append_left (by rw [List.length_take]; omega), List.getElem?_take, if_pos hip]
  ·rw [if_neg hip, if_pos (by omega), List.getElem?_append_right (by rw [List.length_take]; omega), List.length_take, Nat.min_eq_left (by omega)]
 ·rw [if_neg hi, List.getElem?_eq_none (by simp; omega)]
theorem ptab (s : S34) (h : Ok s) (kind : Int) (k : Nat) (hk : 1100000 ≤ k) : F93Lb_0_.f k s kind = some (dTab s kind) := by
 have ht := tabs_small h.m
 have hp := tabs_pw h.m
 obtain ⟨p, h1, h2, h3, h4⟩ := f125 s.f7 s.f2 (by omega) hp.1 k (by omega)
 unfold F93Lb_0_.f dTab dTabs
 rw [h1]
 simp only [Option.bind_some, lt]
 by_cases hf : p < s.f7.length ∧ rd s.f7 (p : Int) = s.f2
 ·rw [decide_eq_true hf]
  simp only [Bool.not_true, Bool.and_false, Bool.false_eq_true, if_false, Bool.and_true, decide_eq_true_eq]
  by_cases k0 : kind = 0
  ·rw [if_neg (by omega), if_neg (by omega), if_pos k0]
   have hm : s.f2 ∈ s.f7 := by rw [← hf.2, rd_lt hf.1]; exact List.getElem_mem _
   have hins : ins s.f2 s.f7 = s.f7 := pw_ext (ins_pw hp.1) hp.1 fun x => by
    rw [ins_mem]
    constructor
    ·rintro (z | z)
     ·rw [z]; exact hm
     ·exact z
    ·exact fun z => .inr z
   rw [hins]
  ·rw [if_neg k0]
   by_cases k1 : kind = 1
   ·rw [if_pos k1, if_pos k1, w64 (by omega) (by omega), show ((p : Int) + 1) = ((p + 1 : Nat) : Int) from rfl, f134 s.f7 p hf.1 (by omega), cut_at hp.1 hf.1 hf.2]
    rfl
   ·rw [if_neg k1, if_neg k1]
    split <;> rfl
 ·rw [decide_eq_false hf]
  simp only [Bool.not_false, Bool.and_true, Bool.and_false, Bool.false_eq_true, if_false, decide_eq_true_eq]
  by_cases k0 : kind = 0
  ·rw [if_pos k0, if_pos k0, f133 s.f7 [s.f2] p h2 (by simp; omega), split_at hp.1 h2 h3 h4 hf]
   rfl
  ·rw [if_neg k0, if_neg k0]
   by_cases k1 : kind = 1
   ·rw [if_neg (by omega), if_pos k1]
    have hm : ∀ x ∈ s.f7, x ≠ s.f2 := fun x hx z => by
     obtain ⟨i, hi, hx⟩ := List.getElem_of_mem hx
     rcases Nat.lt_or_ge i p with y | y
     ·have := h3 i hi y; omega
     ·rcases Nat.lt_or_ge p i with v | v
      ·have h6 := h4 p (by omega) (Nat.le_refl _)
       have := List.pairwise_iff_getElem.1 hp.1 p i (by omega) hi v
       omega
      ·obtain rfl : i = p := by omega
       exact hf ⟨hi, by rw [rd_lt hi, hx, z]⟩
    rw [List.filter_eq_self.2 (fun x hx => by simp [hm x hx])]
   ·rw [if_neg k1]
    split <;> rfl
end Go.Proofs.YtckilbegmbaeeaaGreat.Z4Sc

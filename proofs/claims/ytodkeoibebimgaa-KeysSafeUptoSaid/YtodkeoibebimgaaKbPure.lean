/- The plain law of KeysSafe: what the walked functions compute answers as the statement says, where what comes in is of bulk at most 2^20. -/
import Derived.Test.YtodkeoibebimgaaKbU
import Derived.Test.YtodkeoibebimgaaSlP
namespace Go.Proofs.Ytodkeoibebimgaa.KbPure
open Go Go.RowKit Go.Proofs.Ytodkeoibebimgaa.SL Go.Proofs.Ytodkeoibebimgaa.Kb
set_option linter.unusedVariables false
set_option linter.unusedSimpArgs false

/-! ### that something comes out -/
theorem ex_bind {α β : Type} {o : Option α} {f : α → Option β} (h : ∃ a, o = some a) (k : ∀ a, ∃ b, f a = some b) : ∃ b, o.bind f = some b := by
  obtain ⟨a, ha⟩ := h; obtain ⟨b, hb⟩ := k a; exact ⟨b, by rw [ha]; exact hb⟩
theorem ex_ite {α : Type} {c : Prop} [Decidable c] {x y : Option α} (h : c → ∃ a, x = some a) (k : ¬c → ∃ a, y = some a) : ∃ a, (if c then x else y) = some a := by
  by_cases hc : c
  · rw [if_pos hc]; exact h hc
  · rw [if_neg hc]; exact k hc
theorem ex_lt {α β : Type} {e : α} {f : α → Option β} (h : ∀ n, n = e → ∃ b, f n = some b) : ∃ b, lt e f = some b := h e rfl
theorem ex_el {ρ σ β : Type} {t : Out ρ σ} {f : ρ → Option β} {g : σ → Option β} (h : ∀ r, ∃ b, f r = some b) (k : ∀ s, ∃ b, g s = some b) : ∃ b, Out.el t f g = some b := by
  cases t with
  | ret r => exact h r
  | go s => exact k s
theorem ex_some {α : Type} (a : α) : ∃ b, some a = some b := ⟨a, rfl⟩

/-! ### whether a screen may be: something comes out -/
theorem l123 (l : List S190) (c : Int) (hl : l.length ≤ 1048576) : ∀ (n k : Nat) (lo hi : Nat), hi - lo ≤ n → n < k → lo ≤ hi → hi ≤ l.length → ∃ r, F123.l0 l c k (lo : Int) (hi : Int) = some r
  | n, 0, _, _, _, h, _, _ => by omega
  | n, k + 1, lo, hi, h1, h2, h3, h4 => by
    rw [F123.l0]
    by_cases hlt : lo < hi
    · rw [if_pos (by omega)]
      have e1 : shrI .u64 (IntKind.u64.wrap ((lo : Int) + (hi : Int))) 1 = (((lo + hi) / 2 : Nat) : Int) := by
        rw [wu64, Int.emod_eq_of_lt (by omega) (by omega), show (1 : Int) = ((1 : Nat) : Int) from rfl, shrI_eq _ _ 1 (by decide)]
        simp
      simp only [lt, e1]
      rw [if_pos (by omega)]
      refine ex_ite (fun _ => ?_) (fun _ => ?_)
      · obtain ⟨m, rfl⟩ : ∃ m, n = m + 1 := ⟨n - 1, by omega⟩
        exact l123 l c hl m k lo ((lo + hi) / 2) (by omega) (by omega) (by omega) (by omega)
      · refine ex_ite (fun hc => ex_ite (fun _ => ?_) (fun _ => ex_some _)) (fun hc => by omega)
        obtain ⟨m, rfl⟩ : ∃ m, n = m + 1 := ⟨n - 1, by omega⟩
        have e2 : IntKind.u64.wrap ((((lo + hi) / 2 : Nat) : Int) + 1) = (((lo + hi) / 2 + 1 : Nat) : Int) := by
          rw [wu64, Int.emod_eq_of_lt (by omega) (by omega)]; simp
        rw [e2]
        exact l123 l c hl m k ((lo + hi) / 2 + 1) hi (by omega) (by omega) (by omega) h4
    · rw [if_neg (by omega)]; exact ex_some _
theorem f123 (l : List S190) (c : Int) (hl : l.length ≤ 1048576) (k : Nat) (hk : l.length < k) : ∃ r, F123.f k l c = some r := by
  unfold F123.f
  have e : IntKind.u64.wrap (l.length : Int) = (l.length : Int) := by rw [wu64, Int.emod_eq_of_lt (by omega) (by omega)]
  simp only [lt, e]
  refine ex_bind (l123 l c hl l.length k 0 l.length (by omega) hk (by omega) (by omega)) fun t => ex_el (fun _ => ex_some _) (fun _ => ex_some _)
theorem f111 (c : Int) (k : Nat) (hk : 40 ≤ k) : ∃ r, F111.f k c = some r := by
  unfold F111.f
  refine ex_bind ⟨_, rfl⟩ fun r1 => ex_bind ⟨_, rfl⟩ fun r2 => ?_
  refine ex_bind (ex_ite (fun _ => ex_some _) fun _ => ex_ite (fun _ => ex_some _) (fun _ => ex_some _)) fun q => ex_lt fun q2 _ => ?_
  refine ex_bind (ex_ite (fun _ => ex_some _) fun _ => ex_ite (fun _ => ex_some _) (fun _ => ex_some _)) fun q => ?_
  refine ex_ite (fun _ => ex_some _) (fun _ => ?_)
  refine ex_bind (f123 _ c (by simp only [List.length_cons, List.length_nil]; omega) k (by simp only [List.length_cons, List.length_nil]; omega)) fun r => ex_ite (fun _ => ex_some _) (fun _ => ?_)
  exact ex_bind (f123 _ c (by simp only [List.length_cons, List.length_nil]; omega) k (by simp only [List.length_cons, List.length_nil]; omega)) fun r => ex_ite (fun _ => ex_some _) (fun _ => ex_some _)
theorem f71 (s : S70) : ∃ r, F71.f s = some r := by
  unfold F71.f F103.f
  exact ex_bind ⟨_, rfl⟩ fun _ => ex_bind (ex_ite (fun _ => ex_bind ⟨_, rfl⟩ fun _ => ex_some _) fun _ => ex_some _) fun _ => ex_some _
theorem l84 (x : S76) : ∀ (n k : Nat) (e : Bool) (i : Nat), i + n = 3 → n + 41 ≤ k → ∃ r, F84.l0 x k e (i : Int) = some r
  | n, 0, _, _, _, h => by omega
  | 0, k + 1, e, i, h, hk => by rw [F84.l0, if_neg (by omega)]; exact ex_some _
  | n + 1, k + 1, e, i, h, hk => by
    have ew : IntKind.i64.wrap ((i : Int) + 1) = ((i + 1 : Nat) : Int) := by rw [w64 (by omega) (by omega)]; rfl
    have ih := fun e => l84 x n k e (i + 1) (by omega) (by omega)
    rw [F84.l0, if_pos (by omega), if_pos (by omega)]
    simp only [ew]
    refine ex_lt fun m _ => ex_ite (fun _ => ih _) fun _ => ex_bind (ex_ite (fun _ => ex_some _) fun _ => ex_bind (f111 _ k (by omega)) fun _ => ex_some _) fun q => ex_ite (fun _ => ex_some _) (fun _ => ih _)
theorem f84 (x : S76) (k : Nat) (hk : 44 ≤ k) : ∃ r, F84.f k x = some r := by
  unfold F84.f
  refine ex_bind (f71 _) fun r => ex_ite (fun _ => ex_some _) fun _ => ex_ite (fun _ => ex_lt fun _ _ => ex_some _) fun _ => ?_
  refine ex_bind (ex_ite (fun _ => ex_some _) fun _ => ex_bind (f111 _ k (by omega)) fun _ => ex_some _) fun t => ex_ite (fun _ => ex_some _) fun _ => ?_
  exact ex_bind (l84 x 3 k false 0 rfl (by omega)) fun t => ex_el (fun _ => ex_some _) fun _ => ex_some _
theorem l41 (g : S67) (hg : g.f2.length ≤ 1048576) (h0 : g.f0 ≠ 0) : ∀ (n k : Nat) (a : S76) (i : Nat), i + n = g.f2.length → n + 45 ≤ k → ∃ r, F41.l0 g k a (i : Int) = some r
  | n, 0, _, _, _, h => by omega
  | 0, k + 1, a, i, h, hk => by rw [F41.l0, if_neg (by omega)]; exact ex_some _
  | n + 1, k + 1, a, i, h, hk => by
    have ew : IntKind.i64.wrap ((i : Int) + 1) = ((i + 1 : Nat) : Int) := by rw [w64 (by omega) (by omega)]; rfl
    have ih := fun a => l41 g hg h0 n k a (i + 1) (by omega) (by omega)
    rw [F41.l0, if_pos (by omega), if_pos (by omega), if_pos h0]
    simp only [ew]
    refine ex_lt fun q _ => ex_ite (fun _ => ex_some _) fun _ => ex_lt fun q _ => ex_bind (ex_ite (fun _ => ex_ite (fun _ => ex_some _) fun hc => absurd h0 hc) fun _ => ex_some _) fun q => ?_
    refine ex_bind (f84 _ k (by omega)) fun r => ex_lt fun q _ => ex_bind (ex_ite (fun _ => ex_some _) fun _ => ex_ite (fun _ => ex_some _) fun _ => ex_some _) fun q => ex_ite (fun _ => ex_some _) fun _ => ih _
theorem f41 (g : S67) (hg : g.f2.length ≤ 1048576) (k : Nat) (hk : g.f2.length + 45 ≤ k) : ∃ r, F41.f k g = some r := by
  unfold F41.f
  have e78 : F78.f g.f0 g.f1 = some (decide (1 ≤ g.f0) && decide (g.f0 ≤ 512) && decide (1 ≤ g.f1) && decide (g.f1 ≤ 512)) := by
    unfold F78.f; simp only [lt]
  rw [e78]
  simp only [Option.bind_some]
  refine ex_lt fun q hq => ex_ite (fun _ => ex_some _) fun hn => ?_
  have h0 : g.f0 ≠ 0 := fun h0 => by
    apply hn; rw [hq, h0]; rfl
  exact ex_bind (l41 g hg h0 g.f2.length k _ 0 (by omega) hk) fun t => ex_el (fun _ => ex_some _) fun _ => ex_some _
theorem l91 (a b : List S76) (hab : a.length = b.length) (ha : a.length ≤ 1048576) : ∀ (n k : Nat) (i : Nat), i + n = a.length → n < k → ∃ r, F91.l0 a b k (i : Int) = some r
  | n, 0, _, _, h => by omega
  | 0, k + 1, i, h, hk => by rw [F91.l0, if_neg (by omega)]; exact ex_some _
  | n + 1, k + 1, i, h, hk => by
    have ew : IntKind.i64.wrap ((i : Int) + 1) = ((i + 1 : Nat) : Int) := by rw [w64 (by omega) (by omega)]; rfl
    rw [F91.l0, if_pos (by omega), if_pos (by omega), if_pos (by omega), ew]
    exact ex_ite (fun _ => ex_some _) fun _ => l91 a b hab ha n k (i + 1) (by omega) (by omega)
theorem f91 (a b : List S76) (ha : a.length ≤ 1048576) (k : Nat) (hk : a.length < k) : ∃ r, F91.f k a b = some r := by
  unfold F91.f
  refine ex_ite (fun _ => ex_some _) fun h => ex_bind (l91 a b (by omega) ha a.length k 0 (by omega) hk) fun t => ex_el (fun _ => ex_some _) fun _ => ex_some _
theorem f50 (a b : S67) (ha : a.f2.length ≤ 1048576) (k : Nat) (hk : a.f2.length < k) : ∃ r, F50.f k a b = some r := by
  unfold F50.f
  exact ex_lt fun q _ => ex_bind (ex_ite (fun _ => ex_bind (f91 _ _ ha k hk) fun _ => ex_some _) fun _ => ex_some _) fun _ => ex_some _
theorem l119 (l : List Int) (hl : l.length ≤ 1048576) : ∀ (n k : Nat) (i : Nat), i + n = l.length → n < k → ∃ r, F119.l0 l (fun x => F107.f x) k (i : Int) = some r
  | n, 0, _, _, h => by omega
  | 0, k + 1, i, h, hk => by rw [F119.l0, if_neg (by omega)]; exact ex_some _
  | n + 1, k + 1, i, h, hk => by
    have ew : IntKind.i64.wrap ((i : Int) + 1) = ((i + 1 : Nat) : Int) := by rw [w64 (by omega) (by omega)]; rfl
    rw [F119.l0, if_pos (by omega), if_pos (by omega), ew]
    exact ex_bind ⟨_, rfl⟩ fun r => ex_ite (fun _ => ex_some _) fun _ => l119 l hl n k (i + 1) (by omega) (by omega)
theorem f106 (l : List Int) (hl : l.length ≤ 1048576) (k : Nat) (hk : l.length < k) : ∃ r, F106.f k l (fun x => F107.f x) = some r := by
  unfold F106.f F119.f
  exact ex_bind (ex_bind (l119 l hl l.length k 0 (by omega) hk) fun t => ex_el (fun _ => ex_some _) fun _ => ex_some _) fun _ => ex_some _
theorem l74a (s : S83) : ∀ (n k : Nat) (i : Nat), i + n = 2 → n < k → ∃ r, F74.l0 s k (i : Int) = some r
  | n, 0, _, _, h => by omega
  | 0, k + 1, i, h, hk => by rw [F74.l0, if_neg (by omega)]; exact ex_some _
  | n + 1, k + 1, i, h, hk => by
    have ew : IntKind.i64.wrap ((i : Int) + 1) = ((i + 1 : Nat) : Int) := by rw [w64 (by omega) (by omega)]; rfl
    rw [F74.l0, if_pos (by omega), if_pos (by omega), ew]
    refine ex_lt fun q _ => ex_lt fun q _ => ex_lt fun q _ => ex_bind (ex_ite (fun _ => ex_some _) fun _ => ex_ite (fun _ => ex_some _) fun _ => ex_some _) fun q => ex_ite (fun _ => ex_some _) fun _ => l74a s n k (i + 1) (by omega) (by omega)
theorem l74b (s : S83) (hs : s.f7.length ≤ 1048576) : ∀ (n k : Nat) (a : Int) (i : Nat), i + n = s.f7.length → n < k → ∃ r, F74.l1 s k a (i : Int) = some r
  | n, 0, _, _, _, h => by omega
  | 0, k + 1, a, i, h, hk => by rw [F74.l1, if_neg (by omega)]; exact ex_some _
  | n + 1, k + 1, a, i, h, hk => by
    have ew : IntKind.i64.wrap ((i : Int) + 1) = ((i + 1 : Nat) : Int) := by rw [w64 (by omega) (by omega)]; rfl
    rw [F74.l1, if_pos (by omega), if_pos (by omega), ew]
    exact ex_lt fun m _ => ex_lt fun q _ => ex_ite (fun _ => ex_some _) fun _ => l74b s hs n k m (i + 1) (by omega) (by omega)
theorem f74 (s : S83) (h1 : s.f0.f2.length ≤ 1048576) (h2 : s.f7.length ≤ 1048576) (h3 : s.f16.f2.length ≤ 1048576) (h4 : s.f17.length ≤ 1048576) (k : Nat) (hk : 1048700 ≤ k) : ∃ r, F74.f k s = some r := by
  unfold F74.f
  refine ex_bind (f41 _ h1 k (by omega)) fun r => ex_bind (ex_ite (fun _ => ex_some _) fun _ => ex_bind (f71 _) fun _ => ex_some _) fun q => ex_bind (ex_ite (fun _ => ex_some _) fun _ => ex_bind (f71 _) fun _ => ex_some _) fun q => ?_
  refine ex_lt fun q _ => ex_lt fun q _ => ex_lt fun q _ => ex_ite (fun _ => ex_some _) fun _ => ?_
  refine ex_bind (l74a s 2 k 0 rfl (by omega)) fun t => ex_el (fun _ => ex_some _) fun _ => ?_
  refine ex_bind (l74b s h2 s.f7.length k _ 0 (by omega) (by omega)) fun t => ex_el (fun _ => ex_some _) fun _ => ?_
  refine ex_bind (ex_ite (fun _ => ex_bind (f41 _ h3 k (by omega)) fun r => ex_ite (fun _ => ex_ite (fun _ => ex_some _) fun _ => ex_some _) fun _ => ex_ite (fun _ => ex_some _) fun _ => ex_some _) fun _ => ex_some _) fun q => ?_
  refine ex_bind (ex_ite (fun _ => ex_some _) fun _ => ex_ite (fun _ => ex_bind (f50 _ _ h3 k (by omega)) fun _ => ex_some _) fun _ => ex_some _) fun q => ?_
  exact ex_ite (fun _ => ex_some _) fun _ => ex_bind (ex_ite (fun _ => ex_bind (f106 _ h4 k (by omega)) fun _ => ex_some _) fun _ => ex_some _) fun _ => ex_some _

/-! ### the bytes of events -/
/-- Clean bytes. -/
def cl : List Int → List Int
  | [] => []
  | c :: r => if c = 27 ∨ c = 155 then cl r else if c = 10 then 13 :: cl r else c :: cl r
theorem cl_len : ∀ l : List Int, (cl l).length ≤ l.length
  | [] => Nat.le_refl _
  | c :: r => by
    have := cl_len r
    unfold cl
    split
    · simp; omega
    · split <;> simp <;> omega

theorem l17 (l : List Int) (hL : l.length ≤ 140737488351232) : ∀ (n k : Nat) (acc : List Int) (i : Nat), i + n = l.length → n < k → acc.length ≤ i → F17.l0 l k acc (i : Int) = some (acc ++ cl (l.drop i))
  | 0, k + 1, acc, i, h, _, _ => by
    rw [F17.l0, if_neg (by omega), List.drop_of_length_le (by omega)]; simp [cl]
  | n + 1, k + 1, acc, i, h, hk, ha => by
    have hi : i < l.length := by omega
    have ew : IntKind.i64.wrap ((i : Int) + 1) = ((i + 1 : Nat) : Int) := by rw [w64 (by omega) (by omega)]; rfl
    have ih := fun acc ha => l17 l hL n k acc (i + 1) (by omega) (by omega) ha
    rw [F17.l0, if_pos (by omega), if_pos (by omega), rd_lt hi, List.drop_eq_getElem_cons hi]
    simp only [lt, ew, cl]
    by_cases h1 : l[i] = 27
    · rw [if_pos h1, if_pos (Or.inl h1)]
      simp only [Option.bind_some, h1, decide_true, if_true]
      exact ih acc (by omega)
    · rw [if_neg h1]
      by_cases h2 : l[i] = 155
      · rw [if_pos (Or.inr h2)]
        simp only [Option.bind_some, h2, decide_true, if_true]
        exact ih acc (by omega)
      · have hn : ¬ (l[i] = 27 ∨ l[i] = 155) := fun h => h.elim h1 h2
        rw [if_neg hn]
        simp only [Option.bind_some, h2, decide_false, Bool.false_eq_true, if_false]
        by_cases h3 : l[i] = 10
        · rw [if_pos h3, if_pos h3, if_pos (by simp; omega), ih _ (by simp; omega)]; simp
        · rw [if_neg h3, if_neg h3, if_pos (by simp; omega), ih _ (by simp; omega)]; simp
  | 0, 0, _, _, _, h, _ => by omega
  | n + 1, 0, _, _, _, h, _ => by omega
theorem f17 (l : List Int) (hL : l.length ≤ 140737488351232) (k : Nat) (hk : l.length < k) : F17.f k l = some (cl l) := by
  unfold F17.f
  have := l17 l hL l.length k [] 0 (by omega) hk (by simp)
  rw [show ((0 : Nat) : Int) = 0 from rfl] at this
  rw [this]; simp

theorem over_zero (a b : List Int) : over (List.replicate (a.length + b.length) (0 : Int)) 0 (a.take (a.length + b.length)) = a ++ List.replicate b.length 0 := by
  unfold over
  rw [List.take_of_length_le (l := a) (by omega), List.take_zero, List.nil_append, List.drop_replicate]
  congr 2; omega
theorem over_tail (a b c : List Int) (h : c.length = b.length) : over (a ++ c) a.length b = a ++ b := by
  unfold over
  rw [List.take_left, List.drop_of_length_le (by simp; omega), List.append_nil]
theorem f58 (a b : List Int) (h : a.length + b.length ≤ 140737488355328) : F58.f a b = some (a ++ b) := by
  have ew : IntKind.i64.wrap ((a.length : Int) + (b.length : Int)) = ((a.length + b.length : Nat) : Int) := by rw [w64 (by omega) (by omega)]; simp
  have em : minI (a.length : Int) ((a.length + b.length : Nat) : Int) = a.length := by rw [minI_eq]; omega
  have et := over_tail a b (List.replicate b.length 0) (by simp)
  have eb : b.take (a.length + b.length - a.length) = b := List.take_of_length_le (by omega)
  unfold F58.f
  rw [ew]
  simp only [lt, Int.toNat_natCast, List.length_replicate, over_zero, List.length_append, em, eb, et]
  rw [if_pos (by omega), if_pos (by omega)]

/-- Which events may be. -/
def may (x : S25) : Bool :=
  if x.f0 = 1 then decide (x.f2 = 0) && decide (x.f3 = 0) && decide (x.f4 = 0) && decide (1 ≤ x.f1.length) && decide (x.f1.length ≤ 4096)
  else if x.f0 = 3 then decide (x.f2 = 0) && decide (x.f3 = 0) && decide (x.f4 = 0) && decide (x.f1.length ≤ 4096)
  else if x.f0 = 2 then decide (x.f4 = 0) && decide (x.f1.length = 0) && decide (1 ≤ x.f2) && decide (x.f2 ≤ 512) && decide (1 ≤ x.f3) && decide (x.f3 ≤ 512)
  else if x.f0 = 4 then decide (x.f2 = 0) && decide (x.f3 = 0) && decide (x.f1.length = 0) && decide (65 ≤ x.f4) && decide (x.f4 ≤ 68)
  else false
theorem f57 (x : S25) : F57.f x = some (may x) := by
  unfold F57.f may
  simp only [lt]
  by_cases h1 : x.f0 = 1
  · rw [if_pos h1, if_pos h1]; congr 1; rw [Bool.eq_iff_iff]; simp only [Bool.and_eq_true, decide_eq_true_eq]; omega
  · rw [if_neg h1, if_neg h1]
    by_cases h2 : x.f0 = 3
    · rw [if_pos h2, if_pos h2]; congr 1; rw [Bool.eq_iff_iff]; simp only [Bool.and_eq_true, decide_eq_true_eq]; omega
    · rw [if_neg h2, if_neg h2]
      by_cases h3 : x.f0 = 2
      · rw [if_pos h3, if_pos h3]; congr 1; rw [Bool.eq_iff_iff]; simp only [Bool.and_eq_true, decide_eq_true_eq]; omega
      · rw [if_neg h3, if_neg h3]
        by_cases h4 : x.f0 = 4
        · rw [if_pos h4, if_pos h4]; congr 1; rw [Bool.eq_iff_iff]; simp only [Bool.and_eq_true, decide_eq_true_eq]; omega
        · rw [if_neg h4, if_neg h4]
/-- What an event's bytes are. -/
def encE (x : S25) (a p : Bool) : List Int × Int :=
  if may x = false then ([], 2) else if x.f0 = 1 then (x.f1, 0) else if x.f0 = 4 then (if a = true then ([27, 79, x.f4], 0) else ([27, 91, x.f4], 0))
  else if x.f0 = 3 then (if p = true then ([27, 91, 50, 48, 48, 126] ++ cl x.f1 ++ [27, 91, 50, 48, 49, 126], 0) else (cl x.f1, 0)) else ([], 0)

theorem f14 (x : S25) (a p : Bool) (hL : x.f1.length ≤ 140737488351232) (k : Nat) (hk : x.f1.length < k) : F14.f k x a p = some (encE x a p) := by
  unfold F14.f encE
  rw [f57, f17 _ hL k hk]
  have hc := cl_len x.f1
  have e58 := f58 [] x.f1 (by simp; omega)
  have e1 := f58 [27, 91, 50, 48, 48, 126] (cl x.f1) (by simp; omega)
  have e2 := f58 ([27, 91, 50, 48, 48, 126] ++ cl x.f1) [27, 91, 50, 48, 49, 126] (by simp; omega)
  simp only [Option.bind_some, lt, e58, e1, e2, List.nil_append]
  cases hm : may x with
  | false => simp
  | true =>
    by_cases h1 : x.f0 = 1
    · simp [h1]
    · by_cases h4 : x.f0 = 4
      · cases a <;> simp [h4]
      · by_cases h3 : x.f0 = 3
        · cases p <;> simp [h3]
        · simp [h1, h3, h4]
theorem anchored (k : Nat) (hk : 10 < k) : F19.f k = some true := by
  unfold F19.f
  rw [f14 _ _ _ (by simp) k (by simp; omega), f14 _ _ _ (by simp) k (by simp; omega), f14 _ _ _ (by simp) k (by simp; omega)]
  have e1 : encE (S25.mk 4 ([] : List Int) 0 0 65) false false = ([27, 91, 65], 0) := by decide
  have e2 : encE (S25.mk 4 ([] : List Int) 0 0 65) true false = ([27, 79, 65], 0) := by decide
  have e3 : encE (S25.mk 3 ([97, 27, 98, 10] : List Int) 0 0 0) false true = ([27, 91, 50, 48, 48, 126, 97, 98, 13, 27, 91, 50, 48, 49, 126], 0) := by decide
  rw [e1, e2, e3]
  simp [lt, F16.f]


/-! ### many events -/
def errOf (a p : Bool) : List S25 → Int
  | [] => 0
  | x :: r => if (encE x a p).2 ≠ 0 then (encE x a p).2 else errOf a p r
def outOf (a p : Bool) : List S25 → List Int
  | [] => []
  | x :: r => (encE x a p).1 ++ outOf a p r
def allE (a p : Bool) (l : List S25) : List Int × Int := if errOf a p l ≠ 0 then ([], errOf a p l) else (outOf a p l, 0)

theorem sum_ones {α : Type} (l : List α) (f : α → Nat) (h : ∀ x, 1 ≤ f x) : l.length ≤ (l.map f).sum := by
  induction l with
  | nil => simp
  | cons x r ih => have := h x; simp only [List.length_cons, List.map_cons, List.sum_cons]; omega
theorem bk25_len (x : S25) : x.f1.length + 1 ≤ bk25 x := by
  unfold bk25
  have := sum_ones x.f1 (fun _ : Int => 1) (fun _ => Nat.le_refl _)
  omega
theorem enc_len (x : S25) (a p : Bool) : (encE x a p).1.length ≤ 13 * bk25 x := by
  have h := bk25_len x
  have hc := cl_len x.f1
  unfold encE
  repeat' split
  all_goals first | (simp; done) | (simp only [List.length_append, List.length_cons, List.length_nil]; omega)
theorem out_len (a p : Bool) : ∀ l : List S25, (outOf a p l).length ≤ 13 * (l.map bk25).sum
  | [] => by simp [outOf]
  | x :: r => by
    have h1 := enc_len x a p
    have h2 := out_len a p r
    simp only [outOf, List.length_append, List.map_cons, List.sum_cons]; omega
theorem len_sum : ∀ l : List S25, l.length ≤ (l.map bk25).sum
  | [] => by simp
  | x :: r => by
    have h1 := bk25_len x
    have h2 := len_sum r
    simp only [List.length_cons, List.map_cons, List.sum_cons]; omega
theorem mem_sum {x : S25} : ∀ {l : List S25}, x ∈ l → bk25 x ≤ (l.map bk25).sum
  | y :: r, h => by
    simp only [List.map_cons, List.sum_cons]
    rcases List.mem_cons.1 h with rfl | h
    · omega
    · have := mem_sum h; omega

theorem l34 (s : S83) (l : List S25) (hl : (l.map bk25).sum ≤ 1048576) : ∀ (n k : Nat) (acc : List Int) (i : Nat), i + n = l.length → n + 1048600 ≤ k → acc.length + (outOf s.f11 s.f12 (l.drop i)).length ≤ 13631488 →
    F34.l0 s l k acc (i : Int) = some (if errOf s.f11 s.f12 (l.drop i) ≠ 0 then Out.ret ([], errOf s.f11 s.f12 (l.drop i)) else Out.go (acc ++ outOf s.f11 s.f12 (l.drop i)))
  | n, 0, _, _, _, h, _ => by omega
  | 0, k + 1, acc, i, h, hk, _ => by
    rw [F34.l0, if_neg (by omega), List.drop_of_length_le (by omega)]; simp [errOf, outOf]
  | n + 1, k + 1, acc, i, h, hk, ha => by
    have hi : i < l.length := by omega
    have hll := len_sum l
    have hm := mem_sum (List.getElem_mem hi)
    have hx := bk25_len l[i]
    have ew : IntKind.i64.wrap ((i : Int) + 1) = ((i + 1 : Nat) : Int) := by rw [w64 (by omega) (by omega)]; rfl
    rw [List.drop_eq_getElem_cons hi] at ha ⊢
    simp only [outOf, List.length_append] at ha
    rw [F34.l0, if_pos (by omega), if_pos (by omega), rd_lt hi, f14 _ _ _ (by omega) k (by omega)]
    simp only [Option.bind_some, ew, errOf, outOf]
    by_cases he : (encE l[i] s.f11 s.f12).2 = 0
    · rw [if_neg (by omega), f58 _ _ (by omega)]
      simp only [Option.bind_some]
      rw [l34 s l hl n k _ (i + 1) (by omega) (by omega) (by simp only [List.length_append]; omega)]
      simp [he]
    · rw [if_pos he]; simp [he]
theorem f34 (s : S83) (l : List S25) (b : Bool) (k : Nat) (hl : (l.map bk25).sum ≤ 1048576) (hk : 3000000 ≤ k) (hb : F74.f k s = some b) : F34.f k s l = some (if b = true then allE s.f11 s.f12 l else ([], 2)) := by
  have hll := len_sum l
  have ho := out_len s.f11 s.f12 l
  unfold F34.f
  rw [hb]
  cases b
  · simp
  · have h0 := l34 s l hl l.length k [] 0 (by omega) (by omega) (by simp; omega)
    rw [show ((0 : Nat) : Int) = 0 from rfl, List.drop_zero] at h0
    simp only [Option.bind_some, Bool.not_true, Bool.false_eq_true, if_false, h0, allE, if_true]
    by_cases he : errOf s.f11 s.f12 l = 0
    · simp [he, Out.el]
    · simp [he, Out.el]

theorem err_append (a p : Bool) : ∀ l r : List S25, errOf a p (l ++ r) = if errOf a p l ≠ 0 then errOf a p l else errOf a p r
  | [], r => by simp [errOf]
  | x :: l, r => by
    simp only [List.cons_append, errOf]
    by_cases he : (encE x a p).2 = 0
    · simp only [he, ne_eq, not_true_eq_false, if_false]; exact err_append a p l r
    · simp only [he, ne_eq, not_false_eq_true, if_true]
theorem out_append (a p : Bool) : ∀ l r : List S25, outOf a p (l ++ r) = outOf a p l ++ outOf a p r
  | [], r => by simp [outOf]
  | x :: l, r => by simp only [List.cons_append, outOf, out_append a p l r, List.append_assoc]

/-! ### pasted bytes -/
theorem cl_no : ∀ (l : List Int), ∀ c ∈ cl l, c ≠ 27
  | [], c, h => by simp [cl] at h
  | x :: r, c, h => by
    unfold cl at h
    split at h
    · exact cl_no r c h
    · split at h
      · rcases List.mem_cons.1 h with rfl | h
        · omega
        · exact cl_no r c h
      · rcases List.mem_cons.1 h with rfl | h
        · rename_i h1 h2; exact fun q => h1 (Or.inl q)
        · exact cl_no r c h
theorem paste_get (l : List Int) (j : Nat) (h1 : 1 ≤ j) (h2 : j + 6 < ([27, 91, 50, 48, 48, 126] ++ cl l ++ [27, 91, 50, 48, 49, 126] : List Int).length) :
    rd ([27, 91, 50, 48, 48, 126] ++ cl l ++ [27, 91, 50, 48, 49, 126] : List Int) (j : Int) ≠ 27 := by
  simp only [List.length_append, List.length_cons, List.length_nil] at h2
  rw [rd_lt (by simp only [List.length_append, List.length_cons, List.length_nil]; omega)]
  rw [List.getElem_append_left (by simp only [List.length_append, List.length_cons, List.length_nil]; omega)]
  rcases Nat.lt_or_ge j 6 with hj | hj
  · rw [List.getElem_append_left (by simpa using hj)]
    have : j = 1 ∨ j = 2 ∨ j = 3 ∨ j = 4 ∨ j = 5 := by omega
    rcases this with rfl | rfl | rfl | rfl | rfl <;> simp
  · rw [List.getElem_append_right (by simpa using hj)]
    exact cl_no l _ (List.getElem_mem _)
theorem l7b (l : List Int) (e : Int) (hl : l.length ≤ 1048576) : ∀ (n k : Nat) (i : Nat), i + n = (cl l).length + 6 → n < k → 1 ≤ i →
    F7.l1 (([27, 91, 50, 48, 48, 126] ++ cl l ++ [27, 91, 50, 48, 49, 126] : List Int), e) k (i : Int) = some (Out.go ())
  | n, 0, _, _, h, _ => by omega
  | n, k + 1, i, h, hk, hi => by
    have hc := cl_len l
    have el : ([27, 91, 50, 48, 48, 126] ++ cl l ++ [27, 91, 50, 48, 49, 126] : List Int).length = (cl l).length + 12 := by simp
    have ew : IntKind.i64.wrap ((((cl l).length + 12 : Nat) : Int) - 6) = (((cl l).length + 6 : Nat) : Int) := by rw [w64 (by omega) (by omega)]; omega
    rw [F7.l1]
    simp only [el, ew]
    rcases Nat.eq_zero_or_pos n with rfl | hn
    · rw [if_neg (by omega)]
    · have e2 : IntKind.i64.wrap ((i : Int) + 1) = ((i + 1 : Nat) : Int) := by rw [w64 (by omega) (by omega)]; rfl
      rw [if_pos (by omega), if_pos (by omega), if_neg (paste_get l i hi (by rw [el]; omega))]
      simp only [lt, e2]
      obtain ⟨m, rfl⟩ : ∃ m, n = m + 1 := ⟨n - 1, by omega⟩
      exact l7b l e hl m k (i + 1) (by omega) (by omega) (by omega)
theorem l7a (l : List S25) (hl : (l.map bk25).sum ≤ 1048576) : ∀ (n k : Nat) (i : Nat), i + n = l.length → n + 2000000 ≤ k → F7.l0 l k (i : Int) = some (Out.go ())
  | n, 0, _, h, _ => by omega
  | 0, k + 1, i, h, hk => by rw [F7.l0, if_neg (by omega)]
  | n + 1, k + 1, i, h, hk => by
    have hi : i < l.length := by omega
    have hll := len_sum l
    have hm := mem_sum (List.getElem_mem hi)
    have hx := bk25_len l[i]
    have hc := cl_len l[i].f1
    have ew : IntKind.i64.wrap ((i : Int) + 1) = ((i + 1 : Nat) : Int) := by rw [w64 (by omega) (by omega)]; rfl
    have ih := l7a l hl n k (i + 1) (by omega) (by omega)
    rw [F7.l0, if_pos (by omega), if_pos (by omega), rd_lt hi]
    simp only [lt, ew]
    by_cases h3 : l[i].f0 = 3
    · rw [if_neg (by omega), if_pos (by omega), f14 _ _ _ (by omega) k (by omega)]
      simp only [Option.bind_some]
      by_cases he : (encE l[i] false true).2 = 0
      · have hmay : may l[i] = true := by
          cases hm : may l[i] with
          | true => rfl
          | false => simp [encE, hm] at he
        have e1 : encE l[i] false true = (([27, 91, 50, 48, 48, 126] ++ cl l[i].f1 ++ [27, 91, 50, 48, 49, 126] : List Int), 0) := by
          unfold encE; rw [hmay]; simp [h3]
        rw [if_neg (by omega), e1, if_neg (by simp; omega)]
        have h7 := l7b l[i].f1 0 (by omega) ((cl l[i].f1).length + 5) k 1 (by omega) (by omega) (Nat.le_refl _)
        rw [show ((1 : Nat) : Int) = 1 from rfl] at h7
        rw [h7]
        simp only [Option.bind_some, Out.el]
        exact ih
      · rw [if_pos he]; exact ih
    · rw [if_pos h3]; exact ih

theorem sum_take_drop (l : List S25) (n : Nat) : ((l.take n).map bk25).sum + ((l.drop n).map bk25).sum = (l.map bk25).sum := by
  rw [← List.sum_append, ← List.map_append, List.take_append_drop]
theorem law (s : S83) (l : List S25) (c : Int) (hc0 : 0 ≤ c) (hc1 : c < 256) (hl : (l.map bk25).sum ≤ 1048576) (h1 : s.f0.f2.length ≤ 1048576) (h2 : s.f7.length ≤ 1048576) (h3 : s.f16.f2.length ≤ 1048576) (h4 : s.f17.length ≤ 1048576) : ∃ k, F7.f k s l c = some true := by
  refine ⟨5000000, ?_⟩
  generalize hkk : (5000000 : Nat) = k
  obtain ⟨b, hb⟩ := f74 s h1 h2 h3 h4 k (by omega)
  have hll := len_sum l
  have e0 := l7a l hl l.length k 0 (by omega) (by omega)
  rw [show ((0 : Nat) : Int) = 0 from rfl] at e0
  have ew : IntKind.i64.wrap ((l.length : Int) + 1) = ((l.length + 1 : Nat) : Int) := by rw [w64 (by omega) (by omega)]; rfl
  have ew2 : IntKind.i64.wrap c = c := w64 (by omega) (by omega)
  obtain ⟨m, rfl⟩ : ∃ m : Nat, c = (m : Int) := ⟨c.toNat, by omega⟩
  have em : ((m : Int)).tmod ((l.length + 1 : Nat) : Int) = ((m % (l.length + 1) : Nat) : Int) := by rw [Int.tmod_eq_emod_of_nonneg (by omega)]; simp
  have hn : m % (l.length + 1) ≤ l.length := by have := Nat.mod_lt m (show 0 < l.length + 1 by omega); omega
  unfold F7.f
  rw [e0, ew, ew2, em]
  generalize m % (l.length + 1) = n at hn
  have hs := sum_take_drop l n
  simp only [Option.bind_some, Out.el, lt, sub_take, sub_drop]
  rw [if_pos (by omega), f34 s l b k hl (by omega) hb]
  simp only [Option.bind_some]
  rw [if_pos (by omega), f34 s (l.take n) b k (by omega) (by omega) hb]
  simp only [Option.bind_some]
  rw [if_pos (by omega), f34 s (l.drop n) b k (by omega) (by omega) hb, anchored k (by omega)]
  simp only [Option.bind_some]
  cases b
  · simp
  · have ea := err_append s.f11 s.f12 (l.take n) (l.drop n)
    have eo := out_append s.f11 s.f12 (l.take n) (l.drop n)
    rw [List.take_append_drop] at ea eo
    have o1 := out_len s.f11 s.f12 (l.take n)
    have o2 := out_len s.f11 s.f12 (l.drop n)
    simp only [if_true, allE]
    by_cases g1 : errOf s.f11 s.f12 (l.take n) = 0
    · by_cases g2 : errOf s.f11 s.f12 (l.drop n) = 0
      · have ee : errOf s.f11 s.f12 l = 0 := by rw [ea]; simp [g1, g2]
        simp only [ee, g1, g2, ne_eq, not_true_eq_false, if_false, decide_true, Bool.and_self, if_true, Option.bind_some]
        rw [if_pos (by omega), ← eo]
        simp [F16.f, lt]
      · have ee : errOf s.f11 s.f12 l ≠ 0 := by rw [ea]; simp [g1, g2]
        simp [ee, g1, g2]
    · have ee : errOf s.f11 s.f12 l ≠ 0 := by rw [ea]; simp [g1]
      simp [ee, g1]
theorem row (x0 : S83) (x1 : List S25) (x2 : Int) (w0 : wf83 x0) (w1 : ∀ y_ ∈ x1, wf25 y_) (w2 : (Lit.int .u8 x2).wf = true) (hB : bk83 x0 + ((x1.map bk25).sum + 1) + 1 ≤ 1048576) : ∃ k, F7.f k x0 x1 x2 = some true := by
  have hw : 0 ≤ x2 ∧ x2 < 256 := by
    simp only [Lit.wf, IntKind.min, IntKind.max, Bool.and_eq_true, decide_eq_true_eq] at w2
    have := w2.1; have := w2.2
    constructor <;> (simp [IntKind.signed, IntKind.bits] at *; omega)
  have a1 := sum_ones x0.f0.f2 bk76 (fun x => by unfold bk76; omega)
  have a2 := sum_ones x0.f7 (fun _ : Int => 1) (fun x => Nat.le_refl _)
  have a3 := sum_ones x0.f16.f2 bk76 (fun x => by unfold bk76; omega)
  have a4 := sum_ones x0.f17 (fun _ : Int => 1) (fun x => Nat.le_refl _)
  unfold bk83 bk67 at hB
  exact law x0 x1 x2 hw.1 hw.2 (by omega) (by omega) (by omega) (by omega) (by omega)
end Go.Proofs.Ytodkeoibebimgaa.KbPure

/- The plain law of DeflateTells: what the walked functions compute answers as the statement says. -/
import Derived.Test.YtocjoegcfojjhaaGa
import Derived.Test.YtocjoegcfojjhaaSlP
namespace Go.Proofs.Ytocjoegcfojjhaa.GaPure
open Go Go.RowKit Go.Proofs.Ytocjoegcfojjhaa.SL Go.Proofs.Ytocjoegcfojjhaa.Ga
set_option linter.unusedVariables false
set_option linter.unusedSimpArgs false

def S82.wf (x : S82) : Prop := 0 ≤ x.f0 ∧ x.f0 < 256 ∧ (-9223372036854775808 ≤ x.f1 ∧ x.f1 < 9223372036854775808) ∧ (-9223372036854775808 ≤ x.f2 ∧ x.f2 < 9223372036854775808)

/-! tokens -/
def copyN (dist : Int) : Nat → List Int → List Int
  | 0, out => out
  | n + 1, out => copyN dist n (out ++ [rd out ((out.length : Int) - dist)])
theorem copyN_len (dist : Int) : ∀ n out, (copyN dist n out).length = out.length + n
  | 0, _ => rfl
  | n + 1, out => by rw [copyN, copyN_len dist n]; simp; omega

def bad (t : S82) (n : Nat) : Bool :=
  if t.f1 = 0 then decide (t.f2 ≠ 0) else decide (t.f0 ≠ 0) || decide (t.f1 < 3) || decide (t.f1 > 258) || decide (t.f2 < 1) || decide (t.f2 > 32768) || decide (t.f2 > (n : Int))
def ext (t : S82) (out : List Int) : List Int := if t.f1 = 0 then out ++ [t.f0] else copyN t.f2 t.f1.toNat out
def expO : List S82 → List Int → Out (List Int × Int) (List Int)
  | [], out => .go out
  | t :: ts, out => if bad t out.length = true then .ret ([], 2) else if (ext t out).length > 65536 then .ret ([], 4) else expO ts (ext t out)

theorem bad_no {t : S82} {n : Nat} (h : ¬ bad t n = true) : (t.f1 = 0 ∧ t.f2 = 0) ∨ (t.f1 ≠ 0 ∧ t.f0 = 0 ∧ 3 ≤ t.f1 ∧ t.f1 ≤ 258 ∧ 1 ≤ t.f2 ∧ t.f2 ≤ 32768 ∧ t.f2 ≤ (n : Int)) := by
  unfold bad at h
  by_cases h1 : t.f1 = 0
  · rw [if_pos h1] at h; simp at h; exact .inl ⟨h1, h⟩
  · rw [if_neg h1] at h; simp at h; exact .inr ⟨h1, by omega⟩

theorem ext_len {t : S82} {out : List Int} (h : ¬ bad t out.length = true) : (ext t out).length = out.length + (max t.f1 1).toNat := by
  unfold ext
  rcases bad_no h with ⟨h1, _⟩ | ⟨h1, _, h3, _⟩
  · rw [if_pos h1, h1, List.length_append]; rfl
  · rw [if_neg h1, copyN_len]; omega

theorem l1_15 (l0 : List S82) (x : Int) (hd : 1 ≤ (rd l0 x).f2) (hl : (rd l0 x).f1 ≤ 258) : ∀ (n k : Nat) (out : List Int) (i : Int), 0 ≤ i → (rd l0 x).f1 - i = n → n < k → (rd l0 x).f2 ≤ out.length → out.length + n ≤ 70000 →
    F15.l1 l0 x k out i = some (copyN (rd l0 x).f2 n out)
  | 0, k + 1, out, i, h0, hn, _, h1, h2 => by
    rw [F15.l1, if_neg (by omega)]; rfl
  | n + 1, k + 1, out, i, h0, hn, hk, h1, h2 => by
    have e1 : IntKind.i64.wrap ((out.length : Int) - (rd l0 x).f2) = (out.length : Int) - (rd l0 x).f2 := w64 (by omega) (by omega)
    have e2 : IntKind.i64.wrap (i + 1) = i + 1 := w64 (by omega) (by omega)
    rw [F15.l1, if_pos (by omega)]
    simp only [e1, e2, lt]
    rw [if_pos (by omega), if_pos (by simp; omega)]
    rw [l1_15 l0 x hd hl n k _ (i + 1) (by omega) (by omega) (by omega) (by simp; omega) (by simp; omega)]
    rfl
  | 0, 0, _, _, _, _, h, _, _ => by omega
  | n + 1, 0, _, _, _, _, h, _, _ => by omega

theorem l1_14 (l0 : List S82) (x : Int) (hd : 1 ≤ (rd l0 x).f2) (hl : (rd l0 x).f1 ≤ 258) : ∀ (n k : Nat) (out : List Int) (i : Int), 0 ≤ i → (rd l0 x).f1 - i = n → n < k → (rd l0 x).f2 ≤ out.length → out.length + n ≤ 70000 →
    F14.l1 l0 x k out i = some (copyN (rd l0 x).f2 n out)
  | 0, k + 1, out, i, h0, hn, _, h1, h2 => by
    rw [F14.l1, if_neg (by omega)]; rfl
  | n + 1, k + 1, out, i, h0, hn, hk, h1, h2 => by
    have e1 : IntKind.i64.wrap ((out.length : Int) - (rd l0 x).f2) = (out.length : Int) - (rd l0 x).f2 := w64 (by omega) (by omega)
    have e2 : IntKind.i64.wrap (i + 1) = i + 1 := w64 (by omega) (by omega)
    rw [F14.l1, if_pos (by omega)]
    simp only [e1, e2, lt]
    rw [if_pos (by omega), if_pos (by simp; omega)]
    rw [l1_14 l0 x hd hl n k _ (i + 1) (by omega) (by omega) (by omega) (by simp; omega) (by simp; omega)]
    rfl
  | 0, 0, _, _, _, _, h, _, _ => by omega
  | n + 1, 0, _, _, _, _, h, _, _ => by omega

theorem may_eq (t : S82) (n : Nat) : F46.f t (n : Int) = some (!bad t n) := by
  unfold F46.f bad
  by_cases h1 : t.f1 = 0
  · rw [if_pos h1, if_pos h1]; by_cases h2 : t.f2 = 0 <;> simp [h2]
  · rw [if_neg h1, if_neg h1]
    simp only [lt, Option.some.injEq]
    rw [Bool.eq_iff_iff]
    simp
    omega

theorem drop_rd {α : Type} [Inhabited α] {l : List α} {i : Int} (h0 : 0 ≤ i) (h1 : i < l.length) : l.drop i.toNat = rd l i :: l.drop (i + 1).toNat := by
  have h : i.toNat < l.length := by omega
  rw [List.drop_eq_getElem_cons h, show (i + 1).toNat = i.toNat + 1 from by omega]
  congr 1
  simp [rd, List.getD, h]

theorem l0_15 (l0 : List S82) (hL : l0.length ≤ 9000000000000000000) : ∀ (d k : Nat) (out : List Int) (i : Int), 0 ≤ i → (l0.length : Int) - i = d → d + 300 < k → out.length ≤ 65536 →
    F15.l0 l0 k out i = some (expO (l0.drop i.toNat) out)
  | 0, k + 1, out, i, h0, hd, _, _ => by
    rw [F15.l0, if_neg (by omega), List.drop_of_length_le (by omega)]; rfl
  | d + 1, k + 1, out, i, h0, hd, hk, ho => by
    have e2 : IntKind.i64.wrap (i + 1) = i + 1 := w64 (by omega) (by omega)
    rw [F15.l0, if_pos (by omega), if_pos (by omega), drop_rd h0 (by omega)]
    simp only [lt, expO]
    by_cases hb : bad (rd l0 i) out.length = true
    · rw [if_pos hb]
      unfold bad at hb
      by_cases h1 : (rd l0 i).f1 = 0
      · rw [if_pos h1] at hb ⊢
        rw [if_pos (by simpa using hb)]
        rfl
      · rw [if_neg h1] at hb ⊢
        rw [if_pos hb]
        rfl
    · rw [if_neg hb]
      have hlen := ext_len hb
      have key : (if (rd l0 i).f1 = 0 then
            if (rd l0 i).f2 ≠ 0 then some (Out.ret (([] : List Int), (2 : Int)))
            else if out.length + [(rd l0 i).f0].length ≤ 140737488355328 then some (Out.go (out ++ [(rd l0 i).f0])) else none
          else if (decide ((rd l0 i).f0 ≠ 0) || decide ((rd l0 i).f1 < 3) || decide ((rd l0 i).f1 > 258) || decide ((rd l0 i).f2 < 1) || decide ((rd l0 i).f2 > 32768) || decide ((rd l0 i).f2 > (out.length : Int))) = true then some (Out.ret ([], 2))
            else (F15.l1 l0 i k out 0).bind fun t50 => some (Out.go t50)) = some (Out.go (ext (rd l0 i) out)) := by
        unfold ext
        rcases bad_no hb with ⟨h1, h2⟩ | ⟨h1, h2, h3, h4, h5, h6, h7⟩
        · rw [if_pos h1, if_neg (by simpa using h2), if_pos (by simp; omega), if_pos h1]
        · rw [if_neg h1, if_neg h1, if_neg (by unfold bad at hb; rw [if_neg h1] at hb; exact hb)]
          rw [l1_15 l0 i h5 h4 (rd l0 i).f1.toNat k out 0 (by omega) (by omega) (by omega) h7 (by omega)]
          rfl
      rw [key]
      simp only [Option.bind_some, Out.el]
      by_cases hg : (ext (rd l0 i) out).length > 65536
      · rw [if_pos hg, if_pos (by omega)]
      · rw [if_neg hg, if_neg (by omega), e2]
        exact l0_15 l0 hL d k _ (i + 1) (by omega) (by omega) (by omega) (by omega)
  | 0, 0, _, _, _, _, h, _ => by omega
  | d + 1, 0, _, _, _, _, h, _ => by omega

theorem l0_14 (l0 : List S82) (hL : l0.length ≤ 9000000000000000000) (hw : ∀ x ∈ l0, S82.wf x) : ∀ (d k : Nat) (out : List Int) (i : Int), 0 ≤ i → (l0.length : Int) - i = d → d + 300 < k → out.length ≤ 65536 →
    F14.l0 l0 k out i = some (expO (l0.drop i.toNat) out)
  | 0, k + 1, out, i, h0, hd, _, _ => by
    rw [F14.l0, if_neg (by omega), List.drop_of_length_le (by omega)]; rfl
  | d + 1, k + 1, out, i, h0, hd, hk, ho => by
    have e2 : IntKind.i64.wrap (i + 1) = i + 1 := w64 (by omega) (by omega)
    rw [F14.l0, if_pos (by omega), if_pos (by omega), drop_rd h0 (by omega)]
    simp only [lt, expO, may_eq, Option.bind_some]
    by_cases hb : bad (rd l0 i) out.length = true
    · rw [if_pos hb, if_pos (by simp [hb])]
    · rw [if_neg hb, if_neg (by simp [hb])]
      have hlen := ext_len hb
      have e3 : IntKind.i64.wrap (65536 - (out.length : Int)) = 65536 - (out.length : Int) := w64 (by omega) (by omega)
      rw [e3, maxI_eq]
      by_cases hg : (ext (rd l0 i) out).length > 65536
      · rw [if_pos hg, if_pos (by omega)]
      · rw [if_neg hg, if_neg (by omega)]
        have key : ((if (rd l0 i).f1 = 0 then if out.length + [(rd l0 i).f0].length ≤ 140737488355328 then some (out ++ [(rd l0 i).f0]) else none else some out : Option (List Int)).bind fun t23 => F14.l1 l0 i k t23 0) = some (ext (rd l0 i) out) := by
          unfold ext
          rcases bad_no hb with ⟨h1, h2⟩ | ⟨h1, h2, h3, h4, h5, h6, h7⟩
          · rw [if_pos h1, if_pos (by simp; omega), if_pos h1]
            simp only [Option.bind_some]
            obtain ⟨k, rfl⟩ : ∃ m, k = m + 1 := ⟨k - 1, by omega⟩
            rw [F14.l1, if_neg (by omega)]
          · rw [if_neg h1, if_neg h1]
            simp only [Option.bind_some]
            exact l1_14 l0 i h5 h4 (rd l0 i).f1.toNat k out 0 (by omega) (by omega) (by omega) h7 (by omega)
        have key2 : ∀ (f : List Int → Option (Out (List Int × Int) (List Int))), ((if (rd l0 i).f1 = 0 then if out.length + [(rd l0 i).f0].length ≤ 140737488355328 then some (out ++ [(rd l0 i).f0]) else none else some out : Option (List Int)).bind fun t23 => (F14.l1 l0 i k t23 0).bind f) = f (ext (rd l0 i) out) := fun f => by
          rw [← Option.bind_assoc, key]; rfl
        rw [key2, e2]
        exact l0_14 l0 hL hw d k _ (i + 1) (by omega) (by omega) (by omega) (by omega)
  | 0, 0, _, _, _, _, h, _ => by omega
  | d + 1, 0, _, _, _, _, h, _ => by omega

/-! stored -/
theorem st_step (k : Nat) : ∀ (x out : List Int), F16.l0 k x out = F17.l0 k x out := by
  induction k with
  | zero => intro x out; rfl
  | succ k ih =>
    intro x out
    rw [F16.l0, F17.l0]
    simp only [lt]
    have hm : minI (x.length : Int) 65535 = min (x.length : Int) 65535 := minI_eq _ _
    generalize minI (x.length : Int) 65535 = n at *
    have h0 : 0 ≤ n := by omega
    have h1 : n ≤ 65535 := by omega
    have s8 : ∀ y : Int, shrI .i64 y 8 = y / 256 := fun y => shrI_eq .i64 y 8 (by decide)
    have e1 : cplI .u8 (IntKind.u8.wrap n) = IntKind.u8.wrap (cplI .i64 n) := by
      rw [wu8, wu8, cpl64 (by omega) (by omega), cpl8 (by omega) (by omega)]; omega
    have e2 : cplI .u8 (IntKind.u8.wrap (shrI .i64 n 8)) = IntKind.u8.wrap (shrI .i64 (cplI .i64 n) 8) := by
      rw [s8, s8, wu8, wu8, cpl64 (by omega) (by omega), cpl8 (by omega) (by omega)]; omega
    rw [e1, e2]
    congr 1
    funext t
    refine ite_congr rfl (fun c1 => ?_) (fun _ => rfl)
    have g1 : 0 ≤ (0 : Int) ∧ (0 : Int) ≤ n ∧ n ≤ (x.length : Int) ∧ n ≤ n ∧ n ≤ (x.length : Int) := by omega
    have g2 : 0 ≤ (0 : Int) ∧ (0 : Int) ≤ n ∧ n ≤ (x.length : Int) := by omega
    have g3 : 0 ≤ n ∧ n ≤ (x.length : Int) ∧ (x.length : Int) ≤ (x.length : Int) ∧ (x.length : Int) ≤ (x.length : Int) ∧ (x.length : Int) ≤ (x.length : Int) := by omega
    have g4 : 0 ≤ n ∧ n ≤ (x.length : Int) ∧ (x.length : Int) ≤ (x.length : Int) := by omega
    rw [if_pos g1, if_pos g2]
    refine ite_congr rfl (fun c2 => ?_) (fun _ => rfl)
    rw [if_pos g3, if_pos g4]
    refine ite_congr rfl (fun c3 => rfl) (fun c3 => ih _ _)

theorem st_ends (x : List Int) (h : x.length ≤ 65536) (k : Nat) (hk : 3 < k) : ∃ r, F17.l0 k x [] = some r := by
  have one : ∀ (y out : List Int) (k : Nat), y.length ≤ 65535 → out.length ≤ 100000 → 0 < k → ∃ r, F17.l0 k y out = some r := by
    intro y out k hy ho hk
    obtain ⟨k, rfl⟩ : ∃ m, k = m + 1 := ⟨k - 1, by omega⟩
    rw [F17.l0]
    have hm : minI (y.length : Int) 65535 = y.length := by rw [minI_eq]; omega
    simp only [lt, hm, if_true, Option.bind_some]
    rw [if_pos (by simp; omega), if_pos (by omega), if_pos (by simp [sub]; omega), if_pos (by omega)]
    exact ⟨_, rfl⟩
  by_cases h1 : x.length ≤ 65535
  · exact one x [] k h1 (by simp) (by omega)
  · obtain ⟨k, rfl⟩ : ∃ m, k = m + 1 := ⟨k - 1, by omega⟩
    rw [F17.l0]
    have hm : minI (x.length : Int) 65535 = 65535 := by rw [minI_eq]; omega
    simp only [lt, hm]
    rw [if_neg (by omega)]
    simp only [Option.bind_some]
    rw [if_pos (by simp), if_pos (by omega), if_pos (by simp [sub]; omega), if_pos (by omega), if_neg (by decide)]
    exact one _ _ k (by simp [sub]; omega) (by simp [sub]; omega) (by omega)

theorem stored_eq (x : List Int) (k : Nat) (hk : 3 < k) : ∃ r, F16.f k x = some r ∧ F17.f k x = some r := by
  unfold F16.f F17.f
  by_cases h : (x.length : Int) > 65536
  · rw [if_pos h, if_pos h]; exact ⟨_, rfl, rfl⟩
  · rw [if_neg h, if_neg h, st_step]
    obtain ⟨r, hr⟩ := st_ends x (by omega) k hk
    exact ⟨r, hr, hr⟩

theorem exp14 (l0 : List S82) (hL : l0.length ≤ 9000000000000000000) (hw : ∀ x ∈ l0, S82.wf x) (k : Nat) (hk : l0.length + 300 < k) : F14.f k l0 = Out.el (expO l0 []) (fun r => some r) (fun s => some (s, 0)) := by
  unfold F14.f
  rw [l0_14 l0 hL hw l0.length k [] 0 (by omega) (by omega) hk (by simp)]; rfl
theorem exp15 (l0 : List S82) (hL : l0.length ≤ 9000000000000000000) (k : Nat) (hk : l0.length + 300 < k) : F15.f k l0 = Out.el (expO l0 []) (fun r => some r) (fun s => some (s, 0)) := by
  unfold F15.f
  rw [l0_15 l0 hL l0.length k [] 0 (by omega) (by omega) hk (by simp)]; rfl

theorem anchored (k : Nat) (hk : 400 < k) : F19.f k = some true := by
  unfold F19.f
  rw [exp14 _ (by decide) (by intro x hx; simp at hx; rcases hx with rfl | rfl <;> simp [S82.wf]) k (by simp; omega),
    exp14 _ (by decide) (by intro x hx; simp at hx; subst hx; simp [S82.wf]) k (by simp; omega)]
  have h7 : F16.f k [7] = some ([1, 1, 0, 254, 255, 7], 0) := by
    obtain ⟨k, rfl⟩ : ∃ m, k = m + 1 := ⟨k - 1, by omega⟩
    kernel_rfl
  rw [h7]
  decide +kernel

theorem law (l0 : List S82) (l1 : List Int) (hL : l0.length ≤ 9000000000000000000) (hw : ∀ x ∈ l0, S82.wf x) : ∃ k, F3.f k l0 l1 = some true := by
  refine ⟨l0.length + 401, ?_⟩
  unfold F3.f
  rw [exp14 l0 hL hw _ (by omega), exp15 l0 hL _ (by omega)]
  obtain ⟨r, hr⟩ : ∃ r, Out.el (expO l0 []) (fun r => some r) (fun s => some (s, 0)) = some r := by
    cases expO l0 [] with
    | ret r => exact ⟨_, rfl⟩
    | go s => exact ⟨_, rfl⟩
  obtain ⟨q, h1, h2⟩ := stored_eq l1 (l0.length + 401) (by omega)
  rw [hr, h1, h2]
  simp [F18.f, lt, anchored]
theorem row (x0 : List S82) (x1 : List Int) (y0 : x0.length * 24 ≤ 140737488351232) (w0 : ∀ x ∈ x0, (Lit.int .u8 x.f0).wf = true ∧ (Lit.int .i64 x.f1).wf = true ∧ (Lit.int .i64 x.f2).wf = true)
    (y1 : x1.length * 1 ≤ 140737488351232) (w1 : ∀ x ∈ x1, (Lit.int .u8 x).wf = true) : ∃ k, F3.f k x0 x1 = some true :=
  law x0 x1 (by omega) fun x hx => by
    obtain ⟨a, b, c⟩ := w0 x hx
    simp [Lit.wf, IntKind.min, IntKind.max, IntKind.signed, IntKind.bits] at a b c
    exact ⟨by omega, by omega, ⟨by omega, by omega⟩, by omega, by omega⟩
end Go.Proofs.Ytocjoegcfojjhaa.GaPure

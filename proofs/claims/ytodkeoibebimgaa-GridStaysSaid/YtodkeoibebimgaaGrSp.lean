/- What the deeds on grids come to: the program's and the document's are the same. -/
import Derived.Test.YtodkeoibebimgaaGrOr
namespace Go.Proofs.Ytodkeoibebimgaa.GrSp
open Go Go.RowKit Go.Proofs.Ytodkeoibebimgaa.SL Go.Proofs.Ytodkeoibebimgaa.Gr Go.Proofs.Ytodkeoibebimgaa.GrMay Go.Proofs.Ytodkeoibebimgaa.GrLs Go.Proofs.Ytodkeoibebimgaa.GrOp
set_option linter.unusedVariables false
set_option linter.unusedSimpArgs false

theorem el_r {ρ σ β : Type} {r : ρ} {f : ρ → Option β} {g : σ → Option β} : Out.el (.ret r) f g = f r := rfl
theorem el_g {ρ σ β : Type} {s : σ} {f : ρ → Option β} {g : σ → Option β} : Out.el (.go s) f g = g s := rfl

/-- What is known of a grid that comes in. -/
structure Gr (g : S67) : Prop where
  len : g.f2.length < 4611686018427387904
  wide : ∀ x ∈ g.f2, 0 ≤ x.f2 ∧ x.f2 < 256

def sizedB (c r : Int) : Bool := decide (1 ≤ c ∧ c ≤ 512 ∧ 1 ≤ r ∧ r ≤ 512)
theorem f78 (c r : Int) : F78.f c r = some (sizedB c r) := by
  unfold F78.f sizedB
  simp only [lt]
  congr 1
  by_cases h1 : 1 ≤ c <;> by_cases h2 : c ≤ 512 <;> by_cases h3 : 1 ≤ r <;> by_cases h4 : r ≤ 512 <;> simp [h1, h2, h3, h4]
theorem sized_mul {c r : Int} (h : sizedB c r = true) : ∃ w q : Nat, c = (w : Int) ∧ r = (q : Int) ∧ 0 < w ∧ w ≤ 512 ∧ 0 < q ∧ q ≤ 512 ∧ w * q ≤ 262144 ∧ c * r = ((w * q : Nat) : Int) ∧ IntKind.i64.wrap (c * r) = ((w * q : Nat) : Int) := by
  unfold sizedB at h
  simp only [decide_eq_true_eq] at h
  obtain ⟨a, b, c', d⟩ := h
  obtain ⟨w, rfl⟩ : ∃ w : Nat, c = (w : Int) := ⟨c.toNat, by omega⟩
  obtain ⟨q, rfl⟩ : ∃ q : Nat, r = (q : Int) := ⟨r.toNat, by omega⟩
  have hm : w * q ≤ 512 * 512 := Nat.mul_le_mul (by omega) (by omega)
  have hc : (w : Int) * (q : Int) = ((w * q : Nat) : Int) := by simp
  exact ⟨w, q, rfl, rfl, by omega, by omega, by omega, by omega, by omega, hc, by rw [hc, w64 (by omega) (by omega)]⟩
theorem may_false {g : S67} (h : ¬ g.f2.length ≤ 1048576) : mayGrid g = false := by
  unfold mayGrid
  rw [Bool.and_eq_false_iff]; left
  rw [decide_eq_false_iff_not]
  rintro ⟨a, b, c, d, e⟩
  obtain ⟨w, q, h1, h2, _, _, _, _, hq, hc, _⟩ := sized_mul (c := g.f0) (r := g.f1) (by unfold sizedB; simp [a, b, c, d])
  omega
theorem f41w (g : S67) (hg : Gr g) (k : Nat) (hk : 1100000 ≤ k) : F41.f k g = some (mayGrid g) := by
  by_cases h : g.f2.length ≤ 1048576
  · exact f41 g h hg.wide k (by omega)
  · rw [may_false h]
    unfold F41.f
    rw [f78]
    simp only [Option.bind_some, lt]
    rw [if_pos]
    cases hs : sizedB g.f0 g.f1
    · simp
    · obtain ⟨w, q, h1, h2, _, _, _, _, hq, hc, hw⟩ := sized_mul hs
      rw [hw]; simp; omega
theorem f67 (n : Int) : F67.f n = some (decide (1 ≤ n ∧ n ≤ 512)) := by
  unfold F67.f
  simp only [lt]
  congr 1
  by_cases h1 : 1 ≤ n <;> by_cases h2 : n ≤ 512 <;> simp [h1, h2]
theorem side2 (c r : Int) : (decide (1 ≤ c ∧ c ≤ 512) && decide (1 ≤ r ∧ r ≤ 512)) = sizedB c r := by
  unfold sizedB
  by_cases h1 : 1 ≤ c <;> by_cases h2 : c ≤ 512 <;> by_cases h3 : 1 ≤ r <;> by_cases h4 : r ≤ 512 <;> simp [h1, h2, h3, h4]
theorem f30w (g : S67) (hg : Gr g) (k : Nat) (hk : 1100000 ≤ k) : F30.f k g = some (mayGrid g) := by
  by_cases h : g.f2.length ≤ 1048576
  · exact f30 g h hg.wide k (by omega)
  · rw [may_false h]
    unfold F30.f
    rw [f67, f67]
    simp only [Option.bind_some, lt]
    have hs := side2 g.f0 g.f1
    cases h1 : decide (1 ≤ g.f0 ∧ g.f0 ≤ 512)
    · simp
    · cases h2 : decide (1 ≤ g.f1 ∧ g.f1 ≤ 512)
      · simp
      · rw [h1, h2] at hs
        obtain ⟨w, q, _, _, _, _, _, _, hq, hc, hw⟩ := sized_mul hs.symm
        rw [hw]
        have : (g.f2.length : Int) ≠ ((w * q : Nat) : Int) := by omega
        rw [decide_eq_true this]; simp

/-- A grid that may be: how great it is. -/
theorem may_size {g : S67} (h : mayGrid g = true) : ∃ w q : Nat, g.f0 = (w : Int) ∧ g.f1 = (q : Int) ∧ 0 < w ∧ w ≤ 512 ∧ 0 < q ∧ q ≤ 512 ∧ g.f2.length = w * q ∧ w * q ≤ 262144 := by
  unfold mayGrid at h
  simp only [Bool.and_eq_true, decide_eq_true_eq] at h
  obtain ⟨⟨a, b, c, d, e⟩, _⟩ := h
  obtain ⟨w, q, h1, h2, h3, h4, h5, h6, hq, hc, hw⟩ := sized_mul (c := g.f0) (r := g.f1) (by unfold sizedB; simp [a, b, c, d])
  exact ⟨w, q, h1, h2, h3, h4, h5, h6, by omega, hq⟩

def no : S67 × Int := (S67.mk 0 0 [], 2)
theorem f72 (g : S67) (h : g.f2.length ≤ 2932031007402) : F72.f g = some g := by
  unfold F72.f F104.f
  rw [if_pos (by simpa using h)]
  simp [lt]
theorem f36 (g : S67) (h : g.f2.length ≤ 2932031007402) : F36.f g = some g := by
  unfold F36.f
  rw [if_pos (by simpa using h)]
  simp [lt]
/-- A row's place. -/
theorem place {w q i : Nat} (hq : i < q) : i * w + w ≤ w * q := by
  have : (i + 1) * w ≤ q * w := Nat.mul_le_mul_right _ hq
  rw [Nat.add_mul, Nat.one_mul, Nat.mul_comm q w] at this; exact this
theorem at80 (X : List S76) (w q i : Nat) (r : Int) (hX : X.length = w * q) (hb : w * q ≤ 262144) (hi : i < q) : F80b0.f (S67.mk (w : Int) r X) (i : Int) = some (((i * w : Nat) : Int), (w : Int)) := by
  have hp := place (w := w) hi
  unfold F80b0.f
  simp only [lt]
  rw [show (i : Int) * (w : Int) = ((i * w : Nat) : Int) from by simp, w64 (x := ((i * w : Nat) : Int)) (by omega) (by omega), w64 (x := ((i * w : Nat) : Int) + (w : Int)) (by omega) (by omega), if_pos (by omega)]
  congr 2 <;> omega
theorem at80r (X : List S76) (w q i : Nat) (r : Int) (hX : X.length = w * q) (hb : w * q ≤ 262144) (hi : i < q) : F80.f (S67.mk (w : Int) r X) (i : Int) = some (win X (i * w) w) := by
  have hp := place (w := w) hi
  unfold F80.f
  simp only [lt]
  rw [show (i : Int) * (w : Int) = ((i * w : Nat) : Int) from by simp, w64 (x := ((i * w : Nat) : Int)) (by omega) (by omega), w64 (x := ((i * w : Nat) : Int) + (w : Int)) (by omega) (by omega), if_pos (by omega), sub_win]
theorem at83 (X : List S76) (w q i : Nat) (r : Int) (hX : X.length = w * q) (hb : w * q ≤ 262144) (hq : q ≤ 512) (hi : i < q) : F83b0.f (S67.mk (w : Int) r X) (i : Int) = some (((i * w : Nat) : Int), (w : Int)) := by
  have hp := place (w := w) hi
  unfold F83b0.f
  rw [w64 (x := (i : Int) + 1) (by omega) (by omega), show ((i : Int) + 1) * (w : Int) = ((i * w + w : Nat) : Int) from by rw [Int.add_mul]; simp, show (i : Int) * (w : Int) = ((i * w : Nat) : Int) from by simp, w64 (x := ((i * w : Nat) : Int)) (by omega) (by omega), w64 (x := ((i * w + w : Nat) : Int)) (by omega) (by omega), if_pos (show _ ∧ _ ∧ _ ≤ (X.length : Int) from by omega)]
  congr 2 <;> omega
theorem at83r (X : List S76) (w q i : Nat) (r : Int) (hX : X.length = w * q) (hb : w * q ≤ 262144) (hq : q ≤ 512) (hi : i < q) : F83.f (S67.mk (w : Int) r X) (i : Int) = some (win X (i * w) w) := by
  have hp := place (w := w) hi
  unfold F83.f
  rw [w64 (x := (i : Int) + 1) (by omega) (by omega), show ((i : Int) + 1) * (w : Int) = ((i * w + w : Nat) : Int) from by rw [Int.add_mul]; simp, show (i : Int) * (w : Int) = ((i * w : Nat) : Int) from by simp, w64 (x := ((i * w : Nat) : Int)) (by omega) (by omega), w64 (x := ((i * w + w : Nat) : Int)) (by omega) (by omega), if_pos (show _ ∧ _ ∧ _ ≤ (X.length : Int) from by omega), show ((i * w + w : Nat) : Int) = ((i * w : Nat) : Int) + (w : Int) from by omega, sub_win]
  rfl

def rowOk (g : S67) (row : Int) (s : S70) : Bool := mayGrid g && (decide (0 ≤ row) && (decide (row < g.f1) && mayStyle s))
theorem f76 (g : S67) (hg : Gr g) (row : Int) (s : S70) (k : Nat) (hk : 1100000 ≤ k) :
    F76.f k g row s = some (if rowOk g row s = true then (g, ((row * g.f0, g.f0), true)) else (S67.mk 0 0 [], ((0, 0), false))) := by
  unfold F76.f rowOk
  rw [f41w g hg k hk]
  simp only [Option.bind_some, lt, f71]
  cases hm : mayGrid g
  · simp
  · by_cases h0 : row < 0
    · simp [h0, show ¬ (0 ≤ row) from by omega]
    · by_cases h1 : row ≥ g.f1
      · simp [h0, h1, show ¬ (row < g.f1) from by omega]
      · have h0' : 0 ≤ row := by omega
        have h1' : row < g.f1 := by omega
        cases hs : mayStyle s
        · simp [h0, h1, hs]
        · obtain ⟨w, q, e0, e1, _, _, _, _, hl, hb⟩ := may_size hm
          obtain ⟨i, rfl⟩ : ∃ i : Nat, row = (i : Int) := ⟨row.toNat, by omega⟩
          have hiq : i < q := by omega
          have hp := place (w := w) hiq
          have hat := at80 g.f2 w q i g.f1 hl hb hiq
          rw [← e0] at hat
          have eg : S67.mk g.f0 g.f1 g.f2 = g := rfl
          rw [eg] at hat
          simp only [h0, h1, h0', h1', hs, decide_false, decide_true, Bool.not_true, Bool.or_false, Bool.or_self, Bool.false_eq_true, if_false, Bool.and_self, Bool.true_and, if_true, Option.bind_some]
          rw [f72 g (by omega)]
          simp only [Option.bind_some, hat]
          rw [if_pos (by omega), e0]
          simp
theorem f82 (g : S67) (hg : Gr g) (s : S70) (row : Int) (k : Nat) (hk : 1100000 ≤ k) : F82.f k g s row = some (!rowOk g row s) := by
  unfold F82.f rowOk
  rw [f30w g hg k hk]
  simp only [Option.bind_some, lt, f89]
  cases hm : mayGrid g
  · simp
  · cases hs : mayStyle s
    · simp
    · by_cases h0 : 0 ≤ row <;> by_cases h1 : row < g.f1
      · simp [h0, h1, show ¬ (row < 0) from by omega, show ¬ (g.f1 ≤ row) from by omega]
      · simp [h0, h1, show ¬ (row < 0) from by omega, show (g.f1 ≤ row) from by omega]
      · simp [h0, h1, show (row < 0) from by omega]
      · simp [h0, h1, show (row < 0) from by omega]
/-- A deed on one row. -/
def onRow (g : S67) (row : Int) (f : List S76 → List S76) : S67 × Int := (S67.mk g.f0 g.f1 (over g.f2 (row.toNat * g.f0.toNat) (mendL (f (win g.f2 (row.toNat * g.f0.toNat) g.f0.toNat)))), 0)
theorem rowOk_size {g : S67} {row : Int} {s : S70} (h : rowOk g row s = true) : ∃ w q i : Nat, g.f0 = (w : Int) ∧ g.f1 = (q : Int) ∧ row = (i : Int) ∧ 0 < w ∧ w ≤ 512 ∧ q ≤ 512 ∧ i < q ∧ g.f2.length = w * q ∧ w * q ≤ 262144 ∧ i * w + w ≤ g.f2.length := by
  unfold rowOk at h
  simp only [Bool.and_eq_true, decide_eq_true_eq] at h
  obtain ⟨hm, h0, h1, _⟩ := h
  obtain ⟨w, q, e0, e1, a, b, c, d, hl, hb⟩ := may_size hm
  exact ⟨w, q, row.toNat, e0, e1, by omega, a, b, d, by omega, hl, hb, by rw [hl]; exact place (by omega)⟩
end Go.Proofs.Ytodkeoibebimgaa.GrSp

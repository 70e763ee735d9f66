import Derived.Test.YtckilbegmbaeeaaGreatZ4Or
namespace Go.Proofs.YtckilbegmbaeeaaGreat.Z4Sp
open Go Go.RowKit Go.Proofs.YtckilbegmbaeeaaGreat.SL Go.Proofs.YtckilbegmbaeeaaGreat.Z4 Go.Proofs.YtckilbegmbaeeaaGreat.Z4May Go.Proofs.YtckilbegmbaeeaaGreat.Z4Ls Go.Proofs.YtckilbegmbaeeaaGreat.Z4Op
set_option linter.unusedVariables false
set_option linter.unusedSimpArgs false
theorem el_r {ρ σ β : Type} {r : ρ} {f : ρ → Option β} {g : σ → Option β} : Out.el (.ret r) f g = f r := rfl
theorem el_g {ρ σ β : Type} {s : σ} {f : ρ → Option β} {g : σ → Option β} : Out.el (.go s) f g = g s := rfl
structure Gr (g : S26) : Prop where
 len : g.f2.length < 4611686018427387904
 wide : ∀ x ∈ g.f2, 0 ≤ x.f2 ∧ x.f2 < 256
def sizedB (c r : Int) : Bool := decide (1 ≤ c ∧ c ≤ 512 ∧ 1 ≤ r ∧ r ≤ 512)
theorem f78 (c r : Int) : F68.f c r = some (sizedB c r) := by
 unfold F68.f sizedB
 simp only [lt]
 congr 1
 by_cases h1 : 1 ≤ c <;> by_cases h2 : c ≤ 512 <;> by_cases h3 : 1 ≤ r <;> by_cases h4 : r ≤ 512 <;> simp [h1, h2, h3, h4]
theorem sized_mul {c r : Int} (h : sizedB c r = true) : ∃ w q : Nat, c = (w : Int) ∧ r = (q : Int) ∧ 0 < w ∧ w ≤ 512 ∧ 0 < q ∧ q ≤ 512 ∧ w * q ≤ 262144 ∧ c * r = ((w * q : Nat) : Int) ∧ IntKind.i64.wrap (c * r) = ((w * q : Nat) : Int) := by
 unfold sizedB at h
 simp only [decide_eq_true_eq] at h
 obtain ⟨a, b, c', d⟩ := h
 obtain ⟨w, rfl⟩ : ∃ w : Nat, c = (w : Int) := ⟨c.toNat, by omega⟩
 obtain ⟨q, rfl⟩ : ∃ q : Nat, r = (q : Int) := ⟨r.toNat, by omega⟩
 have hm : w * q ≤ 512 * 512 := Nat.mul_le_mul (by omega) (by omega)
 have hc : (w : Int) * (q : Int) = ((w * q : Nat) : Int) := by simp
 exact ⟨w, q, rfl, rfl, by omega, by omega, by omega, by omega, by omega, hc, by rw [hc, w64 (by omega) (by omega)]⟩
theorem may_false {g : S26} (h : ¬ g.f2.length ≤ 1048576) : mayGrid g = false := by
 unfold mayGrid
 rw [Bool.and_eq_false_iff]; left
 rw [decide_eq_false_iff_not]
 rintro ⟨a, b, c, d, e⟩
 obtain ⟨w, q, h1, h2, _, _, _, _, hq, hc, _⟩ := sized_mul (c := g.f0) (r := g.f1) (by unfold sizedB; simp [a, b, c, d])
 omega
theorem f41w (g : S26) (hg : Gr g) (k : Nat) (hk : 1100000 ≤ k) : F57b0.f k g = some (mayGrid g) := by
 by_cases h : g.f2.length ≤ 1048576
 ·exact f41 g h hg.wide k (by omega)
 ·rw [may_false h]
  unfold F57b0.f
  rw [f78]
  simp only [Option.bind_some, lt]
  rw [if_pos]
  cases hs : sizedB g.f0 g.f1
  ·simp
  ·obtain ⟨w, q, h1, h2, _, _, _, _, hq, hc, hw⟩ := sized_mul hs
   rw [hw]; simp; omega
theorem f67 (n : Int) : F70.f n = some (decide (1 ≤ n ∧ n ≤ 512)) := by
 unfold F70.f
 simp only [lt]
 congr 1
 by_cases h1 : 1 ≤ n <;> by_cases h2 : n ≤ 512 <;> simp [h1, h2]
theorem side2 (c r : Int) : (decide (1 ≤ c ∧ c ≤ 512) && decide (1 ≤ r ∧ r ≤ 512)) = sizedB c r := by
 unfold sizedB
 by_cases h1 : 1 ≤ c <;> by_cases h2 : c ≤ 512 <;> by_cases h3 : 1 ≤ r <;> by_cases h4 : r ≤ 512 <;> simp [h1, h2, h3, h4]
theorem f30w (g : S26) (hg : Gr g) (k : Nat) (hk : 1100000 ≤ k) : F54b0.f k g = some (mayGrid g) := by
 by_cases h : g.f2.length ≤ 1048576
 ·exact f30 g h hg.wide k (by omega)
 ·rw [may_false h]
  unfold F54b0.f
  rw [f67, f67]
  simp only [Option.bind_some, lt]
  have hs := side2 g.f0 g.f1
  cases h1 : decide (1 ≤ g.f0 ∧ g.f0 ≤ 512)
  ·simp
  ·cases h2 : decide (1 ≤ g.f1 ∧ g.f1 ≤ 512)
   ·simp
   ·rw [h1, h2] at hs
    obtain ⟨w, q, _, _, _, _, _, _, hq, hc, hw⟩ := sized_mul hs.symm
    rw [hw]
    have : (g.f2.length : Int) ≠ ((w * q : Nat) : Int) := by omega
    rw [decide_eq_true this]; simp
theorem may_size {g : S26} (h : mayGrid g = true) : ∃ w q : Nat, g.f0 = (w : Int) ∧ g.f1 = (q : Int) ∧ 0 < w ∧ w ≤ 512 ∧ 0 < q ∧ q ≤ 512 ∧ g.f2.length = w * q ∧ w * q ≤ 262144 := by
 unfold mayGrid at h
 simp only [Bool.and_eq_true, decide_eq_true_eq] at h
 obtain ⟨⟨a, b, c, d, e⟩, _⟩ := h
 obtain ⟨w, q, h1, h2, h3, h4, h5, h6, hq, hc, hw⟩ := sized_mul (c := g.f0) (r := g.f1) (by unfold sizedB; simp [a, b, c, d])
 exact ⟨w, q, h1, h2, h3, h4, h5, h6, by omega, hq⟩
def no : S26 × Int := (S26.mk 0 0 [], 2)
theorem f72 (g : S26) (h : g.f2.length ≤ 2932031007402) : F137.f g = some g := by
 unfold F137.f F158.f
 rw [if_pos (by simpa using h)]
 simp [lt]
theorem place {w q i : Nat} (hq : i < q) : i * w + w ≤ w * q := by
 have : (i + 1) * w ≤ q * w := Nat.mul_le_mul_right _ hq
 rw [Nat.add_mul, Nat.one_mul, Nat.mul_comm q w] at this; exact this
theorem at80 (X : List S55) (w q i : Nat) (r : Int) (hX : X.length = w * q) (hb : w * q ≤ 262144) (hi : i < q) : F135b0.f (S26.mk (w : Int) r X) (i : Int) = some (((i * w : Nat) : Int), (w : Int)) := by
 have hp := place (w := w) hi
 unfold F135b0.f
 simp only [lt]
 rw [show (i : Int) * (w : Int) = ((i * w : Nat) : Int) from by simp, w64 (x := ((i * w : Nat) : Int)) (by omega) (by omega), w64 (x := ((i * w : Nat) : Int) + (w : Int)) (by omega) (by omega), if_pos (by omega)]
 congr 2 <;> omega
theorem at80r (X : List S55) (w q i : Nat) (r : Int) (hX : X.length = w * q) (hb : w * q ≤ 262144) (hi : i < q) : F135.f (S26.mk (w : Int) r X) (i : Int) = some (win X (i * w) w) := by
 have hp := place (w := w) hi
 unfold F135.f
 simp only [lt]
 rw [show (i : Int) * (w : Int) = ((i * w : Nat) : Int) from by simp, w64 (x := ((i * w : Nat) : Int)) (by omega) (by omega), w64 (x := ((i * w : Nat) : Int) + (w : Int)) (by omega) (by omega), if_pos (by omega), sub_win]
def rowOk (g : S26) (row : Int) (s : S28) : Bool := mayGrid g && (decide (0 ≤ row) && (decide (row < g.f1) && mayStyle s))
def onRow (g : S26) (row : Int) (f : List S55 → List S55) : S26 × Int := (S26.mk g.f0 g.f1 (over g.f2 (row.toNat * g.f0.toNat) (mendL (f (win g.f2 (row.toNat * g.f0.toNat) g.f0.toNat)))), 0)
theorem rowOk_size {g : S26} {row : Int} {s : S28} (h : rowOk g row s = true) : ∃ w q i : Nat, g.f0 = (w : Int) ∧ g.f1 = (q : Int) ∧ row = (i : Int) ∧ 0 < w ∧ w ≤ 512 ∧ q ≤ 512 ∧ i < q ∧ g.f2.length = w * q ∧ w * q ≤ 262144 ∧ i * w + w ≤ g.f2.length := by
 unfold rowOk at h
 simp only [Bool.and_eq_true, decide_eq_true_eq] at h
 obtain ⟨hm, h0, h1, _⟩ := h
 obtain ⟨w, q, e0, e1, a, b, c, d, hl, hb⟩ := may_size hm
 exact ⟨w, q, row.toNat, e0, e1, by omega, a, b, d, by omega, hl, hb, by rw [hl]; exact place (by omega)⟩
end Go.Proofs.YtckilbegmbaeeaaGreat.Z4Sp

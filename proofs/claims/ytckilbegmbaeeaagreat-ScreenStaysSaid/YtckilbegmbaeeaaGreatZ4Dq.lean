import Derived.Test.YtckilbegmbaeeaaGreatZ4Sp
namespace Go.Proofs.YtckilbegmbaeeaaGreat.Z4Sp
open Go Go.RowKit Go.Proofs.YtckilbegmbaeeaaGreat.SL Go.Proofs.YtckilbegmbaeeaaGreat.Z4 Go.Proofs.YtckilbegmbaeeaaGreat.Z4May Go.Proofs.YtckilbegmbaeeaaGreat.Z4Ls Go.Proofs.YtckilbegmbaeeaaGreat.Z4Op
set_option linter.unusedVariables false
set_option linter.unusedSimpArgs false
theorem shift_len {W : List S55} {a : Nat} {d : Int} {b : S55} (h : a ≤ W.length) : (over W a (slide (W.drop a) d b)).length = W.length := over_len2 (by rw [slide_len]; simp; omega)
def scrollOk (g : S26) (t u : Int) (s : S28) : Bool := mayGrid g && (decide (0 ≤ t) && (decide (t ≤ u) && (decide (u < g.f1) && mayStyle s)))
def sScroll (g : S26) (t u by_ : Int) (s : S28) : S26 × Int :=
 if scrollOk g t u s = true then (S26.mk g.f0 g.f1 (over g.f2 (t.toNat * g.f0.toNat) (slide (win g.f2 (t.toNat * g.f0.toNat) ((u.toNat + 1 - t.toNat) * g.f0.toNat)) (by_ * g.f0) (blk s))), 0) else no
theorem scrollOk_size {g : S26} {t u : Int} {s : S28} (h : scrollOk g t u s = true) : ∃ w q i j : Nat, g.f0 = (w : Int) ∧ g.f1 = (q : Int) ∧ t = (i : Int) ∧ u = (j : Int) ∧ 0 < w ∧ w ≤ 512 ∧ q ≤ 512 ∧ i ≤ j ∧ j < q ∧ g.f2.length = w * q ∧ w * q ≤ 262144 := by
 unfold scrollOk at h
 simp only [Bool.and_eq_true, decide_eq_true_eq] at h
 obtain ⟨hm, h0, h1, h2, _⟩ := h
 obtain ⟨w, q, e0, e1, a, b, c, d, hl, hb⟩ := may_size hm
 exact ⟨w, q, t.toNat, u.toNat, e0, e1, by omega, by omega, a, b, d, by omega, by omega, hl, hb⟩
theorem row_lo {p : Int} {c w : Nat} (hc : c < w) : 0 ≤ p * (w : Int) + (c : Int) ↔ 0 ≤ p := by
 constructor
 ·intro h
  by_cases q : 0 ≤ p
  ·exact q
  ·exfalso
   have : p * (w : Int) ≤ -1 * (w : Int) := Int.mul_le_mul_of_nonneg_right (by omega) (by omega)
   omega
 ·intro h
  have : 0 ≤ p * (w : Int) := Int.mul_nonneg h (by omega)
  omega
theorem row_hi {p h : Int} {c w : Nat} (hc : c < w) : p * (w : Int) + (c : Int) < h * (w : Int) ↔ p < h := by
 have := row_lo (p := p - h) hc
 rw [Int.sub_mul] at this
 omega
end Go.Proofs.YtckilbegmbaeeaaGreat.Z4Sp

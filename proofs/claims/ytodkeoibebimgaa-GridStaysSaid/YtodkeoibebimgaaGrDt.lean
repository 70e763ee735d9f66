/- What the rows of the grid's laws use: what comes in, how great what comes out is. -/
import Derived.Test.YtodkeoibebimgaaGrDs
import Derived.Test.YtodkeoibebimgaaGrU
namespace Go.Proofs.Ytodkeoibebimgaa.GrSp
open Go Go.RowKit Go.Proofs.Ytodkeoibebimgaa.SL Go.Proofs.Ytodkeoibebimgaa.Gr Go.Proofs.Ytodkeoibebimgaa.GrMay Go.Proofs.Ytodkeoibebimgaa.GrLs Go.Proofs.Ytodkeoibebimgaa.GrOp Go.Proofs.Ytodkeoibebimgaa.GrSp
set_option linter.unusedVariables false
set_option linter.unusedSimpArgs false

theorem wide8 {l : List S76} (h : ∀ y_ ∈ l, wf76 y_) : ∀ x ∈ l, 0 ≤ x.f2 ∧ x.f2 < 256 := fun x hx => by
  have h2 := (h x hx).2.2.1
  simp only [Lit.wf, IntKind.min, IntKind.max, Bool.and_eq_true, decide_eq_true_eq] at h2
  have := h2.1; have := h2.2
  constructor <;> (simp [IntKind.signed, IntKind.bits] at *; omega)
theorem gr {g : S67} (h : wf67 g) : Gr g ∧ g.f2.length ≤ 2932031007402 := by
  have h1 := h.2.2.1
  exact ⟨⟨by omega, wide8 h.2.2.2⟩, by omega⟩
theorem no_len : no.1.f2.length ≤ 262144 := by simp [no]
theorem onRow_len {g : S67} {row : Int} {s : S70} {f : List S76 → List S76} (h : rowOk g row s = true) (hf : ∀ W : List S76, W.length = g.f0.toNat → (f W).length = W.length) : (onRow g row f).1.f2.length ≤ 262144 := by
  obtain ⟨w, q, i, e0, e1, rfl, _, _, _, hi, hl, hb, hp⟩ := rowOk_size h
  unfold onRow
  rw [e0] at hf ⊢
  simp only [Int.toNat_natCast] at hf ⊢
  have hw := wlen (xs := g.f2) hp
  rw [over_len2 (by rw [mend_len, hf _ hw, hw]; exact hp)]
  omega
theorem write_len (g : S67) (row col : Int) (s : S70) (l : List S76) : (sWrite g row col s l).1.f2.length ≤ 262144 := by
  unfold sWrite
  split
  · rename_i h
    simp only [Bool.and_eq_true, decide_eq_true_eq] at h
    obtain ⟨hr, h0, h1, _⟩ := h
    refine onRow_len hr fun W hW => over_len2 ?_
    rw [List.length_take]
    omega
  · exact no_len
theorem erase_len (g : S67) (row a b : Int) (s : S70) : (sErase g row a b s).1.f2.length ≤ 262144 := by
  unfold sErase
  split
  · rename_i h
    simp only [Bool.and_eq_true, decide_eq_true_eq] at h
    obtain ⟨hr, h0, h1, _⟩ := h
    refine onRow_len hr fun W hW => over_len2 ?_
    rw [List.length_replicate]
    omega
  · exact no_len
theorem shift_len2 (g : S67) (row a d : Int) (s : S70) : (sShift g row a d s).1.f2.length ≤ 262144 := by
  unfold sShift
  split
  · rename_i h
    simp only [Bool.and_eq_true, decide_eq_true_eq] at h
    obtain ⟨hr, h0, h1⟩ := h
    exact onRow_len hr fun W hW => shift_len (by omega)
  · exact no_len
theorem scroll_len (g : S67) (t u d : Int) (s : S70) : (sScroll g t u d s).1.f2.length ≤ 262144 := by
  unfold sScroll
  split
  · rename_i h
    obtain ⟨w, q, i, j, e0, e1, rfl, rfl, _, _, _, hij, hj, hl, hb⟩ := scrollOk_size h
    rw [e0]
    simp only [Int.toNat_natCast]
    have hm : i * w + (j + 1 - i) * w ≤ w * q := by
      rw [← Nat.add_mul, Nat.mul_comm w q]
      exact Nat.mul_le_mul_right _ (by omega)
    rw [over_len2 (by rw [slide_len, wlen (by omega)]; omega)]
    omega
  · exact no_len
theorem new_len (c r : Int) (s : S70) : (sNew c r s).1.f2.length ≤ 262144 := by
  unfold sNew
  split
  · rename_i h
    simp only [Bool.and_eq_true] at h
    obtain ⟨w, q, rfl, rfl, _, _, _, _, hq, hc, _⟩ := sized_mul h.1
    rw [hc, Int.toNat_natCast, List.length_replicate]
    exact hq
  · exact no_len
theorem resize_len (g : S67) (c r : Int) (s : S70) : (sResize g c r s).1.f2.length ≤ 262144 := by
  unfold sResize
  split
  · rename_i h
    simp only [Bool.and_eq_true] at h
    obtain ⟨w, q, e0, e1, _, _, _, _, hlen, hb⟩ := may_size h.1
    obtain ⟨w', q', rfl, rfl, _, _, _, _, hq, hc, _⟩ := sized_mul h.2.1
    rw [hc, e0, e1]
    simp only [Int.toNat_natCast]
    rw [res_len (q' := q') _ _ _ (by omega) (by simp)]
    exact hq
  · exact no_len
theorem eqs {x : S67 × Int} (h : x.1.f2.length ≤ 262144) (k : Nat) (hk : 1100000 ≤ k) : F40.f k x.1 x.1 = some true := by
  rw [f40 _ _ (by omega) k (by omega), same_refl]
end Go.Proofs.Ytodkeoibebimgaa.GrSp

/- GridBack: scrolled there and back. -/
import Derived.Test.YtodkeoibebimgaaGrDt
import Derived.Test.YtodkeoibebimgaaGrT5
namespace Go.Proofs.Ytodkeoibebimgaa.GrPure
open Go Go.RowKit Go.Proofs.Ytodkeoibebimgaa.SL Go.Proofs.Ytodkeoibebimgaa.Gr Go.Proofs.Ytodkeoibebimgaa.GrMay Go.Proofs.Ytodkeoibebimgaa.GrLs Go.Proofs.Ytodkeoibebimgaa.GrOp Go.Proofs.Ytodkeoibebimgaa.GrSp
set_option linter.unusedVariables false
set_option linter.unusedSimpArgs false

theorem slide_back {W : List S76} {d c : Nat} {b : S76} (h1 : d ≤ c) (h2 : c < W.length) : rd (slide (slide W (d : Int) b) (-(d : Int)) b) (c : Int) = rd W (c : Int) := by
  have e1 := slide_get (W := slide W (d : Int) b) (d := -(d : Int)) (b := b) (j := c) (by rw [slide_len]; exact h2)
  rw [slide_len, if_pos (by omega), show ((c : Int) + -(d : Int)).toNat = c - d from by omega] at e1
  refine rd_some (by omega) ?_
  rw [Int.toNat_natCast, e1, List.getD_eq_getElem?_getD]
  have e2 := slide_get (W := W) (d := (d : Int)) (b := b) (j := c - d) (by omega)
  rw [e2, if_pos (by omega), show ((((c - d : Nat)) : Int) + (d : Int)).toNat = c from by omega]
  rw [List.getD_eq_getElem?_getD, List.getElem?_eq_getElem h2, rd_lt h2]
  rfl
theorem over_zero {X R : List S76} (h : R.length = X.length) : over X 0 R = R := by
  unfold over
  simp [h]
theorem win_zero {X : List S76} {n : Nat} (h : n = X.length) : win X 0 n = X := by unfold win; simp [h]
theorem scroll_whole {g : S67} {w q : Nat} {d : Int} {s : S70} (hm : mayGrid g = true) (e0 : g.f0 = (w : Int)) (e1 : g.f1 = (q : Int)) (h0 : 0 < q) (hl : g.f2.length = w * q) (hs : mayStyle s = true) :
    sScroll g 0 ((q : Int) - 1) d s = (S67.mk g.f0 g.f1 (slide g.f2 (d * g.f0) (blk s)), 0) := by
  unfold sScroll
  rw [if_pos (by unfold scrollOk; rw [hm, hs, e1]; simp; omega), e0]
  simp only [Int.toNat_natCast]
  rw [show (0 : Int).toNat * w = 0 from by simp, show (((q : Int) - 1).toNat + 1 - (0 : Int).toNat) * w = w * q from by rw [show ((q : Int) - 1).toNat + 1 - (0 : Int).toNat = q from by omega, Nat.mul_comm], win_zero hl.symm, over_zero slide_len]
theorem l5 (g : S67) (r : S67 × Int) (d : Nat) (hl : g.f2.length ≤ 262144) (hr : r.1.f2.length = g.f2.length) (he : ∀ c, d ≤ c → c < g.f2.length → rd r.1.f2 (c : Int) = rd g.f2 (c : Int)) : ∀ (m k i : Nat), i + m = g.f2.length → d ≤ i → m < k → F5.l0 g r k (i : Int) = some (Out.go ())
  | _, 0, _, _, _, hk => by omega
  | 0, k + 1, i, hi, hd, hk => by rw [F5.l0, if_neg (by omega)]
  | m + 1, k + 1, i, hi, hd, hk => by
    rw [F5.l0, if_pos (by omega), if_pos (by omega), if_pos (by omega), if_neg (by rw [he i hd (by omega)]; simp), wsucc (by omega)]
    exact l5 g r d hl hr he m k (i + 1) (by omega) (by omega) (by omega)
theorem row (g : S67) (n : Int) (w0 : wf67 g) (w1 : (Lit.int .u8 n).wf = true) : ∃ k, F5.f k g n = some true := by
  obtain ⟨hg, hl⟩ := gr w0
  have hn : 0 ≤ n ∧ n < 256 := by
    simp only [Lit.wf, IntKind.min, IntKind.max, Bool.and_eq_true, decide_eq_true_eq] at w1
    have := w1.1; have := w1.2
    constructor <;> (simp [IntKind.signed, IntKind.bits] at *; omega)
  refine ⟨2000000, ?_⟩
  generalize hk : (2000000 : Nat) = k
  unfold F5.f
  rw [f30w g hg k (by omega), anchored k (by omega), w64 (x := n) (by omega) (by omega)]
  cases hm : mayGrid g
  · simp
  · obtain ⟨w, q, e0, e1, h0, h5, h6, h7, hlen, hb⟩ := may_size hm
    obtain ⟨n', rfl⟩ : ∃ n' : Nat, n = (n' : Int) := ⟨n.toNat, by omega⟩
    have hmod := Nat.mod_lt n' h6
    have hp : mayStyle (S70.mk (-1) (-1) false false false false false false false false) = true := by kernel_rfl
    have a1 : IntKind.i64.wrap (g.f1 - 1) = (q : Int) - 1 := by rw [e1, w64 (by omega) (by omega)]
    have a2 : IntKind.i64.wrap (0 - ((n' % q : Nat) : Int)) = -((n' % q : Nat) : Int) := by rw [w64 (by omega) (by omega)]; omega
    simp only [Option.bind_some, Bool.not_true, Bool.false_eq_true, if_false, lt]
    rw [if_pos (by omega), e1, tm]
    rw [← e1, a1, a2]
    have hs := scroll_whole (d := ((n' % q : Nat) : Int)) hm e0 e1 h6 hlen hp
    have hF32 : F32.f = some (S70.mk (-1) (-1) false false false false false false false false) := rfl
    rw [hF32]
    simp only [Option.bind_some]
    rw [f33 g hg _ _ _ _ k (by omega), hs]
    simp only [Option.bind_some]
    have hsm : mayGrid (S67.mk g.f0 g.f1 (slide g.f2 (((n' % q : Nat) : Int) * g.f0) (blk (S70.mk (-1) (-1) false false false false false false false false)))) = true := by
      have := scroll_may (g := g) (t := 0) (u := (q : Int) - 1) (d := ((n' % q : Nat) : Int)) (s := S70.mk (-1) (-1) false false false false false false false false) (by rw [hs])
      rw [hs] at this; exact this
    have hgr : Gr (S67.mk g.f0 g.f1 (slide g.f2 (((n' % q : Nat) : Int) * g.f0) (blk (S70.mk (-1) (-1) false false false false false false false false)))) := by
      refine ⟨by simp only [slide_len]; omega, fun x hx => ?_⟩
      rcases slide_mem hx with z | z
      · exact hg.wide x z
      · rw [z]; constructor <;> simp [blk]
    have hs2 := scroll_whole (d := -((n' % q : Nat) : Int)) hsm e0 e1 h6 (by simp only [slide_len]; exact hlen) hp
    rw [f33 _ hgr _ _ _ _ k (by omega), hs2]
    simp only [Option.bind_some, slide_len]
    have hmul : (((n' % q : Nat) : Int)) * (w : Int) = ((n' % q * w : Nat) : Int) := by simp
    have hle : n' % q * w ≤ w * q := by rw [Nat.mul_comm w q]; exact Nat.mul_le_mul_right _ (by omega)
    rw [e0, hmul, Int.neg_mul, hmul, w64 (x := ((n' % q * w : Nat) : Int)) (by omega) (by omega)]
    have h5' := l5 g (S67.mk (w : Int) g.f1 (slide (slide g.f2 ((n' % q * w : Nat) : Int) (blk (S70.mk (-1) (-1) false false false false false false false false))) (-((n' % q * w : Nat) : Int)) (blk (S70.mk (-1) (-1) false false false false false false false false))), 0) (n' % q * w) (by omega) (by simp only [slide_len]) (fun c c1 c2 => slide_back c1 c2) (g.f2.length - n' % q * w) k (n' % q * w) (by omega) (Nat.le_refl _) (by omega)
    rw [h5']
    simp [el_g]
end Go.Proofs.Ytodkeoibebimgaa.GrPure

/- What the deeds on grids come to, 5: new, resize; the anchored call. -/
import Derived.Test.YtodkeoibebimgaaGrDq
namespace Go.Proofs.Ytodkeoibebimgaa.GrSp
open Go Go.RowKit Go.Proofs.Ytodkeoibebimgaa.SL Go.Proofs.Ytodkeoibebimgaa.Gr Go.Proofs.Ytodkeoibebimgaa.GrMay Go.Proofs.Ytodkeoibebimgaa.GrLs Go.Proofs.Ytodkeoibebimgaa.GrOp
set_option linter.unusedVariables false
set_option linter.unusedSimpArgs false

/-! ### new -/
def sNew (c r : Int) (s : S70) : S67 × Int := if (sizedB c r && mayStyle s) = true then (S67.mk c r (List.replicate (c * r).toNat (blk s)), 0) else no
theorem f79 (w q : Nat) (s : S70) (hq : w * q ≤ 262144) (k : Nat) (hk : 262144 < k) : F79.f k (w : Int) (q : Int) s = some (S67.mk (w : Int) (q : Int) (List.replicate (w * q) (blk s))) := by
  unfold F79.f
  rw [show (w : Int) * (q : Int) = ((w * q : Nat) : Int) from by simp, w64 (by omega) (by omega), if_pos (by omega), Int.toNat_natCast]
  simp only [lt, List.length_replicate]
  have := f105 (List.replicate (w * q) (S76.mk 0 (S74.mk 0 0 0) 0 (S70.mk 0 0 false false false false false false false false))) 0 (w * q) s (by simp) (by simp; omega) k (by omega)
  rw [show (0 : Int) = ((0 : Nat) : Int) from rfl]
  rw [show ((0 : Nat) : Int) = (0 : Int) from rfl] at this ⊢
  rw [this]
  have e : over (List.replicate (w * q) (S76.mk 0 (S74.mk 0 0 0) 0 (S70.mk 0 0 false false false false false false false false))) 0 (List.replicate (w * q) (blk s)) = List.replicate (w * q) (blk s) := by
    unfold over; simp
  rw [e]
  simp
theorem f44 (c r : Int) (s : S70) (k : Nat) (hk : 1100000 ≤ k) : F44.f k c r s = some (sNew c r s) := by
  unfold F44.f sNew
  rw [f78]
  simp only [Option.bind_some, f71]
  cases hs : sizedB c r
  · simp [no]
  · cases hm : mayStyle s
    · simp [no]
    · obtain ⟨w, q, rfl, rfl, _, _, _, _, hq, hc, _⟩ := sized_mul hs
      simp only [Bool.not_true, Bool.false_eq_true, if_false, Option.bind_some, Bool.and_self, if_true]
      rw [f79 w q s hq k (by omega), hc, Int.toNat_natCast]
      rfl
theorem l45 (w q : Nat) (s : S70) (hq : w * q ≤ 262144) : ∀ (m k i : Nat), i + m = w * q → m < k →
    F45.l0 (w : Int) (q : Int) s k (S67.mk (w : Int) (q : Int) (List.replicate i (blk s))) (i : Int) = some (S67.mk (w : Int) (q : Int) (List.replicate (w * q) (blk s)))
  | 0, 0, _, _, hk => by omega
  | 0, k + 1, i, hi, hk => by
    rw [F45.l0, show (w : Int) * (q : Int) = ((w * q : Nat) : Int) from by simp, w64 (by omega) (by omega), if_neg (by omega), show i = w * q from by omega]
  | m + 1, 0, _, _, hk => by omega
  | m + 1, k + 1, i, hi, hk => by
    rw [F45.l0, show (w : Int) * (q : Int) = ((w * q : Nat) : Int) from by simp, w64 (x := ((w * q : Nat) : Int)) (by omega) (by omega), if_pos (by omega), f70]
    simp only [Option.bind_some, lt]
    rw [if_pos (by simp; omega), wsucc (by omega), ← List.replicate_succ']
    exact l45 w q s hq m k (i + 1) (by omega) (by omega)
theorem f45 (c r : Int) (s : S70) (k : Nat) (hk : 1100000 ≤ k) : F45.f k c r s = some (sNew c r s) := by
  unfold F45.f sNew
  rw [f67, f67]
  simp only [Option.bind_some, f89]
  have hss := side2 c r
  cases h1 : decide (1 ≤ c ∧ c ≤ 512)
  · rw [h1, Bool.false_and] at hss; rw [← hss]; simp [no]
  · cases h2 : decide (1 ≤ r ∧ r ≤ 512)
    · rw [h1, h2, Bool.and_false] at hss; rw [← hss]; simp [no]
    · rw [h1, h2, Bool.and_self] at hss
      cases hm : mayStyle s
      · rw [← hss]; simp [no]
      · obtain ⟨w, q, rfl, rfl, _, _, _, _, hq, hc, _⟩ := sized_mul hss.symm
        rw [← hss]
        simp only [Bool.not_true, Bool.false_eq_true, if_false, Option.bind_some, Bool.and_self, if_true]
        have h0 := l45 w q s hq (w * q) k 0 (by omega) (by omega)
        rw [List.replicate_zero] at h0
        rw [show (0 : Int) = ((0 : Nat) : Int) from rfl, h0, hc, Int.toNat_natCast]
        rfl

/-! ### resize -/
/-- The rows of a grid that stay, mended. -/
def resL (X : List S76) (w w' : Nat) : Nat → Nat → List S76 → List S76
  | 0, _, Z => Z
  | n + 1, i, Z => resL X w w' n (i + 1) (over Z (i * w') (mendL (over (win Z (i * w') w') 0 ((win X (i * w) w).take w'))))
theorem res_step {X Z : List S76} {w w' i : Nat} (hz : i * w' + w' ≤ Z.length) : (over Z (i * w') (mendL (over (win Z (i * w') w') 0 ((win X (i * w) w).take w')))).length = Z.length :=
  over_len2 (by rw [mend_len, over_len2 (by rw [List.length_take, wlen hz]; omega), wlen hz]; exact hz)
theorem res_len {X : List S76} {w w' q' : Nat} : ∀ (n i : Nat) (Z : List S76), i + n ≤ q' → Z.length = w' * q' → (resL X w w' n i Z).length = w' * q'
  | 0, i, Z, h, hl => hl
  | n + 1, i, Z, h, hl => by
    have hp := place (w := w') (i := i) (q := q') (by omega)
    rw [resL]
    exact res_len n (i + 1) _ (by omega) (by rw [res_step (by omega)]; exact hl)
def sResize (g : S67) (c r : Int) (s : S70) : S67 × Int :=
  if (mayGrid g && (sizedB c r && mayStyle s)) = true then (S67.mk c r (resL g.f2 g.f0.toNat c.toNat (min r g.f1).toNat 0 (List.replicate (c * r).toNat (blk s))), 0) else no
theorem l38 (g : S67) (w q w' q' : Nat) (e0 : g.f0 = (w : Int)) (e1 : g.f1 = (q : Int)) (hlen : g.f2.length = w * q) (hb : w * q ≤ 262144) (hb' : w' * q' ≤ 262144) (hw' : w' ≤ 512) (hq5 : q' ≤ 512) (Z0 : List S76) (hZ0 : Z0.length = w' * q') : ∀ (m k i : Nat) (Z : List S76), i + m = min q' q → Z.length = w' * q' → m + 520 < k →
    F38.l0 g (q' : Int) (S67.mk (w' : Int) (q' : Int) Z0) k (i : Int) Z = some (resL g.f2 w w' m i Z)
  | 0, 0, _, _, _, _, hk => by omega
  | 0, k + 1, i, Z, hi, hZ, hk => by
    rw [F38.l0, if_pos (show Z.length = Z0.length by omega), minI_eq, e1, if_neg (by omega)]; rfl
  | m + 1, 0, _, _, _, _, hk => by omega
  | m + 1, k + 1, i, Z, hi, hZ, hk => by
    have hp := place (w := w') (i := i) (q := q') (by omega)
    have h1 := at80 Z w' q' i (q' : Int) hZ hb' (by omega)
    have h2 := at80r g.f2 w q i g.f1 hlen hb (by omega)
    rw [← e0] at h2
    have hlt : ((win g.f2 (i * w) w).take w').length ≤ w' := by rw [List.length_take]; omega
    rw [F38.l0, if_pos (show Z.length = Z0.length by omega), minI_eq, e1, if_pos (by omega), h1]
    simp only [Option.bind_some]
    rw [if_pos (by omega), show F80.f g (i : Int) = some (win g.f2 (i * w) w) from h2]
    simp only [Option.bind_some, lt, Int.toNat_natCast]
    have hov : over Z (i * w') ((win g.f2 (i * w) w).take w') = over Z (i * w') (over (win Z (i * w') w') 0 ((win g.f2 (i * w) w).take w')) := by
      have := over_in (X := Z) (ys := (win g.f2 (i * w) w).take w') (o := i * w') (a := 0) (n := w') (by omega) (by omega)
      simpa using this
    have hl2 : (over (win Z (i * w') w') 0 ((win g.f2 (i * w) w).take w')).length = w' := by rw [over_len2 (by rw [wlen (by omega)]; omega), wlen (by omega)]
    have hl1 : (over Z (i * w') ((win g.f2 (i * w) w).take w')).length = Z.length := over_len2 (by omega)
    rw [f81 _ (i * w') w' (by omega) (by omega) k (by omega)]
    simp only [Option.bind_some]
    rw [if_pos (over_len2 (by rw [mend_len, wlen (by omega)]; omega)), hov, mend_in (by omega) hl2, wsucc (by omega), resL]
    exact l38 g w q w' q' e0 e1 hlen hb hb' hw' hq5 Z0 hZ0 m k (i + 1) _ (by omega) (by rw [res_step (by omega)]; exact hZ) (by omega)
theorem l49 (g : S67) (w q w' q' : Nat) (e0 : g.f0 = (w : Int)) (e1 : g.f1 = (q : Int)) (hlen : g.f2.length = w * q) (hb : w * q ≤ 262144) (hb' : w' * q' ≤ 262144) (hw' : w' ≤ 512) (hq : q ≤ 512) (hq5 : q' ≤ 512) (Z0 : List S76) (hZ0 : Z0.length = w' * q') : ∀ (m k i : Nat) (Z : List S76), i + m = min q' q → Z.length = w' * q' → m + 520 < k →
    F49.l0 g (q' : Int) (S67.mk (w' : Int) (q' : Int) Z0, 0) k (i : Int) Z = some (resL g.f2 w w' m i Z)
  | 0, 0, _, _, _, _, hk => by omega
  | 0, k + 1, i, Z, hi, hZ, hk => by
    rw [F49.l0, if_pos (show Z.length = Z0.length by omega), minI_eq, e1, if_neg (by omega)]; rfl
  | m + 1, 0, _, _, _, _, hk => by omega
  | m + 1, k + 1, i, Z, hi, hZ, hk => by
    have hp := place (w := w') (i := i) (q := q') (by omega)
    have h1 := at83 Z w' q' i (q' : Int) hZ hb' hq5 (by omega)
    have h2 := at83r g.f2 w q i g.f1 hlen hb hq (by omega)
    rw [← e0] at h2
    have hlt : ((win g.f2 (i * w) w).take w').length ≤ w' := by rw [List.length_take]; omega
    have hl1 : (over Z (i * w') ((win g.f2 (i * w) w).take w')).length = Z.length := over_len2 (by omega)
    have h3 := at83 (over Z (i * w') ((win g.f2 (i * w) w).take w')) w' q' i (q' : Int) (by rw [hl1]; exact hZ) hb' hq5 (by omega)
    rw [F49.l0, if_pos (show Z.length = Z0.length by omega), minI_eq, e1, if_pos (by omega), h1]
    simp only [Option.bind_some]
    rw [if_pos (by omega), show F83.f g (i : Int) = some (win g.f2 (i * w) w) from h2]
    simp only [Option.bind_some, lt, Int.toNat_natCast]
    rw [h3]
    simp only [Option.bind_some]
    have hov : over Z (i * w') ((win g.f2 (i * w) w).take w') = over Z (i * w') (over (win Z (i * w') w') 0 ((win g.f2 (i * w) w).take w')) := by
      have := over_in (X := Z) (ys := (win g.f2 (i * w) w).take w') (o := i * w') (a := 0) (n := w') (by omega) (by omega)
      simpa using this
    have hl2 : (over (win Z (i * w') w') 0 ((win g.f2 (i * w) w).take w')).length = w' := by rw [over_len2 (by rw [wlen (by omega)]; omega), wlen (by omega)]
    rw [if_pos (by omega), f90 _ (i * w') w' (by omega) (by omega) (by omega) k (by omega)]
    simp only [Option.bind_some]
    rw [if_pos (over_len2 (by rw [mend_len, wlen (by omega)]; omega)), hov, mend_in (by omega) hl2, wsucc (by omega), resL]
    exact l49 g w q w' q' e0 e1 hlen hb hb' hw' hq hq5 Z0 hZ0 m k (i + 1) _ (by omega) (by rw [res_step (by omega)]; exact hZ) (by omega)
theorem f38 (g : S67) (hg : Gr g) (c r : Int) (s : S70) (k : Nat) (hk : 1100000 ≤ k) : F38.f k g c r s = some (sResize g c r s) := by
  unfold F38.f sResize
  rw [f41w g hg k hk, f78]
  simp only [Option.bind_some, f71]
  cases hm : mayGrid g
  · simp [no]
  · cases hs : sizedB c r
    · simp [no]
    · cases hy : mayStyle s
      · simp [no]
      · obtain ⟨w, q, e0, e1, _, _, _, _, hlen, hb⟩ := may_size hm
        obtain ⟨w', q', rfl, rfl, _, _, _, _, hq, hc, _⟩ := sized_mul hs
        simp only [Bool.not_true, Bool.false_eq_true, if_false, Option.bind_some, Bool.and_self, if_true]
        rw [f79 w' q' s hq k (by omega)]
        simp only [Option.bind_some]
        have h0 := l38 g w q w' q' e0 e1 hlen hb hq (by omega) (by omega) (List.replicate (w' * q') (blk s)) (by simp) (min q' q) k 0 (List.replicate (w' * q') (blk s)) (by omega) (by simp) (by omega)
        rw [show (0 : Int) = ((0 : Nat) : Int) from rfl, h0]
        simp only [Option.bind_some]
        rw [if_pos (by rw [res_len (q' := q') _ _ _ (by omega) (by simp)]; simp), hc, e0, e1]
        simp only [Int.toNat_natCast, show (min (q' : Int) (q : Int)).toNat = min q' q from by omega]
theorem f49 (g : S67) (hg : Gr g) (c r : Int) (s : S70) (k : Nat) (hk : 1100000 ≤ k) : F49.f k g c r s = some (sResize g c r s) := by
  unfold F49.f sResize
  rw [f30w g hg k hk, f45 c r s k hk]
  simp only [Option.bind_some]
  cases hm : mayGrid g
  · simp [no]
  · unfold sNew
    cases hs : sizedB c r
    · simp [no]
    · cases hy : mayStyle s
      · simp [no]
      · obtain ⟨w, q, e0, e1, _, _, _, _, hlen, hb⟩ := may_size hm
        obtain ⟨w', q', rfl, rfl, _, _, _, _, hq, hc, _⟩ := sized_mul hs
        simp only [Bool.not_true, Bool.false_eq_true, if_false, Bool.and_self, if_true, ne_eq, not_true_eq_false]
        rw [hc, Int.toNat_natCast]
        have h0 := l49 g w q w' q' e0 e1 hlen hb hq (by omega) (by omega) (by omega) (List.replicate (w' * q') (blk s)) (by simp) (min q' q) k 0 (List.replicate (w' * q') (blk s)) (by omega) (by simp) (by omega)
        rw [show F49.l0 g (q' : Int) (S67.mk (w' : Int) (q' : Int) (List.replicate (w' * q') (blk s)), 0) k 0 (List.replicate (w' * q') (blk s)) = _ from h0]
        simp only [Option.bind_some]
        rw [if_pos (by rw [res_len (q' := q') _ _ _ (by omega) (by simp)]; simp), e0, e1]
        simp only [Int.toNat_natCast, show (min (q' : Int) (q : Int)).toNat = min q' q from by omega]
theorem anchored (k : Nat) (hk : 1000 ≤ k) : F31.f k = some true := by
  obtain ⟨j, rfl⟩ : ∃ j, k = j + 600 := ⟨k - 600, by omega⟩
  kernel_rfl
end Go.Proofs.Ytodkeoibebimgaa.GrSp

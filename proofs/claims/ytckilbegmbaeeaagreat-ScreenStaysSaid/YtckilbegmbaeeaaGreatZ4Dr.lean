import Derived.Test.YtckilbegmbaeeaaGreatZ4Dq
namespace Go.Proofs.YtckilbegmbaeeaaGreat.Z4Sp
open Go Go.RowKit Go.Proofs.YtckilbegmbaeeaaGreat.SL Go.Proofs.YtckilbegmbaeeaaGreat.Z4 Go.Proofs.YtckilbegmbaeeaaGreat.Z4May Go.Proofs.YtckilbegmbaeeaaGreat.Z4Ls Go.Proofs.YtckilbegmbaeeaaGreat.Z4Op
set_option linter.unusedVariables false
set_option linter.unusedSimpArgs false
def sNew (c r : Int) (s : S28) : S26 × Int := if (sizedB c r && mayStyle s) = true then (S26.mk c r (List.replicate (c * r).toNat (blk s)), 0) else no
theorem l116b (X : List S55) (b : S55) (hb : X.length < 4611686018427387904) : ∀ (m k i : Nat), i + m = X.length → m < k →
  F116b0.l0 X b k (i : Int) (over X 0 (List.replicate i b)) = some (over X 0 (List.replicate X.length b))
 | 0, 0, _, _, hk => by omega
 | 0, k + 1, i, hi, hk => by
  rw [F116b0.l0, if_pos (by rw [over_len2 (by simp; omega)]), if_neg (by omega), show i = X.length from by omega]
 | m + 1, 0, _, _, hk => by omega
 | m + 1, k + 1, i, hi, hk => by
  rw [F116b0.l0, if_pos (by rw [over_len2 (by simp; omega)]), if_pos (by omega), if_pos (by rw [over_len2 (by simp; omega)]; omega)]
  simp only [lt]
  rw [wsucc (by omega)]
  have e : ((i : Int)).toNat = 0 + (List.replicate i b).length := by simp
  rw [e, over_set (by simp; omega), ← List.replicate_succ']
  exact l116b X b hb m k (i + 1) (by omega) (by omega)
theorem f116b (X : List S55) (s : S28) (hb : X.length < 4611686018427387904) (k : Nat) (hk : X.length < k) : F116b0.f k X s = some (List.replicate X.length (blk s)) := by
 unfold F116b0.f
 rw [f110]
 have := l116b X (blk s) hb X.length k 0 (by omega) hk
 rw [List.replicate_zero, over_nil] at this
 simp only [Option.bind_some]
 rw [show (0 : Int) = ((0 : Nat) : Int) from rfl, this]
 simp only [Option.bind_some]
 rw [if_pos (over_len2 (by simp))]
 unfold over; simp
theorem f79 (w q : Nat) (s : S28) (hq : w * q ≤ 262144) (k : Nat) (hk : 262144 < k) : F69.f k (w : Int) (q : Int) s = some (S26.mk (w : Int) (q : Int) (List.replicate (w * q) (blk s))) := by
 unfold F69.f
 rw [show (w : Int) * (q : Int) = ((w * q : Nat) : Int) from by simp, w64 (by omega) (by omega), if_pos (by omega), Int.toNat_natCast]
 simp only [lt]
 rw [f116b _ s (by simp; omega) k (by simp; omega)]
 simp
theorem f44 (c r : Int) (s : S28) (k : Nat) (hk : 1100000 ≤ k) : F21.f k c r s = some (sNew c r s) := by
 unfold F21.f sNew
 rw [f78]
 simp only [Option.bind_some, f71]
 cases hs : sizedB c r
 ·simp [no]
 ·cases hm : mayStyle s
  ·simp [no]
  ·obtain ⟨w, q, rfl, rfl, _, _, _, _, hq, hc, _⟩ := sized_mul hs
   simp only [Bool.not_true, Bool.false_eq_true, if_false, Option.bind_some, Bool.and_self, if_true]
   rw [f79 w q s hq k (by omega), hc, Int.toNat_natCast]
   rfl
def resL (X : List S55) (w w' : Nat) : Nat → Nat → List S55 → List S55
 | 0, _, Z => Z
 | n + 1, i, Z => resL X w w' n (i + 1) (over Z (i * w') (mendL (over (win Z (i * w') w') 0 ((win X (i * w) w).take w'))))
theorem res_step {X Z : List S55} {w w' i : Nat} (hz : i * w' + w' ≤ Z.length) : (over Z (i * w') (mendL (over (win Z (i * w') w') 0 ((win X (i * w) w).take w')))).length = Z.length :=
 over_len2 (by rw [mend_len, over_len2 (by rw [List.length_take, wlen hz]; omega), wlen hz]; exact hz)
theorem res_len {X : List S55} {w w' q' : Nat} : ∀ (n i : Nat) (Z : List S55), i + n ≤ q' → Z.length = w' * q' → (resL X w w' n i Z).length = w' * q'
 | 0, i, Z, h, hl => hl
 | n + 1, i, Z, h, hl => by
  have hp := place (w := w') (i := i) (q := q') (by omega)
  rw [resL]
  exact res_len n (i + 1) _ (by omega) (by rw [res_step (by omega)]; exact hl)
def sResize (g : S26) (c r : Int) (s : S28) : S26 × Int :=
 if (mayGrid g && (sizedB c r && mayStyle s)) = true then (S26.mk c r (resL g.f2 g.f0.toNat c.toNat (min r g.f1).toNat 0 (List.replicate (c * r).toNat (blk s))), 0) else no
theorem l38 (g : S26) (w q w' q' : Nat) (e0 : g.f0 = (w : Int)) (e1 : g.f1 = (q : Int)) (hlen : g.f2.length = w * q) (hb : w * q ≤ 262144) (hb' : w' * q' ≤ 262144) (hw' : w' ≤ 512) (hq5 : q' ≤ 512) (Z0 : List S55) (hZ0 : Z0.length = w' * q') : ∀ (m k i : Nat) (Z : List S55), i + m = min q' q → Z.length = w' * q' → m + 520 < k →
  F96.l0 g (q' : Int) (S26.mk (w' : Int) (q' : Int) Z0) k (i : Int) Z = some (resL g.f2 w w' m i Z)
 | 0, 0, _, _, _, _, hk => by omega
 | 0, k + 1, i, Z, hi, hZ, hk => by
  rw [F96.l0, if_pos (show Z.length = Z0.length by omega), minI_eq, e1, if_neg (by omega)]; rfl
 | m + 1, 0, _, _, _, _, hk => by omega
 | m + 1, k + 1, i, Z, hi, hZ, hk => by
  have hp := place (w := w') (i := i) (q := q') (by omega)
  have h1 := at80 Z w' q' i (q' : Int) hZ hb' (by omega)
  have h2 := at80r g.f2 w q i g.f1 hlen hb (by omega)
  rw [← e0] at h2
  have hlt : ((win g.f2 (i * w) w).take w').length ≤ w' := by rw [List.length_take]; omega
  rw [F96.l0, if_pos (show Z.length = Z0.length by omega), minI_eq, e1, if_pos (by omega), h1]
  simp only [Option.bind_some]
  rw [if_pos (by omega), show F135.f g (i : Int) = some (win g.f2 (i * w) w) from h2]
  simp only [Option.bind_some, lt, Int.toNat_natCast]
  have hov : over Z (i * w') ((win g.f2 (i * w) w).take w') = over Z (i * w') (over (win Z (i * w') w') 0 ((win g.f2 (i * w) w).take w')) := by
   have := over_in (X := Z) (ys := (win g.f2 (i * w) w).take w') (o := i * w') (a := 0) (n := w') (by omega) (by omega)
   simpa using this
  have hl2 : (over (win Z (i * w') w') 0 ((win g.f2 (i * w) w).take w')).length = w' := by rw [over_len2 (by rw [wlen (by omega)]; omega), wlen (by omega)]
  have hl1 : (over Z (i * w') ((win g.f2 (i * w) w).take w')).length = Z.length := over_len2 (by omega)
  rw [f81 _ (i * w') w' (by omega) (by omega) k (by omega)]
  simp only [Option.bind_some]
  rw [if_pos (over_len2 (by rw [mend_len, wlen (by omega)]; omega)), hov, mend_in (by omega) hl2, wsucc (by omega), resL]
  exact l38 g w q w' q' e0 e1 hlen hb hb' hw' hq5 Z0 hZ0 m k (i + 1) _ (by omega) (by rw [res_step (by omega)]; exact hZ) (by omega)
theorem f38 (g : S26) (hg : Gr g) (c r : Int) (s : S28) (k : Nat) (hk : 1100000 ≤ k) : F96.f k g c r s = some (sResize g c r s) := by
 unfold F96.f sResize
 rw [f41w g hg k hk, f78]
 simp only [Option.bind_some, f71]
 cases hm : mayGrid g
 ·simp [no]
 ·cases hs : sizedB c r
  ·simp [no]
  ·cases hy : mayStyle s
   ·simp [no]
   ·obtain ⟨w, q, e0, e1, _, _, _, _, hlen, hb⟩ := may_size hm
    obtain ⟨w', q', rfl, rfl, _, _, _, _, hq, hc, _⟩ := sized_mul hs
    simp only [Bool.not_true, Bool.false_eq_true, if_false, Option.bind_some, Bool.and_self, if_true]
    rw [f79 w' q' s hq k (by omega)]
    simp only [Option.bind_some]
    have h0 := l38 g w q w' q' e0 e1 hlen hb hq (by omega) (by omega) (List.replicate (w' * q') (blk s)) (by simp) (min q' q) k 0 (List.replicate (w' * q') (blk s)) (by omega) (by simp) (by omega)
    rw [show (0 : Int) = ((0 : Nat) : Int) from rfl, h0]
    simp only [Option.bind_some]
    rw [if_pos (by rw [res_len (q' := q') _ _ _ (by omega) (by simp)]; simp), hc, e0, e1]
    simp only [Int.toNat_natCast, show (min (q' : Int) (q : Int)).toNat = min q' q from by omega]
theorem l96b (g : S26) (w q w' q' : Nat) (e0 : g.f0 = (w : Int)) (e1 : g.f1 = (q : Int)) (hlen : g.f2.length = w * q) (hb : w * q ≤ 262144) (hb' : w' * q' ≤ 262144) (hw' : w' ≤ 512) (hq5 : q' ≤ 512) (Z0 : List S55) (hZ0 : Z0.length = w' * q') : ∀ (m k i : Nat) (Z : List S55), i + m = min q' q → Z.length = w' * q' → m + 520 < k →
  F96b0.l0 g (q' : Int) (S26.mk (w' : Int) (q' : Int) Z0) k (i : Int) Z = some (resL g.f2 w w' m i Z)
 | 0, 0, _, _, _, _, hk => by omega
 | 0, k + 1, i, Z, hi, hZ, hk => by
  rw [F96b0.l0, if_pos (show Z.length = Z0.length by omega), minI_eq, e1, if_neg (by omega)]; rfl
 | m + 1, 0, _, _, _, _, hk => by omega
 | m + 1, k + 1, i, Z, hi, hZ, hk => by
  have hp := place (w := w') (i := i) (q := q') (by omega)
  have h1 := at80 Z w' q' i (q' : Int) hZ hb' (by omega)
  have h2 := at80 g.f2 w q i g.f1 hlen hb (by omega)
  have hp2 := place (w := w) (i := i) (q := q) (by omega)
  rw [← e0] at h2
  have hlt : ((win g.f2 (i * w) w).take w').length ≤ w' := by rw [List.length_take]; omega
  rw [F96b0.l0, if_pos (show Z.length = Z0.length by omega), minI_eq, e1, if_pos (by omega), h1]
  simp only [Option.bind_some]
  rw [if_pos (by omega), show F135b0.f g (i : Int) = some (((i * w : Nat) : Int), g.f0) from h2, e0]
  simp only [Option.bind_some]
  rw [if_pos (by omega), sub_win]
  simp only [lt, Int.toNat_natCast]
  have hov : over Z (i * w') ((win g.f2 (i * w) w).take w') = over Z (i * w') (over (win Z (i * w') w') 0 ((win g.f2 (i * w) w).take w')) := by
   have := over_in (X := Z) (ys := (win g.f2 (i * w) w).take w') (o := i * w') (a := 0) (n := w') (by omega) (by omega)
   simpa using this
  have hl2 : (over (win Z (i * w') w') 0 ((win g.f2 (i * w) w).take w')).length = w' := by rw [over_len2 (by rw [wlen (by omega)]; omega), wlen (by omega)]
  have hl1 : (over Z (i * w') ((win g.f2 (i * w) w).take w')).length = Z.length := over_len2 (by omega)
  rw [f81 _ (i * w') w' (by omega) (by omega) k (by omega)]
  simp only [Option.bind_some]
  rw [if_pos (over_len2 (by rw [mend_len, wlen (by omega)]; omega)), hov, mend_in (by omega) hl2, wsucc (by omega), resL]
  exact l96b g w q w' q' e0 e1 hlen hb hb' hw' hq5 Z0 hZ0 m k (i + 1) _ (by omega) (by rw [res_step (by omega)]; exact hZ) (by omega)
theorem f96b (g : S26) (hg : Gr g) (c r : Int) (s : S28) (k : Nat) (hk : 1100000 ≤ k) : F96b0.f k g c r s = some (sResize g c r s) := by
 unfold F96b0.f sResize
 rw [f41w g hg k hk, f78]
 simp only [Option.bind_some, f71]
 cases hm : mayGrid g
 ·simp [no]
 ·cases hs : sizedB c r
  ·simp [no]
  ·cases hy : mayStyle s
   ·simp [no]
   ·obtain ⟨w, q, e0, e1, _, _, _, _, hlen, hb⟩ := may_size hm
    obtain ⟨w', q', rfl, rfl, _, _, _, _, hq, hc, _⟩ := sized_mul hs
    simp only [Bool.not_true, Bool.false_eq_true, if_false, Option.bind_some, Bool.and_self, if_true]
    rw [f79 w' q' s hq k (by omega)]
    simp only [Option.bind_some]
    have h0 := l96b g w q w' q' e0 e1 hlen hb hq (by omega) (by omega) (List.replicate (w' * q') (blk s)) (by simp) (min q' q) k 0 (List.replicate (w' * q') (blk s)) (by omega) (by simp) (by omega)
    rw [show (0 : Int) = ((0 : Nat) : Int) from rfl, h0]
    simp only [Option.bind_some]
    rw [if_pos (by rw [res_len (q' := q') _ _ _ (by omega) (by simp)]; simp), hc, e0, e1]
    simp only [Int.toNat_natCast, show (min (q' : Int) (q : Int)).toNat = min q' q from by omega]
end Go.Proofs.YtckilbegmbaeeaaGreat.Z4Sp

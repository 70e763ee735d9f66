/- The plain law of HuffFree: what the walked functions compute answers as the statement says. -/
import Derived.Test.YtocjoegcfojjhaaHeSym
namespace Go.Proofs.Ytocjoegcfojjhaa.HePure
open Go Go.RowKit Go.Proofs.Ytocjoegcfojjhaa.SL Go.Proofs.Ytocjoegcfojjhaa.He Go.Proofs.Ytocjoegcfojjhaa.HeTh
set_option linter.unusedVariables false
set_option linter.unusedSimpArgs false

theorem rv_low (v d : Nat) : ∀ t, rv v (t + d) % 2 ^ t = rv (v / 2 ^ d) t
  | 0 => by simp [rv, Nat.mod_one]
  | t + 1 => by
    have ih := rv_low v d t
    rw [show t + 1 + d = (t + d) + 1 from by omega, rv, rv, Nat.pow_succ, Nat.div_div_eq_div_mul, ← Nat.pow_add, Nat.add_comm d t, ← ih]
    have hb := Nat.mod_lt (v / 2 ^ (t + d)) (show 0 < 2 by decide)
    generalize (v / 2 ^ (t + d)) % 2 = c at *
    generalize rv v (t + d) = x
    rw [Nat.mul_comm (2 ^ t) 2, show 2 * x + c = c + 2 * x from by omega, Nat.add_mod, Nat.mul_mod_mul_left]
    have hx := Nat.mod_lt x (Nat.pow_pos (n := t) (show 0 < 2 by decide))
    rw [Nat.mod_eq_of_lt (show c < 2 * 2 ^ t by omega), Nat.mod_eq_of_lt (by omega)]; omega
theorem rv_high (v : Nat) : ∀ s, rv v (s + 1) = (v % 2) * 2 ^ s + rv (v / 2) s
  | 0 => by simp [rv]
  | s + 1 => by
    have ih := rv_high v s
    rw [rv, ih, rv, Nat.div_div_eq_div_mul, show 2 * 2 ^ s = 2 ^ (s + 1) from by rw [Nat.pow_succ, Nat.mul_comm]]
    rw [Nat.pow_succ]
    generalize (v / (2 ^ s * 2)) % 2 = c
    generalize rv (v / 2) s = x
    rw [Nat.mul_add, ← Nat.mul_assoc, Nat.mul_comm 2, Nat.mul_assoc, Nat.mul_comm 2 (2 ^ s)]; omega
theorem rv_inj : ∀ (s v w : Nat), v < 2 ^ s → w < 2 ^ s → rv v s = rv w s → v = w
  | 0, v, w, h1, h2, _ => by simp at h1 h2; omega
  | s + 1, v, w, h1, h2, h => by
    rw [rv_high, rv_high] at h
    rw [Nat.pow_succ] at h1 h2
    have a := rv_lt (v / 2) s
    have b := rv_lt (w / 2) s
    have c1 : v % 2 < 2 := Nat.mod_lt _ (by decide)
    have c2 : w % 2 < 2 := Nat.mod_lt _ (by decide)
    have hm : v % 2 = w % 2 := by
      have e1 : v % 2 = 0 ∨ v % 2 = 1 := by omega
      have e2 : w % 2 = 0 ∨ w % 2 = 1 := by omega
      rcases e1 with e1 | e1 <;> rcases e2 with e2 | e2 <;> rw [e1, e2] at h ⊢ <;> omega
    have hd : v / 2 = w / 2 := rv_inj s _ _ (by omega) (by omega) (by rw [hm] at h; omega)
    omega
theorem bt_pos (l : List Int) (j n : Nat) (h : rd l (j : Int) = (n : Int)) (h1 : 1 ≤ n) : bt l j = S52.mk ((rv (cv l j) n : Nat) : Int) (n : Int) := by
  unfold bt; rw [h, if_pos (by omega)]; rfl
theorem bt_zero (l : List Int) (j : Nat) (h : ¬ 1 ≤ rd l (j : Int)) : bt l j = S52.mk 0 0 := by
  unfold bt; rw [if_neg h]
theorem mask : ∀ n : Nat, n ≤ 15 → IntKind.u64.wrap (shlI .u64 1 (IntKind.u64.wrap (n : Int)) - 1) = ((2 ^ n - 1 : Nat) : Int) := by decide +kernel
theorem l5b (l : List Int) (hb : badL l = 0) (i : Nat) (hi : i < l.length) : ∀ (m k j : Nat), j + m = l.length → m < k → F5.l1 ((List.range l.length).map (bt l), (0 : Int)) (i : Int) k (j : Int) = some (Out.go ())
  | m, 0, _, _, h => by omega
  | 0, k + 1, j, h, hk => by rw [F5.l1, if_neg (by simp; omega)]
  | m + 1, k + 1, j, h, hk => by
    obtain ⟨ho, hw, h5⟩ := badL_ok hb
    have hW := W_wgt l ho
    have hj : j < l.length := by omega
    have ew : IntKind.i64.wrap ((j : Int) + 1) = ((j + 1 : Nat) : Int) := by rw [w64 (by omega) (by omega)]; rfl
    have ih := l5b l hb i hi m k (j + 1) (by omega) (by omega)
    have ci : 0 ≤ (i : Int) ∧ (i : Int) < (((List.range l.length).map (bt l)).length : Int) := by simp; omega
    have cj : 0 ≤ (j : Int) ∧ (j : Int) < (((List.range l.length).map (bt l)).length : Int) := by simp; omega
    rw [F5.l1, if_pos cj.2]
    simp only [if_pos ci, if_pos cj, Bool.false_eq_true, if_false, rdmap _ _ _ hi, rdmap _ _ _ hj, lt, ew, ih, if_pos (uw0 _)]
    obtain ⟨n, hn, n15⟩ := rdNat l ho i hi
    obtain ⟨q, hq, q15⟩ := rdNat l ho j hj
    by_cases hij : (i : Int) ≠ (j : Int)
    · rw [if_pos hij]
      by_cases h1 : 1 ≤ n
      · rw [bt_pos l i n hn h1, if_pos (show (n : Int) > 0 by omega)]
        by_cases h2 : n ≤ q
        · rw [bt_pos l j q hq (by omega), if_pos (show (n : Int) ≤ (q : Int) by omega)]
          have hne : ¬ (andI .u64 ((rv (cv l j) q : Nat) : Int) (IntKind.u64.wrap (shlI .u64 1 (IntKind.u64.wrap (n : Int)) - 1)) = ((rv (cv l i) n : Nat) : Int)) := by
            intro he
            have hr := rv_lt (cv l j) q
            have hp : 2 ^ q ≤ 2 ^ 15 := Nat.pow_le_pow_right (by decide) q15
            have hp2 : 2 ^ n ≤ 2 ^ 15 := Nat.pow_le_pow_right (by decide) n15
            rw [mask n n15, and64 _ _ (by omega) (by omega), Nat.and_two_pow_sub_one_eq_mod] at he
            have he2 : rv (cv l j) q % 2 ^ n = rv (cv l i) n := by omega
            rw [show q = n + (q - n) from by omega, rv_low] at he2
            have c1 := cv_lt l (by omega) i n hi hn h1 n15
            have c2 := cv_lt l (by omega) j q hj hq (by omega) q15
            have c3 : cv l j / 2 ^ (q - n) < 2 ^ n := by
              rw [Nat.div_lt_iff_lt_mul (Nat.pow_pos (by decide)), ← Nat.pow_add, show n + (q - n) = q from by omega]; exact c2
            have c4 := rv_inj n _ _ c3 c1 he2
            have := same_code l i j n q hi hj hn hq h1 h2 q15 c4
            omega
          rw [decide_eq_false hne]; rfl
        · have h3 : ¬ ((n : Int) ≤ (bt l j).f1) := by
            by_cases h4 : 1 ≤ q
            · rw [bt_pos l j q hq h4]; show ¬ (n : Int) ≤ (q : Int); omega
            · rw [bt_zero l j (by omega)]; show ¬ (n : Int) ≤ 0; omega
          rw [if_neg h3]; rfl
      · rw [bt_zero l i (by omega), if_neg (show ¬ ((0 : Int) > 0) by decide)]; rfl
    · rw [if_neg hij]; rfl
theorem l5a (l : List Int) (hb : badL l = 0) : ∀ (m k i : Nat), i + m = l.length → m + 600 < k → F5.l0 ((List.range l.length).map (bt l), (0 : Int)) k (i : Int) = some (Out.go ())
  | m, 0, _, _, h => by omega
  | 0, k + 1, i, h, hk => by rw [F5.l0, if_neg (by simp; omega)]
  | m + 1, k + 1, i, h, hk => by
    obtain ⟨ho, hw, h5⟩ := badL_ok hb
    have hi : i < l.length := by omega
    have ew : IntKind.i64.wrap ((i : Int) + 1) = ((i + 1 : Nat) : Int) := by rw [w64 (by omega) (by omega)]; rfl
    have h0 := l5b l hb i hi l.length k 0 (by omega) (by omega)
    rw [show ((0 : Nat) : Int) = 0 from rfl] at h0
    rw [F5.l0, if_pos (by simp; omega), h0]
    simp only [Option.bind_some, el_g, lt, ew]
    exact l5a l hb m k (i + 1) (by omega) (by omega)
theorem sy_ok (l bs : List Int) (ho : okIn 15 l = true) (hw : W l 15 = 32768) (hb : 2 ≤ bs.length) : ∀ (m s b : Nat), s + m = 16 → s ≤ 15 → NoC l s b → ∃ j n : Nat, sy l bs 0 m s b = ((j : Int), (n : Int), 0) ∧ j < l.length ∧ rd l (j : Int) = (n : Int)
  | 0, s, b, h, h15, _ => by omega
  | m + 1, s, b, h, h15, hn => by
    have e2 : 2 ^ s * 2 ^ (15 - s) = 2 ^ 15 := by rw [← Nat.pow_add]; congr 1; omega
    have hlt : b * 2 ^ (15 - s) < 2 ^ 15 := by rw [← e2]; exact Nat.mul_lt_mul_of_pos_right hn.1 (Nat.pow_pos (by decide))
    have hs : s < 15 := by
      rcases Nat.lt_or_ge s 15 with q | q
      · exact q
      · obtain rfl : s = 15 := by omega
        have := hn.full
        have := hn.1
        omega
    rw [sy, if_neg (by omega), if_neg (by omega)]
    have hbit : bitAt bs (0 + (s : Int)).toNat < 2 := Nat.mod_lt _ (by decide)
    cases hf : fnd l (s + 1) (2 * b + bitAt bs (0 + (s : Int)).toNat) with
    | some j =>
      obtain ⟨a, c, d⟩ := fnd_some hf
      exact ⟨j, s + 1, rfl, a, c⟩
    | none => exact sy_ok l bs ho hw hb m (s + 1) _ (by omega) (by omega) (hn.step hbit hf)
theorem f22 (l : List Int) (hb : badL l = 0) (k : Nat) (hk : l.length < k) : F22.f k l = some (wgt l, 0) := by
  obtain ⟨ho, hw, h5⟩ := badL_ok hb
  unfold F22.f
  rw [f52 15 l (by omega) k hk, ho, f53 l (by omega) ho k hk]
  simp only [Option.bind_some, Bool.not_true, Bool.false_eq_true, if_false]
  rw [if_neg (by omega)]
theorem f22t (l : List Int) (hl : l.length ≤ 17592186043904) (k : Nat) (hk : l.length < k) : ∃ r, F22.f k l = some r := by
  unfold F22.f
  rw [f52 15 l hl k hk]
  simp only [Option.bind_some]
  cases ho : okIn 15 l
  · exact ⟨_, rfl⟩
  · rw [f53 l hl ho k hk]
    by_cases h5 : (l.length : Int) > 512
    · exact ⟨_, by rw [if_neg (by simp), if_pos h5]⟩
    · exact ⟨_, by rw [if_neg (by simp), if_neg h5]; rfl⟩
theorem law (l bs : List Int) (hl : l.length ≤ 17592186043904) (hbs : bs.length ≤ 140737488351232) (hby : ∀ x ∈ bs, 0 ≤ x ∧ x < 256) : ∃ k, F5.f k l bs = some true := by
  refine ⟨17592186050000, ?_⟩
  generalize hk : (17592186050000 : Nat) = k
  unfold F5.f
  rw [f20 l hl k (by omega), anchored k (by omega), f24 l bs hl hbs hby 0 (by decide) k (by omega)]
  simp only [Option.bind_some]
  by_cases hb : badL l = 0
  · obtain ⟨ho, hw, h5⟩ := badL_ok hb
    have h0 := l5a l hb l.length k 0 (by omega) (by omega)
    rw [show ((0 : Nat) : Int) = 0 from rfl] at h0
    rw [f22 l hb k (by omega), if_pos hb]
    simp only [Option.bind_some, h0, el_g, lt]
    rw [if_neg (by decide)]
    by_cases hc : (wgt l = 32768) ∧ 2 ≤ bs.length
    · obtain ⟨j, n, hs, hj, hr⟩ := sy_ok l bs ho (by have := W_wgt l ho; omega) hc.2 16 0 0 rfl (by omega) (NoC.zero l)
      have e : symE l bs 0 = ((j : Int), (n : Int), 0) := by
        unfold symE; rw [if_neg (by rw [hb]; decide), if_neg (by rw [hb]; decide), hs]
      have c2 : decide ((bs.length : Int) ≥ 2) = true := decide_eq_true (by omega)
      have c3 : ¬ ((j : Int) < 0) := by omega
      have c4 : ¬ ((j : Int) ≥ (l.length : Int)) := by omega
      have c5 : 0 ≤ (j : Int) ∧ (j : Int) < (l.length : Int) := by omega
      rw [e, decide_eq_true hc.1, c2]
      simp [c3, c4, c5, hr]
    · have c : (decide (wgt l = 32768) && decide ((bs.length : Int) ≥ 2)) = false := by
        rw [Bool.eq_false_iff]; simp only [ne_eq, Bool.and_eq_true, decide_eq_true_eq]; omega
      rw [Bool.and_assoc, c, Bool.and_false]; rfl
  · obtain ⟨r, hr⟩ := f22t l hl k (by omega)
    rw [hr, if_neg hb]
    simp [hb, lt]
theorem row (x0 x1 : List Int) (w0 : x0.length * 8 ≤ 140737488351232 ∧ ∀ y ∈ x0, (Lit.int .i64 y).wf = true) (w1 : x1.length * 1 ≤ 140737488351232 ∧ ∀ y ∈ x1, (Lit.int .u8 y).wf = true) : ∃ k, F5.f k x0 x1 = some true := by
  refine law x0 x1 (by have := w0.1; omega) (by have := w1.1; omega) fun x hx => ?_
  have h2 := w1.2 x hx
  simp only [Lit.wf, IntKind.min, IntKind.max, Bool.and_eq_true, decide_eq_true_eq] at h2
  have := h2.1; have := h2.2
  constructor <;> (simp [IntKind.signed, IntKind.bits] at *; omega)
end Go.Proofs.Ytocjoegcfojjhaa.HePure

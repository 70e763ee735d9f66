/- What is read of a stream by the program's table of codes. -/
import Derived.Test.YtocjoegcfojjhaaHdTh
namespace Go.Proofs.Ytocjoegcfojjhaa.HdTh
open Go Go.RowKit Go.Proofs.Ytocjoegcfojjhaa.SL Go.Proofs.Ytocjoegcfojjhaa.Hd
set_option linter.unusedVariables false
set_option linter.unusedSimpArgs false

theorem get_put {α β : Type} [DecidableEq α] (k : α) (v : β) (q : α) : ∀ es : List (α × β), mapGet (mapPut es k v) q = if q = k then some v else mapGet es q
  | [] => by
    unfold mapPut mapGet
    by_cases h : q = k <;> simp [h]
  | p :: r => by
    have ih := get_put k v q r
    unfold mapPut
    by_cases hk : k = p.1
    · rw [if_pos hk]
      by_cases h : q = k
      · simp [mapGet, h]
      · have : ¬ q = p.1 := fun e => h (e.trans hk.symm)
        simp [mapGet, h, this]
    · rw [if_neg hk]
      by_cases h : q = p.1
      · have : ¬ q = k := fun e => hk (e.symm.trans h)
        simp [mapGet, h, this]
        exact fun e => absurd e.symm hk
      · have e1 : mapGet (p :: mapPut r k v) q = mapGet (mapPut r k v) q := by simp [mapGet, h]
        have e2 : mapGet (p :: r) q = mapGet r q := by simp [mapGet, h]
        rw [e1, e2, ih]
structure TabOk (l : List Int) (es : List (S88 × Int)) (m : Nat) : Prop where
  a : ∀ q s, mapGet es q = some s → ∃ j : Nat, j < m ∧ 1 ≤ rd l (j : Int) ∧ cd l 15 j = q ∧ s = (j : Int)
  b : ∀ j : Nat, j < m → 1 ≤ rd l (j : Int) → mapGet es (cd l 15 j) = some (j : Int)
theorem cd_pos (l : List Int) (ho : okIn 15 l = true) (j : Nat) (hj : j < l.length) (h : 1 ≤ rd l (j : Int)) : cd l 15 j = S88.mk (rd l (j : Int)) (cv l j : Nat) := by
  obtain ⟨n, hn, h15⟩ := rdNat l ho j hj
  unfold cd
  rw [if_pos ⟨h, by omega⟩]
theorem cd_inj (l : List Int) (ho : okIn 15 l = true) (i j : Nat) (hi : i < l.length) (hj : j < l.length) (h1 : 1 ≤ rd l (i : Int)) (h2 : 1 ≤ rd l (j : Int)) (he : cd l 15 i = cd l 15 j) : i = j := by
  obtain ⟨n, hn, hn15⟩ := rdNat l ho i hi
  obtain ⟨m, hm, hm15⟩ := rdNat l ho j hj
  rw [cd_pos l ho i hi h1, cd_pos l ho j hj h2, S88.mk.injEq] at he
  have e1 : n = m := by rw [hn, hm] at he; omega
  subst e1
  exact same_code l i j n n hi hj hn hm (by omega) (Nat.le_refl _) hn15 (by simp; omega)
theorem l54 (l : List Int) (hl : l.length ≤ 512) (ho : okIn 15 l = true) (w : Int) : ∀ (n k : Nat) (es : List (S88 × Int)) (i : Nat), i + n = l.length → n < k → TabOk l es i →
    ∃ es', F54.l0 ((List.range l.length).map (cd l 15)) k (S136.mk es w) (i : Int) = some (S136.mk es' w) ∧ TabOk l es' l.length
  | n, 0, _, _, _, h, _ => by omega
  | 0, k + 1, es, i, h, hk, ht => ⟨es, by rw [F54.l0, if_neg (by simp; omega)], by rw [show l.length = i by omega]; exact ht⟩
  | n + 1, k + 1, es, i, h, hk, ht => by
    have hi : i < l.length := by omega
    have ew : IntKind.i64.wrap ((i : Int) + 1) = ((i + 1 : Nat) : Int) := by rw [w64 (by omega) (by omega)]; rfl
    rw [F54.l0, if_pos (by simp; omega), if_pos (by simp; omega), rdmap _ _ _ hi]
    simp only [lt, ew]
    obtain ⟨m, hm, h15⟩ := rdNat l ho i hi
    by_cases h1 : 1 ≤ rd l (i : Int)
    · have hp : (cd l 15 i).f0 > 0 := by rw [cd_pos l ho i hi h1]; show rd l (i : Int) > 0; omega
      rw [if_pos hp]
      refine l54 l hl ho w n k _ (i + 1) (by omega) (by omega) ⟨fun q s hq => ?_, fun j hj h2 => ?_⟩
      · rw [get_put] at hq
        by_cases he : q = cd l 15 i
        · rw [if_pos he] at hq
          exact ⟨i, by omega, h1, he.symm, (Option.some.inj hq).symm⟩
        · rw [if_neg he] at hq
          obtain ⟨j, a, b, c, d⟩ := ht.a q s hq
          exact ⟨j, by omega, b, c, d⟩
      · rw [get_put]
        by_cases he : cd l 15 j = cd l 15 i
        · rw [if_pos he]
          have := cd_inj l ho j i (by omega) hi h2 h1 he
          rw [this]
        · rw [if_neg he]
          have : j ≠ i := fun e => he (by rw [e])
          exact ht.b j (by omega) h2
    · have hp : ¬ (cd l 15 i).f0 > 0 := by unfold cd; rw [if_neg (by omega)]; show ¬ (0 : Int) > 0; omega
      rw [if_neg hp]
      refine l54 l hl ho w n k es (i + 1) (by omega) (by omega) ⟨fun q s hq => ?_, fun j hj h2 => ?_⟩
      · obtain ⟨j, a, b, c, d⟩ := ht.a q s hq
        exact ⟨j, by omega, b, c, d⟩
      · have : j ≠ i := fun e => h1 (by rw [← e]; exact h2)
        exact ht.b j (by omega) h2
theorem f54 (l : List Int) (hb : badL l = 0) (k : Nat) (hk : l.length + 600 < k) : ∃ es, F54.f k l = some (some (S136.mk es (wgt l)), 0) ∧ TabOk l es l.length := by
  obtain ⟨ho, hw, h5⟩ := badL_ok hb
  have hg := wgt_le l
  obtain ⟨es, h1, h2⟩ := l54 l h5 ho (wgt l) l.length k [] 0 (by omega) (by omega) ⟨fun q s h => by simp [mapGet] at h, fun j h => by omega⟩
  rw [show ((0 : Nat) : Int) = 0 from rfl] at h1
  refine ⟨es, ?_, h2⟩
  unfold F54.f
  rw [f47 l (by omega) k (by omega), f53 l (by omega) ho k (by omega), f48 l (by omega) ho hw k (by omega), hb]
  have e : IntKind.u64.wrap (wgt l) = wgt l := by rw [wu64, Int.emod_eq_of_lt (by omega) (by omega)]
  simp only [Option.bind_some, e, h1]
  rfl

/-! ### the stream -/
def bitAt (bs : List Int) (i : Nat) : Nat := (rd bs ((i / 8 : Nat) : Int)).toNat / 2 ^ (i % 8) % 2
def fnd (l : List Int) (s b : Nat) : Option Nat := (List.range l.length).find? fun j => decide (rd l (j : Int) = (s : Int) ∧ cv l j = b)
theorem fnd_some {l : List Int} {s b j : Nat} (h : fnd l s b = some j) : j < l.length ∧ rd l (j : Int) = (s : Int) ∧ cv l j = b := by
  unfold fnd at h
  have h1 := List.find?_some h
  have h2 := List.mem_of_find?_eq_some h
  simp only [decide_eq_true_eq] at h1
  exact ⟨List.mem_range.1 h2, h1.1, h1.2⟩
theorem fnd_none {l : List Int} {s b : Nat} (h : fnd l s b = none) (j : Nat) (hj : j < l.length) : ¬ (rd l (j : Int) = (s : Int) ∧ cv l j = b) := by
  unfold fnd at h
  rw [List.find?_eq_none] at h
  have := h j (List.mem_range.2 hj)
  simpa using this
/-- What is read from a place on, s bits having been read already. -/
def sy (l : List Int) (bs : List Int) (p : Int) : Nat → Nat → Nat → Int × Int × Int
  | 0, _, _ => (0, 0, 8)
  | m + 1, s, b => if W l 15 ≤ b * 2 ^ (15 - s) then (0, 0, 8) else if 8 * (bs.length : Int) ≤ p + (s : Int) then (0, 0, 7) else
    match fnd l (s + 1) (2 * b + bitAt bs (p + (s : Int)).toNat) with
    | some j => ((j : Int), ((s + 1 : Nat) : Int), 0)
    | none => sy l bs p m (s + 1) (2 * b + bitAt bs (p + (s : Int)).toNat)
/-- So far no code has been read. -/
def NoC (l : List Int) (s b : Nat) : Prop := b < 2 ^ s ∧ ∀ (j n : Nat), j < l.length → rd l (j : Int) = (n : Int) → 1 ≤ n → n ≤ s → b / 2 ^ (s - n) ≠ cv l j
theorem NoC.step {l : List Int} {s b c : Nat} (h : NoC l s b) (hc : c < 2) (hn : fnd l (s + 1) (2 * b + c) = none) : NoC l (s + 1) (2 * b + c) := by
  refine ⟨by rw [Nat.pow_succ]; have := h.1; omega, fun j n hj hr h1 h2 he => ?_⟩
  rcases Nat.lt_or_ge s n with q | q
  · obtain rfl : n = s + 1 := by omega
    rw [Nat.sub_self, Nat.pow_zero, Nat.div_one] at he
    exact fnd_none hn j hj ⟨hr, he.symm⟩
  · apply h.2 j n hj hr h1 q
    have e3 : 2 ^ (s + 1 - n) = 2 * 2 ^ (s - n) := by rw [show s + 1 - n = (s - n) + 1 from by omega, Nat.pow_succ, Nat.mul_comm]
    rw [e3, ← Nat.div_div_eq_div_mul, show (2 * b + c) / 2 = b from by omega] at he
    exact he
/-- Words below the weight begin with a code. -/
theorem NoC.ext {l : List Int} {s b : Nat} (hs : s ≤ 15) (h : NoC l s b) (hp : b * 2 ^ (15 - s) < W l 15) : ∃ j n, j < l.length ∧ rd l (j : Int) = ((n : Nat) : Int) ∧ s < n ∧ n ≤ 15 ∧ cv l j / 2 ^ (n - s) = b := by
  obtain ⟨j, n, hj, hr, h1, h2, h3, h4⟩ := cover l _ hp
  have e1 : S l j = cv l j * 2 ^ (15 - n) := by rw [S_st l j n hr, st_cv l j n hr]
  rw [e1] at h3 h4
  rcases Nat.lt_or_ge s n with q | q
  · have e2 : 2 ^ (15 - s) = 2 ^ (n - s) * 2 ^ (15 - n) := by rw [← Nat.pow_add]; congr 1; omega
    have hpos : 0 < 2 ^ (15 - n) := Nat.pow_pos (by decide)
    rw [e2, ← Nat.mul_assoc] at h3 h4
    have a := Nat.le_of_mul_le_mul_right h3 hpos
    have b' : b * 2 ^ (n - s) * 2 ^ (15 - n) < (cv l j + 1) * 2 ^ (15 - n) := by rw [Nat.add_mul, Nat.one_mul]; exact h4
    have c := Nat.lt_of_mul_lt_mul_right b'
    have d : cv l j = b * 2 ^ (n - s) := by omega
    exact ⟨j, n, hj, hr, q, h2, by rw [d]; exact Nat.mul_div_cancel _ (Nat.pow_pos (by decide))⟩
  · exfalso
    apply h.2 j n hj hr h1 q
    have e2 : 2 ^ (15 - n) = 2 ^ (s - n) * 2 ^ (15 - s) := by rw [← Nat.pow_add]; congr 1; omega
    have hpos : 0 < 2 ^ (15 - s) := Nat.pow_pos (by decide)
    have hpos2 : 0 < 2 ^ (s - n) := Nat.pow_pos (by decide)
    rw [e2, ← Nat.mul_assoc] at h3 h4
    have a := Nat.le_of_mul_le_mul_right h3 hpos
    have b' : b * 2 ^ (15 - s) < (cv l j + 1) * 2 ^ (s - n) * 2 ^ (15 - s) := by rw [Nat.add_mul, Nat.add_mul, Nat.one_mul]; exact h4
    have c := Nat.lt_of_mul_lt_mul_right b'
    have d1 : cv l j ≤ b / 2 ^ (s - n) := (Nat.le_div_iff_mul_le hpos2).2 a
    have d2 : b / 2 ^ (s - n) < cv l j + 1 := (Nat.div_lt_iff_lt_mul hpos2).2 c
    omega
theorem NoC.full {l : List Int} {b : Nat} (h : NoC l 15 b) : W l 15 ≤ b := by
  rcases Nat.lt_or_ge b (W l 15) with q | q
  · obtain ⟨j, n, _, _, a, b', _⟩ := h.ext (Nat.le_refl _) (by simpa using q)
    omega
  · exact q
theorem bits_le (bs : List Int) (hb : ∀ x ∈ bs, 0 ≤ x ∧ x < 256) (i : Nat) (hi : i / 8 < bs.length) : IntKind.u64.wrap (andI .u8 (shrI .u8 (rd bs ((i / 8 : Nat) : Int)) ((i % 8 : Nat) : Int)) 1) = ((bitAt bs i : Nat) : Int) := by
  have hx := hb _ (List.getElem_mem hi)
  have e0 : rd bs ((i / 8 : Nat) : Int) = (((rd bs ((i / 8 : Nat) : Int)).toNat : Nat) : Int) := by rw [rd_lt hi]; omega
  have hlt : (rd bs ((i / 8 : Nat) : Int)).toNat < 256 := by rw [rd_lt hi]; omega
  unfold bitAt
  generalize (rd bs ((i / 8 : Nat) : Int)).toNat = x at *
  rw [e0, shrN .u8 x (i % 8) (by show i % 8 ≤ 8; omega)]
  have hd : x / 2 ^ (i % 8) ≤ x := Nat.div_le_self _ _
  rw [show (1 : Int) = ((1 : Nat) : Int) from rfl, and8 _ 1 (by omega) (by decide), Nat.and_one_is_mod, wu64]
  omega
theorem l55 (l bs : List Int) (hb : badL l = 0) (hbs : bs.length ≤ 140737488351232) (hby : ∀ x ∈ bs, 0 ≤ x ∧ x < 256) (p : Int) (hp0 : 0 ≤ p) (hp1 : p ≤ 9223372036854775807) (es : List (S88 × Int)) (ht : TabOk l es l.length) :
    ∀ (m k s b : Nat), s + m = 16 → m < k → s ≤ 15 → NoC l s b → F55.l0 (S136.mk es (wgt l)) bs p k (S88.mk (s : Nat) (b : Nat)) = some (sy l bs p m s b)
  | m, 0, _, _, _, h, _, _ => by omega
  | 0, k + 1, s, b, h, hk, h15, hn => by omega
  | m + 1, k + 1, s, b, h, hk, h15, hn => by
    obtain ⟨ho, hw, h5⟩ := badL_ok hb
    have hW := W_wgt l ho
    have hb2 := hn.1
    have hs2 : 2 ^ s ≤ 2 ^ 15 := Nat.pow_le_pow_right (by decide) h15
    have e2 : 2 ^ s * 2 ^ (15 - s) = 2 ^ 15 := by rw [← Nat.pow_add]; congr 1; omega
    have hbs2 : b * 2 ^ (15 - s) < 2 ^ 15 := by rw [← e2]; exact Nat.mul_lt_mul_of_pos_right hb2 (Nat.pow_pos (by decide))
    have esh : shlI .u64 (b : Int) (IntKind.u64.wrap (IntKind.i64.wrap (15 - (s : Int)))) = ((b * 2 ^ (15 - s) : Nat) : Int) := by
      rw [uw s h15]
      show IntKind.u64.wrap ((b : Int) * 2 ^ (min (Int.toNat ((15 - s : Nat) : Int)) 64)) = _
      rw [Int.toNat_natCast, show min (15 - s) 64 = 15 - s by omega]
      have : ((b : Int) * 2 ^ (15 - s)) = ((b * 2 ^ (15 - s) : Nat) : Int) := by simp
      rw [this, wu64, Int.emod_eq_of_lt (by omega) (by omega)]
    have e8 : IntKind.i64.wrap (8 * (bs.length : Int)) = 8 * (bs.length : Int) := w64 (by omega) (by omega)
    rw [F55.l0, sy, if_pos (uw0 _)]
    simp only [esh, e8, lt]
    have hge : (((b * 2 ^ (15 - s) : Nat) : Int) ≥ wgt l) ↔ W l 15 ≤ b * 2 ^ (15 - s) := by rw [← hW]; omega
    simp only [hge]
    by_cases hf : W l 15 ≤ b * 2 ^ (15 - s)
    · rw [if_pos hf, if_pos hf]
    · rw [if_neg hf, if_neg hf]
      have hs15 : s < 15 := by
        rcases Nat.lt_or_ge s 15 with q | q
        · exact q
        · obtain rfl : s = 15 := by omega
          have := hn.full
          rw [Nat.sub_self, Nat.pow_zero, Nat.mul_one] at hf; omega
      by_cases hsh : 8 * (bs.length : Int) ≤ p + (s : Int)
      · rw [if_pos hsh]
        by_cases hp8 : p > 8 * (bs.length : Int)
        · rw [decide_eq_true hp8]; rfl
        · have ew : IntKind.i64.wrap (p + (s : Int)) = p + (s : Int) := w64 (by omega) (by omega)
          rw [ew, decide_eq_true (show p + (s : Int) ≥ 8 * (bs.length : Int) by omega), Bool.or_true]; rfl
      · rw [if_neg hsh]
        have ew : IntKind.i64.wrap (p + (s : Int)) = p + (s : Int) := w64 (by omega) (by omega)
        obtain ⟨i, hi⟩ : ∃ i : Nat, p + (s : Int) = (i : Int) := ⟨(p + (s : Int)).toNat, by omega⟩
        rw [ew, decide_eq_false (show ¬ p > 8 * (bs.length : Int) by omega), decide_eq_false (show ¬ p + (s : Int) ≥ 8 * (bs.length : Int) by omega), hi, Int.toNat_natCast]
        have hi8 : i / 8 < bs.length := by omega
        have ed : ((i : Int)).tdiv 8 = ((i / 8 : Nat) : Int) := by rw [Int.tdiv_eq_ediv_of_nonneg (by omega)]; omega
        have em : ((i : Int)).tmod 8 = ((i % 8 : Nat) : Int) := by rw [Int.tmod_eq_emod_of_nonneg (by omega)]; omega
        have ew2 : IntKind.i64.wrap ((i / 8 : Nat) : Int) = ((i / 8 : Nat) : Int) := w64 (by omega) (by omega)
        have ew3 : IntKind.u64.wrap ((i % 8 : Nat) : Int) = ((i % 8 : Nat) : Int) := by rw [wu64, Int.emod_eq_of_lt (by omega) (by omega)]
        have ew4 : IntKind.i64.wrap ((s : Int) + 1) = ((s + 1 : Nat) : Int) := by rw [w64 (by omega) (by omega)]; rfl
        have ebit := bits_le bs hby i hi8
        have hbit : bitAt bs i < 2 := Nat.mod_lt _ (by decide)
        simp only [Bool.or_self, Bool.false_eq_true, if_false, ed, em, ew2, ew3, ew4, ebit, push b (bitAt bs i) (by omega) hbit]
        rw [if_pos (by omega), if_pos (by omega)]
        cases hfn : fnd l (s + 1) (2 * b + bitAt bs i) with
        | some j =>
          obtain ⟨hj, hr, hc⟩ := fnd_some hfn
          have hg := ht.b j hj (by omega)
          rw [cd_pos l ho j hj (by omega), hr, hc] at hg
          rw [hg]; rfl
        | none =>
          have hg : mapGet es (S88.mk ((s + 1 : Nat) : Int) ((2 * b + bitAt bs i : Nat) : Int)) = none := by
            cases hq : mapGet es (S88.mk ((s + 1 : Nat) : Int) ((2 * b + bitAt bs i : Nat) : Int)) with
            | none => rfl
            | some v =>
              exfalso
              obtain ⟨j, hj, h1, h2, _⟩ := ht.a _ _ hq
              rw [cd_pos l ho j hj h1, S88.mk.injEq] at h2
              exact fnd_none hfn j hj ⟨h2.1, by omega⟩
          rw [hg]
          have ih := l55 l bs hb hbs hby p hp0 hp1 es ht m k (s + 1) (2 * b + bitAt bs i) (by omega) (by omega) (by omega) (hn.step hbit hfn)
          rw [← ih]; rfl
theorem NoC.zero (l : List Int) : NoC l 0 0 := ⟨by simp, fun j n _ _ h1 h2 => by omega⟩
/-- What the program reads. -/
def symE (l bs : List Int) (p : Int) : Int × Int × Int := if badL l = 2 ∨ p < 0 then (0, 0, 2) else if badL l = 4 then (0, 0, 4) else sy l bs p 16 0 0
theorem f24 (l bs : List Int) (hl : l.length ≤ 17592186043904) (hbs : bs.length ≤ 140737488351232) (hby : ∀ x ∈ bs, 0 ≤ x ∧ x < 256) (p : Int) (hp1 : p ≤ 9223372036854775807) (k : Nat) (hk : l.length + 600 < k) : F24.f k l bs p = some (symE l bs p) := by
  unfold F24.f symE
  rw [f52 15 l (by omega) k (by omega)]
  simp only [Option.bind_some, lt]
  cases ho : okIn 15 l
  · have : badL l = 2 := by unfold badL; rw [if_neg (by rw [ho]; simp)]
    simp [this]
  · rw [f53 l (by omega) ho k (by omega)]
    simp only [Option.bind_some, Bool.not_true, Bool.false_eq_true, if_false]
    by_cases hw : wgt l ≤ 32768
    · rw [decide_eq_false (show ¬ wgt l > 32768 by omega), Bool.false_or]
      have hb2 : badL l ≠ 2 := by unfold badL; rw [if_pos ⟨ho, hw⟩]; split <;> decide
      by_cases hp : p < 0
      · rw [decide_eq_true hp, if_pos (Or.inr hp)]; rfl
      · rw [decide_eq_false hp, if_neg (show ¬ (badL l = 2 ∨ p < 0) from fun q => q.elim hb2 hp)]
        by_cases h5 : l.length > 512
        · have hb4 : badL l = 4 := by unfold badL; rw [if_pos ⟨ho, hw⟩, if_pos h5]
          have h54 : F54.f k l = some (none, 4) := by
            unfold F54.f
            rw [f47 l (by omega) k (by omega), hb4]; rfl
          rw [h54, if_pos hb4]; rfl
        · have hb0 : badL l = 0 := by unfold badL; rw [if_pos ⟨ho, hw⟩, if_neg h5]
          obtain ⟨es, h54, ht⟩ := f54 l hb0 k hk
          have h55 := l55 l bs hb0 hbs hby p (by omega) hp1 es ht 16 k 0 0 rfl (by omega) (by omega) (NoC.zero l)
          rw [h54, if_neg (show ¬ badL l = 4 by rw [hb0]; decide)]
          have e55 : F55.f k (S136.mk es (wgt l)) bs p = some (sy l bs p 16 0 0) := h55
          simp only [Option.bind_some, ptrC, e55]
          rfl
    · rw [decide_eq_true (show wgt l > 32768 by omega), Bool.true_or]
      have : badL l = 2 := by unfold badL; rw [if_neg (fun q => hw q.2)]
      simp [this]
end Go.Proofs.Ytocjoegcfojjhaa.HdTh

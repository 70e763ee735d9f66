/- The plain law of HuffCodes: what the walked functions compute answers as the statement says. -/
import Derived.Test.YtocjoegcfojjhaaHdSym
namespace Go.Proofs.Ytocjoegcfojjhaa.HdPure
open Go Go.RowKit Go.Proofs.Ytocjoegcfojjhaa.SL Go.Proofs.Ytocjoegcfojjhaa.Hd Go.Proofs.Ytocjoegcfojjhaa.HdTh
set_option linter.unusedVariables false
set_option linter.unusedSimpArgs false

theorem l23 (l : List Int) (hl : l.length ≤ 17592186043904) : ∀ (n k : Nat) (a : Int) (i : Nat), i + n = l.length → n < k → 0 ≤ a → a ≤ 16384 * i → F23.l0 l k a (i : Int) = some (if okIn 15 (l.drop i) = true then Out.go (a + wgt (l.drop i)) else Out.ret (0, 2))
  | n, 0, _, _, _, h, _, _ => by omega
  | 0, k + 1, a, i, h, hk, _, _ => by rw [F23.l0, if_neg (by omega), List.drop_of_length_le (by omega)]; simp [wgt, okIn_nil]
  | n + 1, k + 1, a, i, h, hk, h0, h1 => by
    have hi : i < l.length := by omega
    have ew : IntKind.i64.wrap ((i : Int) + 1) = ((i + 1 : Nat) : Int) := by rw [w64 (by omega) (by omega)]; rfl
    have hb : 0 ≤ (i : Int) ∧ (i : Int) < (l.length : Int) := by omega
    have hw := w1_le l[i]
    rw [F23.l0, if_pos (by omega), if_pos hb, ew, rd_lt hi, List.drop_eq_getElem_cons hi, okIn_cons]
    simp only [lt, wgt, if_pos hb]
    by_cases hn : l[i] < 0
    · have e2 : decide (0 ≤ l[i]) = false := decide_eq_false (by omega)
      rw [if_pos hn, e2]; simp
    · have e2 : decide (0 ≤ l[i]) = true := decide_eq_true (by omega)
      rw [if_neg hn, e2]
      by_cases hg : l[i] > 15
      · have e3 : decide (l[i] ≤ 15) = false := decide_eq_false (by omega)
        rw [e3, decide_eq_true hg]; simp
      · have e3 : decide (l[i] ≤ 15) = true := decide_eq_true (by omega)
        rw [e3, decide_eq_false hg]
        simp only [Option.bind_some, Bool.false_eq_true, if_false, Bool.true_and]
        by_cases hp : l[i] > 0
        · obtain ⟨m, hm⟩ : ∃ m : Nat, l[i] = (m : Int) := ⟨l[i].toNat, by omega⟩
          have e1 : w1 l[i] = ((2 ^ (15 - m) : Nat) : Int) := by unfold w1; rw [if_pos hp, hm]; rfl
          rw [if_pos hp, if_pos (uw0 _), hm, sl15 m (by omega) (by omega), ← e1, w64 (by omega) (by omega), l23 l hl n k _ (i + 1) (by omega) (by omega) (by omega) (by omega)]
          rw [← hm, Int.add_assoc]
        · have e1 : w1 l[i] = 0 := by unfold w1; rw [if_neg hp]
          rw [if_neg hp, l23 l hl n k _ (i + 1) (by omega) (by omega) (by omega) (by omega), e1, Int.zero_add]
theorem f23 (l : List Int) (hl : l.length ≤ 17592186043904) (k : Nat) (hk : l.length < k) : F23.f k l = some (if okIn 15 l = true then (if l.length > 512 then (0, 4) else (wgt l, 0)) else (0, 2)) := by
  have h := l23 l hl l.length k 0 0 (by omega) hk (by omega) (by omega)
  rw [show ((0 : Nat) : Int) = 0 from rfl, List.drop_zero] at h
  unfold F23.f
  rw [h]
  have e : ((l.length : Int) > 512) ↔ l.length > 512 := by omega
  simp only [e]
  cases okIn 15 l
  · simp [el_r]
  · by_cases hh : l.length > 512 <;> simp [el_g, hh]
theorem l43 (l : List Int) (hl : l.length ≤ 17592186043904) (ho : okIn 15 l = true) : ∀ (n k : Nat) (a : Int) (i : Nat), i + n = l.length → n < k → 0 ≤ a → a ≤ 16384 * i → F43.l0 l k a (i : Int) = some (a + wgt (l.drop i))
  | n, 0, _, _, _, h, _, _ => by omega
  | 0, k + 1, a, i, h, hk, _, _ => by rw [F43.l0, if_neg (by omega), List.drop_of_length_le (by omega)]; simp [wgt]
  | n + 1, k + 1, a, i, h, hk, h0, h1 => by
    have hi : i < l.length := by omega
    have ew : IntKind.i64.wrap ((i : Int) + 1) = ((i + 1 : Nat) : Int) := by rw [w64 (by omega) (by omega)]; rfl
    have hb : 0 ≤ (i : Int) ∧ (i : Int) < (l.length : Int) := by omega
    have hr := List.all_eq_true.1 ho l[i] (List.getElem_mem hi)
    simp only [Bool.and_eq_true, decide_eq_true_eq] at hr
    rw [F43.l0, if_pos (by omega), if_pos hb, ew, rd_lt hi, List.drop_eq_getElem_cons hi]
    simp only [lt, wgt, if_pos hb]
    have hw := w1_le l[i]
    by_cases hp : l[i] > 0
    · obtain ⟨m, hm⟩ : ∃ m : Nat, l[i] = (m : Int) := ⟨l[i].toNat, by omega⟩
      have e1 : w1 l[i] = ((2 ^ (15 - m) : Nat) : Int) := by unfold w1; rw [if_pos hp, hm]; rfl
      rw [if_pos hp, if_pos (uw0 _), hm, sl15 m (by omega) (by omega), ← e1, w64 (by omega) (by omega), l43 l hl ho n k _ (i + 1) (by omega) (by omega) (by omega) (by omega)]
      rw [← hm]; congr 1; omega
    · have e1 : w1 l[i] = 0 := by unfold w1; rw [if_neg hp]
      rw [if_neg hp, l43 l hl ho n k _ (i + 1) (by omega) (by omega) (by omega) (by omega), e1]
      congr 1; omega
theorem f43 (l : List Int) (hl : l.length ≤ 17592186043904) (k : Nat) (hk : l.length < k) : F43.f k l = some (badL l) := by
  unfold F43.f badL
  rw [f23 l hl k hk]
  simp only [Option.bind_some, lt]
  cases ho : okIn 15 l
  · simp
  · have h := l43 l hl ho l.length k 0 0 (by omega) hk (by omega) (by omega)
    rw [show ((0 : Nat) : Int) = 0 from rfl, List.drop_zero, Int.zero_add] at h
    by_cases hh : l.length > 512
    · by_cases hw : wgt l ≤ 32768
      · have hw2 : ¬ wgt l > 32768 := by omega
        simp [hh, h, hw, hw2]
      · have hw2 : wgt l > 32768 := by omega
        simp [hh, h, hw, hw2]
    · by_cases hw : wgt l ≤ 32768
      · have hw2 : ¬ wgt l > 32768 := by omega
        simp [hh, hw, hw2]
      · have hw2 : wgt l > 32768 := by omega
        simp [hh, hw, hw2]


/-! ### the document's codes -/
theorem l50a (l : List Int) (hl : l.length ≤ 17592186043904) (ho : okIn 15 l = true) (hw : W l 15 ≤ 32768) (n : Nat) (hn1 : 1 ≤ n) (hn2 : n ≤ 15) : ∀ (m k : Nat) (i : Nat), i + m = l.length → m < k →
    F50.l1 l (n : Int) k ((List.range l.length).map fun j => hd l (if j < i then n else n - 1) j) ((st l n i : Nat) : Int) (i : Int) = some ((List.range l.length).map (hd l n), ((st l n l.length : Nat) : Int))
  | m, 0, _, _, h => by omega
  | 0, k + 1, i, h, hk => by
    rw [F50.l1, if_neg (by omega)]
    obtain rfl : i = l.length := by omega
    congr 2
    exact mapcongr fun j hj => by rw [if_pos hj]
  | m + 1, k + 1, i, h, hk => by
    have hi : i < l.length := by omega
    have ew : IntKind.i64.wrap ((i : Int) + 1) = ((i + 1 : Nat) : Int) := by rw [w64 (by omega) (by omega)]; rfl
    have hs := st_step l n i hi
    have hmono := W_mono l hn2
    have ih := l50a l hl ho hw n hn1 hn2 m k (i + 1) (by omega) (by omega)
    rw [F50.l1, if_pos (by omega), if_pos (by omega), ew, rd_lt hi]
    simp only [lt]
    by_cases he : l[i] = (n : Int)
    · have hlt := st_lt l n i hn1 hn2 hi he
      rw [if_pos he] at hs
      rw [if_pos he, if_pos (uw0 _), if_pos (by simp; omega), if_pos (uw0 _), sl15 n hn2 hn1, uw n hn2]
      have e1 : shrI .i64 ((st l n i : Nat) : Int) ((15 - n : Nat) : Int) = ((cv l i : Nat) : Int) := by
        rw [st_cv l i n (by rw [rd_lt hi]; exact he)]
        exact shr15 .i64 _ (15 - n) (by omega) (by decide)
      have e2 : IntKind.i64.wrap (((st l n i : Nat) : Int) + ((2 ^ (15 - n) : Nat) : Int)) = ((st l n (i + 1) : Nat) : Int) := by
        generalize 2 ^ (15 - n) = q at *
        rw [w64 (by omega) (by omega), hs]; simp
      rw [e1, e2, Int.toNat_natCast, setmap, ← ih]
      congr 1
      refine mapcongr fun j hj => ?_
      by_cases hji : j = i
      · subst hji
        rw [if_pos rfl, if_pos (by omega)]
        unfold hd
        rw [rd_lt hi, if_pos (by omega)]
      · rw [if_neg hji]
        by_cases hlt2 : j < i
        · rw [if_pos hlt2, if_pos (by omega)]
        · rw [if_neg hlt2, if_neg (by omega)]
    · rw [if_neg he] at hs ⊢
      rw [hs, Nat.add_zero] at ih
      rw [← ih]
      congr 1
      refine mapcongr fun j hj => ?_
      by_cases hji : j = i
      · subst hji
        rw [if_neg (by omega), if_pos (by omega)]
        unfold hd
        rw [rd_lt hi]
        have : (1 ≤ l[j] ∧ l[j] ≤ ((n - 1 : Nat) : Int)) ↔ (1 ≤ l[j] ∧ l[j] ≤ (n : Int)) := by omega
        simp only [this]
      · by_cases hlt2 : j < i
        · rw [if_pos hlt2, if_pos (by omega)]
        · rw [if_neg hlt2, if_neg (by omega)]
theorem l50b (l : List Int) (hl : l.length ≤ 17592186043904) (ho : okIn 15 l = true) (hw : W l 15 ≤ 32768) : ∀ (m k : Nat) (n : Nat), n + m = 16 → 1 ≤ n → m + l.length < k →
    F50.l0 l k ((List.range l.length).map (hd l (n - 1))) ((W l (n - 1) : Nat) : Int) (n : Int) = some ((List.range l.length).map (hd l 15))
  | m, 0, _, _, _, h => by omega
  | 0, k + 1, n, h, h1, hk => by
    rw [F50.l0, if_neg (by omega)]
    obtain rfl : n = 16 := by omega
    rfl
  | m + 1, k + 1, n, h, h1, hk => by
    have ew : IntKind.i64.wrap ((n : Int) + 1) = ((n + 1 : Nat) : Int) := by rw [w64 (by omega) (by omega)]; rfl
    have ih := l50b l hl ho hw m k (n + 1) (by omega) (by omega) (by omega)
    obtain ⟨q, rfl⟩ : ∃ q, n = q + 1 := ⟨n - 1, by omega⟩
    have ha := l50a l hl ho hw (q + 1) (by omega) (by omega) l.length k 0 (by omega) (by omega)
    rw [st_zero l q (by omega), st_end l (q + 1) (by omega) (by omega)] at ha
    have e0 : ((List.range l.length).map fun j => hd l (if j < 0 then q + 1 else q + 1 - 1) j) = (List.range l.length).map (hd l (q + 1 - 1)) := mapcongr fun j _ => by rw [if_neg (by omega)]
    rw [e0] at ha
    rw [F50.l0, if_pos (by omega), show ((0 : Int)) = ((0 : Nat) : Int) from rfl]
    simp only [Nat.add_sub_cancel] at ha ih ⊢
    rw [ha]
    simp only [Option.bind_some, lt]
    rw [ew]
    exact ih
theorem f50 (l : List Int) (hl : l.length ≤ 8796093022208) (ho : okIn 15 l = true) (hw : wgt l ≤ 32768) (k : Nat) (hk : l.length + 16 < k) : F50.f k l = some ((List.range l.length).map (hd l 15)) := by
  have hW := W_wgt l ho
  have h := l50b l (by omega) ho (by omega) 15 k 1 rfl (by omega) (by omega)
  unfold F50.f
  rw [if_pos (by omega)]
  simp only [lt, Int.toNat_natCast]
  have e0 : (List.range l.length).map (hd l (1 - 1)) = List.replicate l.length (0 : Int) := by
    have : (List.range l.length).map (hd l (1 - 1)) = (List.range l.length).map (fun _ => (0 : Int)) := mapcongr fun j _ => by unfold hd; rw [if_neg (by omega)]
    rw [this, List.map_const', List.length_range]
  rw [e0] at h
  rw [show ((1 : Nat) : Int) = 1 from rfl, show ((W l (1 - 1) : Nat) : Int) = 0 from rfl] at h
  rw [h]; rfl
theorem l51 (v s : Nat) (hv : v < 2 ^ 15) (hs : s ≤ 15) : ∀ (n k i : Nat), i + n = s → n < k → F51.l0 (S52.mk (v : Nat) (s : Nat)) k ((rv v i : Nat) : Int) (i : Int) = some ((rv v s : Nat) : Int)
  | n, 0, i, _, h => by omega
  | 0, k + 1, i, h, hk => by
    obtain rfl : i = s := by omega
    rw [F51.l0, if_neg (by show ¬ ((i : Int) < (i : Int)); omega)]
  | n + 1, k + 1, i, h, hk => by
    have ew : IntKind.i64.wrap ((i : Int) + 1) = ((i + 1 : Nat) : Int) := by rw [w64 (by omega) (by omega)]; rfl
    have eu : IntKind.u64.wrap (i : Int) = (i : Int) := by rw [wu64, Int.emod_eq_of_lt (by omega) (by omega)]
    have hr := rv_lt v i
    have hp : 2 ^ i ≤ 2 ^ 15 := Nat.pow_le_pow_right (by decide) (by omega)
    have hdv : v / 2 ^ i ≤ v := Nat.div_le_self _ _
    have e2 : orI .u64 (shlI .u64 ((rv v i : Nat) : Int) 1) (andI .u64 (shrI .u64 (v : Int) (i : Int)) 1) = ((rv v (i + 1) : Nat) : Int) := by
      rw [shrN .u64 v i (by show i ≤ 64; omega), bit64 _ (by omega), push _ _ (by omega) (Nat.mod_lt _ (by decide))]; rfl
    rw [F51.l0, if_pos (by show (i : Int) < (s : Int); omega), if_pos (uw0 _)]
    simp only [lt, ew, eu, e2]
    exact l51 v s hv hs n k (i + 1) (by omega) (by omega)
theorem f80 (v s : Nat) (hv : v < 2 ^ s) (hs : s ≤ 15) : F80.f (S52.mk (v : Nat) (s : Nat)) = some true := by
  have e : IntKind.u64.wrap (s : Int) = (s : Int) := by rw [wu64, Int.emod_eq_of_lt (by omega) (by omega)]
  have e2 : shrI .u64 (v : Int) (s : Int) = 0 := by rw [shrN .u64 v s (by show s ≤ 64; omega), Nat.div_eq_of_lt hv]; rfl
  have h1 : (decide ((s : Int) ≥ 0) && decide ((s : Int) ≤ 64)) = true := by simp; omega
  unfold F80.f
  simp only [lt, h1, if_true]
  rw [if_neg (by omega), if_pos (uw0 _), e, e2]; rfl
theorem f51 (v s : Nat) (hv : v < 2 ^ s) (hs : s ≤ 15) (k : Nat) (hk : 16 < k) : F51.f k (S52.mk (v : Nat) (s : Nat)) = some (S52.mk ((rv v s : Nat) : Int) (s : Nat), 0) := by
  have hp : 2 ^ s ≤ 2 ^ 15 := Nat.pow_le_pow_right (by decide) hs
  have h := l51 v s (by omega) hs s k 0 (by omega) (by omega)
  have h' : F51.l0 (S52.mk (v : Nat) (s : Nat)) k 0 0 = some ((rv v s : Nat) : Int) := h
  unfold F51.f
  rw [f80 v s hv hs]
  simp only [Option.bind_some, Bool.not_true, Bool.false_eq_true, if_false, h']
theorem l21 (l : List Int) (hl : l.length ≤ 512) (ho : okIn 15 l = true) (hw : W l 15 ≤ 32768) : ∀ (n k : Nat) (acc : List S52) (i : Nat), i + n = l.length → n + 17 < k → acc.length = i →
    F21.l0 l ((List.range l.length).map (hd l 15)) k acc (i : Int) = some (acc ++ ((List.range l.length).map (bt l)).drop i)
  | n, 0, _, _, _, h, _ => by omega
  | 0, k + 1, acc, i, h, hk, _ => by
    rw [F21.l0, if_neg (by omega), List.drop_of_length_le (by simp; omega), List.append_nil]
  | n + 1, k + 1, acc, i, h, hk, ha => by
    have hi : i < l.length := by omega
    have hb : 0 ≤ (i : Int) ∧ (i : Int) < (l.length : Int) := by omega
    have hb2 : 0 ≤ (i : Int) ∧ (i : Int) < (((List.range l.length).map (hd l 15)).length : Int) := by simp; omega
    have ew : IntKind.i64.wrap ((i : Int) + 1) = ((i + 1 : Nat) : Int) := by rw [w64 (by omega) (by omega)]; rfl
    obtain ⟨q, hq, q15⟩ := rdNat l ho i hi
    have e : (if rd l (i : Int) > 0 then (if 0 ≤ (i : Int) ∧ (i : Int) < (((List.range l.length).map (hd l 15)).length : Int) then (if 0 ≤ (i : Int) ∧ (i : Int) < (l.length : Int) then ((F51.f k (S52.mk (IntKind.u64.wrap (rd ((List.range l.length).map (hd l 15)) (i : Int))) (rd l (i : Int)))).bind fun r => some r.1) else none) else none) else some (S52.mk 0 (rd l (i : Int))) : Option S52) = some (bt l i) := by
      rw [rdmap _ _ _ hi]
      by_cases h1 : 1 ≤ q
      · rw [if_pos (by omega), if_pos hb2, if_pos hb]
        have eh : hd l 15 i = ((cv l i : Nat) : Int) := by unfold hd; rw [if_pos (by omega)]
        have hc := cv_lt l hw i q hi hq h1 q15
        have hp : 2 ^ q ≤ 2 ^ 15 := Nat.pow_le_pow_right (by decide) q15
        have eu : IntKind.u64.wrap ((cv l i : Nat) : Int) = ((cv l i : Nat) : Int) := by rw [wu64, Int.emod_eq_of_lt (by omega) (by omega)]
        rw [eh, eu, hq, f51 (cv l i) q hc q15 k (by omega)]
        unfold bt
        rw [hq, if_pos (by omega)]; rfl
      · rw [if_neg (by omega)]
        unfold bt
        rw [if_neg (by omega), hq, show q = 0 by omega]; rfl
    rw [F21.l0, if_pos (by omega), if_pos hb, if_pos hb, e, drop_range _ _ _ hi]
    simp only [Option.bind_some, lt, ew]
    rw [if_pos (by simp; omega), l21 l hl ho hw n k _ (i + 1) (by omega) (by omega) (by simp; omega)]
    simp
theorem f21 (l : List Int) (hl : l.length ≤ 17592186043904) (k : Nat) (hk : l.length + 600 < k) : F21.f k l = some (if badL l = 0 then ((List.range l.length).map (bt l), 0) else ([], badL l)) := by
  unfold F21.f
  rw [f43 l hl k (by omega)]
  simp only [Option.bind_some]
  by_cases hb : badL l = 0
  · rw [if_neg (by omega), if_pos hb]
    obtain ⟨ho, hw, h5⟩ := badL_ok hb
    have hW := W_wgt l ho
    have h := l21 l h5 ho (by omega) l.length k [] 0 (by omega) (by omega) rfl
    rw [show ((0 : Nat) : Int) = 0 from rfl, List.drop_zero, List.nil_append] at h
    rw [f50 l (by omega) ho hw k (by omega)]
    simp only [Option.bind_some, h]
  · rw [if_pos hb, if_neg hb]
theorem l26 (a : List S52) (ha : a.length ≤ 512) : ∀ (n k i : Nat), i + n = a.length → n < k → F26.l0 a a k (i : Int) = some (Out.go ())
  | n, 0, i, _, h => by omega
  | 0, k + 1, i, h, hk => by rw [F26.l0, if_neg (by omega)]
  | n + 1, k + 1, i, h, hk => by
    have ew : IntKind.i64.wrap ((i : Int) + 1) = ((i + 1 : Nat) : Int) := by rw [w64 (by omega) (by omega)]; rfl
    have hb : 0 ≤ (i : Int) ∧ (i : Int) < (a.length : Int) := by omega
    rw [F26.l0, if_pos (by omega), if_pos hb, if_pos hb, if_neg (by simp)]
    simp only [lt, ew]
    exact l26 a ha n k (i + 1) (by omega) (by omega)
theorem f26 (a : List S52) (ha : a.length ≤ 512) (k : Nat) (hk : 600 < k) : F26.f k a a = some true := by
  have h := l26 a ha a.length k 0 (by omega) (by omega)
  rw [show ((0 : Nat) : Int) = 0 from rfl] at h
  unfold F26.f
  rw [if_neg (by simp), h]; rfl

/-! ### the document's reading -/
/-- Symbol j's code begins with these s bits. -/
def pre (l : List Int) (s b j : Nat) : Bool := decide (1 ≤ rd l (j : Int)) && decide ((s : Int) ≤ rd l (j : Int)) && decide (cv l j / 2 ^ ((rd l (j : Int)).toNat - s) = b)
theorem t25 (l : List Int) (ho : okIn 15 l = true) (hw : W l 15 ≤ 32768) (s b i : Nat) (hi : i < l.length) (hs : s ≤ 15) :
    (if 0 ≤ (i : Int) ∧ (i : Int) < (l.length : Int) then (if (rd l (i : Int)) = 0 then (if true = true then (some true) else (if 0 ≤ (i : Int) ∧ (i : Int) < (((List.range l.length).map (hd l 15)).length : Int) then (if 0 ≤ (i : Int) ∧ (i : Int) < (l.length : Int) then (if 0 ≤ (IntKind.u64.wrap (IntKind.i64.wrap ((rd l (i : Int)) - (s : Int)))) then (some (decide ((shrI .i64 (rd ((List.range l.length).map (hd l 15)) (i : Int)) (IntKind.u64.wrap (IntKind.i64.wrap ((rd l (i : Int)) - (s : Int))))) ≠ (b : Int)))) else none) else none) else none)) else (if 0 ≤ (i : Int) ∧ (i : Int) < (l.length : Int) then (if (rd l (i : Int)) < (s : Int) then (some true) else (if 0 ≤ (i : Int) ∧ (i : Int) < (((List.range l.length).map (hd l 15)).length : Int) then (if 0 ≤ (i : Int) ∧ (i : Int) < (l.length : Int) then (if 0 ≤ (IntKind.u64.wrap (IntKind.i64.wrap ((rd l (i : Int)) - (s : Int)))) then (some (decide ((shrI .i64 (rd ((List.range l.length).map (hd l 15)) (i : Int)) (IntKind.u64.wrap (IntKind.i64.wrap ((rd l (i : Int)) - (s : Int))))) ≠ (b : Int)))) else none) else none) else none)) else none)) else none : Option (Bool)) = some (!pre l s b i) := by
  have hb : 0 ≤ (i : Int) ∧ (i : Int) < (l.length : Int) := by omega
  have hb2 : 0 ≤ (i : Int) ∧ (i : Int) < (((List.range l.length).map (hd l 15)).length : Int) := by simp; omega
  obtain ⟨q, hq, q15⟩ := rdNat l ho i hi
  rw [if_pos hb, if_pos hb, if_pos hb, if_pos hb2, rdmap _ _ _ hi, if_pos (uw0 _)]
  unfold pre
  rw [hq, Int.toNat_natCast]
  by_cases h0 : q = 0
  · subst h0; rfl
  · rw [if_neg (by omega), decide_eq_true (show 1 ≤ ((q : Nat) : Int) by omega)]
    by_cases hlt : q < s
    · rw [if_pos (by omega), decide_eq_false (show ¬ ((s : Int) ≤ (q : Int)) by omega)]; rfl
    · rw [if_neg (by omega), decide_eq_true (show ((s : Int) ≤ (q : Int)) by omega)]
      have eh : hd l 15 i = ((cv l i : Nat) : Int) := by unfold hd; rw [if_pos (by omega)]
      have eu : IntKind.u64.wrap (IntKind.i64.wrap ((q : Int) - (s : Int))) = ((q - s : Nat) : Int) := by rw [w64 (by omega) (by omega), wu64]; omega
      rw [eh, eu, shrN .i64 _ _ (by show q - s ≤ 64; omega)]
      have : (((cv l i / 2 ^ (q - s) : Nat) : Int) ≠ (b : Int)) ↔ ¬ (cv l i / 2 ^ (q - s) = b) := by omega
      simp only [this, decide_not, Bool.true_and]
theorem ptrC_none {α β : Type} {x : β} {f : α → β} : ptrC none x f = x := rfl
theorem ptrC_some {α β : Type} {a : α} {x : β} {f : α → β} : ptrC (some a) x f = f a := rfl
theorem l25b (l : List Int) (hl : l.length ≤ 512) (ho : okIn 15 l = true) (hw : W l 15 ≤ 32768) (s b : Nat) (hs : s ≤ 15) : ∀ (n k : Nat) (a : Bool) (i : Nat), i + n = l.length → n < k →
    F25.l1 l ((List.range l.length).map (hd l 15)) (b : Int) (s : Int) k a (i : Int) = some (ptrC ((List.range' i n).find? (fun j => pre l s b j && decide (rd l (j : Int) = (s : Int)))) (Out.go (a || (List.range' i n).any (pre l s b))) fun j => Out.ret ((j : Int), (s : Int), 0))
  | n, 0, _, _, _, h => by omega
  | 0, k + 1, a, i, h, hk => by rw [F25.l1, if_neg (by omega)]; simp [ptrC_none]
  | n + 1, k + 1, a, i, h, hk => by
    have hi : i < l.length := by omega
    have hb : 0 ≤ (i : Int) ∧ (i : Int) < (l.length : Int) := by omega
    have ew : IntKind.i64.wrap ((i : Int) + 1) = ((i + 1 : Nat) : Int) := by rw [w64 (by omega) (by omega)]; rfl
    have ih := fun a => l25b l hl ho hw s b hs n k a (i + 1) (by omega) (by omega)
    rw [F25.l1, if_pos (by omega), t25 l ho hw s b i hi hs, if_pos hb]
    simp only [Option.bind_some, lt, ew, ih, List.range'_succ]
    cases hp : pre l s b i
    · rw [List.find?_cons_of_neg (by simp [hp])]
      simp [hp]
    · by_cases he : rd l (i : Int) = (s : Int)
      · rw [List.find?_cons_of_pos (by simp [hp, he]), ptrC_some]
        simp [he]
      · rw [List.find?_cons_of_neg (by simp [hp, he])]
        simp [hp, he]
theorem l56 (bs : List Int) (hby : ∀ x ∈ bs, 0 ≤ x ∧ x < 256) (hbs : bs.length ≤ 140737488351232) (i : Nat) (hi : i / 8 < bs.length) (k : Nat) (hk : 2 < k) : F56.l0 bs (i : Int) 1 k 0 0 = some ((bitAt bs i : Nat) : Int) := by
  obtain ⟨k, rfl⟩ : ∃ j, k = j + 2 := ⟨k - 2, by omega⟩
  have e0 : IntKind.i64.wrap ((i : Int) + 0) = (i : Int) := w64 (by omega) (by omega)
  have ed : ((i : Int)).tdiv 8 = ((i / 8 : Nat) : Int) := by rw [Int.tdiv_eq_ediv_of_nonneg (by omega)]; omega
  have em : ((i : Int)).tmod 8 = ((i % 8 : Nat) : Int) := by rw [Int.tmod_eq_emod_of_nonneg (by omega)]; omega
  have ew2 : IntKind.i64.wrap ((i / 8 : Nat) : Int) = ((i / 8 : Nat) : Int) := w64 (by omega) (by omega)
  have ew3 : IntKind.u64.wrap ((i % 8 : Nat) : Int) = ((i % 8 : Nat) : Int) := by rw [wu64, Int.emod_eq_of_lt (by omega) (by omega)]
  have eu0 : IntKind.u64.wrap (0 : Int) = 0 := by decide
  have hbit : bitAt bs i < 2 := Nat.mod_lt _ (by decide)
  have esh : shlI .u64 ((bitAt bs i : Nat) : Int) 0 = ((bitAt bs i : Nat) : Int) := by
    show IntKind.u64.wrap (((bitAt bs i : Nat) : Int) * 2 ^ (min (Int.toNat 0) 64)) = _
    rw [show min (Int.toNat 0) 64 = 0 from rfl, wu64]; omega
  have eor : orI .u64 (0 : Int) ((bitAt bs i : Nat) : Int) = ((bitAt bs i : Nat) : Int) := by
    rw [show (0 : Int) = ((0 : Nat) : Int) from rfl, or64 0 _ (by decide) (by omega), Nat.zero_or]
  have ei : IntKind.i64.wrap ((0 : Int) + 1) = 1 := by decide
  rw [F56.l0, if_pos (by decide)]
  simp only [e0, ed, em, ew2, ew3, eu0, lt, bits_le bs hby i hi, esh, eor, ei]
  rw [if_pos (by omega), if_pos (by omega), if_pos (by decide), F56.l0, if_neg (by decide)]
theorem exact_code (l : List Int) (ho : okIn 15 l = true) (s b : Nat) (h1 : 1 ≤ s) : ((List.range' 0 l.length).find? (fun j => pre l s b j && decide (rd l (j : Int) = (s : Int)))) = fnd l s b := by
  unfold fnd
  rw [List.range_eq_range']
  congr 1
  funext j
  unfold pre
  by_cases he : rd l (j : Int) = (s : Int)
  · rw [he, Int.toNat_natCast, Nat.sub_self, Nat.pow_zero, Nat.div_one]
    by_cases hc : cv l j = b <;> simp [hc] <;> omega
  · simp [he]
theorem sy_succ (l bs : List Int) (p : Int) (m s b : Nat) : sy l bs p (m + 1) s b = if W l 15 ≤ b * 2 ^ (15 - s) then (0, 0, 8) else if 8 * (bs.length : Int) ≤ p + (s : Int) then (0, 0, 7) else
    ptrC (fnd l (s + 1) (2 * b + bitAt bs (p + (s : Int)).toNat)) (sy l bs p m (s + 1) (2 * b + bitAt bs (p + (s : Int)).toNat)) fun j => ((j : Int), ((s + 1 : Nat) : Int), 0) := by
  rw [sy]
  cases fnd l (s + 1) (2 * b + bitAt bs (p + (s : Int)).toNat) <;> rfl
theorem l25 (l bs : List Int) (hb : badL l = 0) (hbs : bs.length ≤ 140737488351232) (hby : ∀ x ∈ bs, 0 ≤ x ∧ x < 256) (p : Int) (hp0 : 0 ≤ p) (hp1 : p ≤ 9223372036854775807) :
    ∀ (m k s b : Nat), s + m = 16 → m + 600 < k → s ≤ 15 → NoC l s b → F25.l0 l bs p ((List.range l.length).map (hd l 15)) k (b : Nat) (s : Nat) = some (sy l bs p m s b)
  | m, 0, _, _, _, h, _, _ => by omega
  | 0, k + 1, s, b, h, hk, h15, hn => by omega
  | m + 1, k + 1, s, b, h, hk, h15, hn => by
    obtain ⟨ho, hw, h5⟩ := badL_ok hb
    have hW := W_wgt l ho
    have hs2 : 2 ^ s ≤ 2 ^ 15 := Nat.pow_le_pow_right (by decide) h15
    have hb2 := hn.1
    have hscan := l25b l h5 ho (by omega) s b h15 l.length k false 0 (by omega) (by omega)
    rw [show ((0 : Nat) : Int) = 0 from rfl] at hscan
    have hnone : ((List.range' 0 l.length).find? (fun j => pre l s b j && decide (rd l (j : Int) = (s : Int)))) = none := by
      rw [List.find?_eq_none]
      intro j hj
      have hj2 : j < l.length := by simpa using List.mem_range'.1 hj
      simp only [Bool.and_eq_true, decide_eq_true_eq, not_and, Bool.not_eq_true]
      unfold pre
      simp only [Bool.and_eq_true, decide_eq_true_eq]
      rintro ⟨⟨a1, a2⟩, a3⟩ a4
      rw [a4, Int.toNat_natCast, Nat.sub_self, Nat.pow_zero, Nat.div_one] at a3
      refine hn.2 j s hj2 a4 (by omega) (Nat.le_refl _) ?_
      rw [Nat.sub_self, Nat.pow_zero, Nat.div_one]; exact a3.symm
    rw [hnone] at hscan
    simp only [Bool.false_or, ptrC_none] at hscan
    have hany : (List.range' 0 l.length).any (pre l s b) = !decide (W l 15 ≤ b * 2 ^ (15 - s)) := by
      by_cases hf : W l 15 ≤ b * 2 ^ (15 - s)
      · rw [decide_eq_true hf, Bool.not_true, List.any_eq_false]
        intro j hj
        have hj2 : j < l.length := by simpa using List.mem_range'.1 hj
        obtain ⟨n, hnn, n15⟩ := rdNat l ho j hj2
        unfold pre
        rw [hnn, Int.toNat_natCast]
        simp only [Bool.and_eq_true, decide_eq_true_eq]
        rintro ⟨⟨a1, a2⟩, a3⟩
        have c1 := S_end l j n hj2 hnn (by omega) n15
        have c2 := W_mono l n15
        have c3 : S l j = cv l j * 2 ^ (15 - n) := by rw [S_st l j n hnn, st_cv l j n hnn]
        have c4 : b * 2 ^ (n - s) ≤ cv l j := by rw [← a3]; exact Nat.div_mul_le_self _ _
        have c5 : 2 ^ (15 - s) = 2 ^ (n - s) * 2 ^ (15 - n) := by rw [← Nat.pow_add]; congr 1; omega
        have c6 : b * 2 ^ (15 - s) ≤ S l j := by rw [c3, c5, ← Nat.mul_assoc]; exact Nat.mul_le_mul_right _ c4
        have c7 : 0 < 2 ^ (15 - n) := Nat.pow_pos (by decide)
        omega
      · rw [decide_eq_false hf, Bool.not_false, List.any_eq_true]
        obtain ⟨j, n, a1, a2, a3, a4, a5⟩ := hn.ext h15 (by omega)
        refine ⟨j, by simpa using a1, ?_⟩
        unfold pre
        rw [a2, Int.toNat_natCast]
        simp only [Bool.and_eq_true, decide_eq_true_eq]
        exact ⟨⟨by omega, by omega⟩, a5⟩
    rw [F25.l0, hscan, sy_succ, hany]
    simp only [Option.bind_some, el_g, Bool.not_not, decide_eq_true_eq]
    by_cases hf : W l 15 ≤ b * 2 ^ (15 - s)
    · rw [if_pos hf, if_pos hf]
    · rw [if_neg hf, if_neg hf]
      have hs15 : s < 15 := by
        rcases Nat.lt_or_ge s 15 with q | q
        · exact q
        · obtain rfl : s = 15 := by omega
          have := hn.full
          rw [Nat.sub_self, Nat.pow_zero, Nat.mul_one] at hf; omega
      have e8 : IntKind.i64.wrap (8 * (bs.length : Int)) = 8 * (bs.length : Int) := w64 (by omega) (by omega)
      by_cases hsh : 8 * (bs.length : Int) ≤ p + (s : Int)
      · rw [if_pos hsh]
        have hsome : ∃ r, F56.f k bs (IntKind.i64.wrap (p + (s : Int))) 1 = some r ∧ (IntKind.i64.wrap (p + (s : Int)) < 0 ∨ r.2 ≠ 0) := by
          unfold F56.f
          simp only [lt, e8]
          by_cases ho2 : p + (s : Int) ≤ 9223372036854775807
          · have ew : IntKind.i64.wrap (p + (s : Int)) = p + (s : Int) := w64 (by omega) (by omega)
            rw [ew, decide_eq_false (show ¬ p + (s : Int) < 0 by omega)]
            by_cases hgt : p + (s : Int) > 8 * (bs.length : Int)
            · rw [decide_eq_true hgt]
              exact ⟨(0, 7), rfl, Or.inr (by decide)⟩
            · have ew2 : IntKind.i64.wrap (8 * (bs.length : Int) - (p + (s : Int))) = 0 := by rw [w64 (by omega) (by omega)]; omega
              rw [decide_eq_false hgt, ew2]
              exact ⟨(0, 7), rfl, Or.inr (by decide)⟩
          · have ew : IntKind.i64.wrap (p + (s : Int)) < 0 := by rw [IntKind.wrap_i64]; omega
            rw [decide_eq_true ew]
            exact ⟨(0, 2), rfl, Or.inl ew⟩
        obtain ⟨r, h1, h2⟩ := hsome
        rw [h1]
        have h3 : (decide (IntKind.i64.wrap (p + (s : Int)) < 0) || decide (r.2 ≠ 0)) = true := by
          rw [Bool.or_eq_true, decide_eq_true_eq, decide_eq_true_eq]; exact h2
        simp only [Option.bind_some, lt, h3, if_true]
      · rw [if_neg hsh]
        have ew : IntKind.i64.wrap (p + (s : Int)) = p + (s : Int) := w64 (by omega) (by omega)
        obtain ⟨i, hi⟩ : ∃ i : Nat, p + (s : Int) = (i : Int) := ⟨(p + (s : Int)).toNat, by omega⟩
        have hi8 : i / 8 < bs.length := by omega
        have ew2 : IntKind.i64.wrap (8 * (bs.length : Int) - (i : Int)) = 8 * (bs.length : Int) - (i : Int) := w64 (by omega) (by omega)
        have h56 : F56.f k bs (i : Int) 1 = some (((bitAt bs i : Nat) : Int), 0) := by
          unfold F56.f
          simp only [lt, e8, ew2]
          rw [decide_eq_false (show ¬ ((i : Int) < 0) by omega), decide_eq_false (show ¬ ((i : Int) > 8 * (bs.length : Int)) by omega), decide_eq_false (show ¬ ((1 : Int) > 8 * (bs.length : Int) - (i : Int)) by omega), l56 bs hby hbs i hi8 k (by omega)]
          rfl
        have hbit : bitAt bs i < 2 := Nat.mod_lt _ (by decide)
        have ew4 : IntKind.i64.wrap ((s : Int) + 1) = ((s + 1 : Nat) : Int) := by rw [w64 (by omega) (by omega)]; rfl
        have ew5 : IntKind.i64.wrap (IntKind.i64.wrap (2 * (b : Int)) + IntKind.i64.wrap ((bitAt bs i : Nat) : Int)) = ((2 * b + bitAt bs i : Nat) : Int) := by
          rw [w64 (x := 2 * (b : Int)) (by omega) (by omega), w64 (x := ((bitAt bs i : Nat) : Int)) (by omega) (by omega), w64 (by omega) (by omega)]; omega
        rw [ew, hi, h56, Int.toNat_natCast]
        have hneg : (decide ((i : Int) < 0) || decide ((0 : Int) ≠ 0)) = false := by
          rw [decide_eq_false (show ¬ ((i : Int) < 0) by omega)]; rfl
        simp only [Option.bind_some, lt, hneg, Bool.false_eq_true, if_false, ew4, ew5]
        cases hfn : fnd l (s + 1) (2 * b + bitAt bs i) with
        | none => exact l25 l bs hb hbs hby p hp0 hp1 m k (s + 1) _ (by omega) (by omega) (by omega) (hn.step hbit hfn)
        | some j =>
          obtain ⟨k, rfl⟩ : ∃ q, k = q + 1 := ⟨k - 1, by omega⟩
          have hsc := l25b l h5 ho (by omega) (s + 1) (2 * b + bitAt bs i) (by omega) l.length k false 0 (by omega) (by omega)
          rw [show ((0 : Nat) : Int) = 0 from rfl, exact_code l ho (s + 1) _ (by omega), hfn] at hsc
          rw [F25.l0, hsc]; rfl
theorem f25 (l bs : List Int) (hl : l.length ≤ 17592186043904) (hbs : bs.length ≤ 140737488351232) (hby : ∀ x ∈ bs, 0 ≤ x ∧ x < 256) (p : Int) (hp1 : p ≤ 9223372036854775807) (k : Nat) (hk : l.length + 700 < k) : F25.f k l bs p = some (symE l bs p) := by
  unfold F25.f symE
  rw [f43 l hl k (by omega)]
  simp only [Option.bind_some, lt]
  by_cases h2 : badL l = 2
  · rw [decide_eq_true h2, if_pos (Or.inl h2)]; rfl
  · rw [decide_eq_false h2, Bool.false_or]
    by_cases hp : p < 0
    · rw [decide_eq_true hp, if_pos (Or.inr hp)]; rfl
    · rw [decide_eq_false hp, if_neg (show ¬ (badL l = 2 ∨ p < 0) from fun q => q.elim h2 hp)]
      simp only [Bool.false_eq_true, if_false]
      by_cases hb : badL l = 0
      · obtain ⟨ho, hw, h5⟩ := badL_ok hb
        have h := l25 l bs hb hbs hby p (by omega) hp1 16 k 0 0 rfl (by omega) (by omega) (NoC.zero l)
        have h' : F25.l0 l bs p ((List.range l.length).map (hd l 15)) k 0 0 = some (sy l bs p 16 0 0) := h
        rw [f50 l (by omega) ho hw k (by omega), if_neg (show ¬ badL l = 4 by rw [hb]; decide)]
        simp only [Option.bind_some, h']
        rw [if_neg (show ¬ (badL l ≠ 0) from fun q => q hb)]
      · have h4 : badL l = 4 := by
          unfold badL at h2 hb ⊢
          split
          · rename_i hc
            rw [if_pos hc] at h2 hb
            split
            · rfl
            · rename_i h5; rw [if_neg h5] at hb; exact absurd rfl hb
          · rename_i hc; rw [if_neg hc] at h2; exact absurd rfl h2
        rw [if_pos hb, if_pos h4, h4]
theorem f22 (l : List Int) (hl : l.length ≤ 17592186043904) (k : Nat) (hk : l.length < k) : F22.f k l = some (if okIn 15 l = true then (if l.length > 512 then (0, 4) else (wgt l, 0)) else (0, 2)) := by
  unfold F22.f
  rw [f52 15 l hl k hk]
  have e : ((l.length : Int) > 512) ↔ l.length > 512 := by omega
  simp only [Option.bind_some, e]
  cases ho : okIn 15 l
  · rfl
  · rw [f53 l hl ho k hk]
    by_cases h5 : l.length > 512 <;> simp [h5]
theorem law (l bs : List Int) (p : Int) (hl : l.length ≤ 17592186043904) (hbs : bs.length ≤ 140737488351232) (hby : ∀ x ∈ bs, 0 ≤ x ∧ x < 256) (hp1 : p ≤ 9223372036854775807) : ∃ k, F4.f k l bs p = some true := by
  refine ⟨17592186050000, ?_⟩
  generalize hk : (17592186050000 : Nat) = k
  unfold F4.f
  rw [f20 l hl k (by omega), f21 l hl k (by omega), f22 l hl k (by omega), f23 l hl k (by omega), f24 l bs hl hbs hby p hp1 k (by omega), f25 l bs hl hbs hby p hp1 k (by omega), anchored k (by omega)]
  have h26 : F26.f k (if badL l = 0 then ((List.range l.length).map (bt l), (0 : Int)) else ([], badL l)).1 (if badL l = 0 then ((List.range l.length).map (bt l), (0 : Int)) else ([], badL l)).1 = some true := by
    refine f26 _ ?_ k (by omega)
    by_cases hb : badL l = 0
    · rw [if_pos hb]; have := (badL_ok hb).2.2; simp; omega
    · rw [if_neg hb]; simp
  simp only [Option.bind_some, h26, lt]
  simp
theorem row (x0 x1 : List Int) (x2 : Int) (w0 : x0.length * 8 ≤ 140737488351232 ∧ ∀ y ∈ x0, (Lit.int .i64 y).wf = true) (w1 : x1.length * 1 ≤ 140737488351232 ∧ ∀ y ∈ x1, (Lit.int .u8 y).wf = true) (w2 : (Lit.int .i64 x2).wf = true) : ∃ k, F4.f k x0 x1 x2 = some true := by
  refine law x0 x1 x2 (by have := w0.1; omega) (by have := w1.1; omega) (fun x hx => ?_) ?_
  · have h2 := w1.2 x hx
    simp only [Lit.wf, IntKind.min, IntKind.max, Bool.and_eq_true, decide_eq_true_eq] at h2
    have := h2.1; have := h2.2
    constructor <;> (simp [IntKind.signed, IntKind.bits] at *; omega)
  · simp only [Lit.wf, IntKind.min, IntKind.max, Bool.and_eq_true, decide_eq_true_eq] at w2
    have := w2.2
    simp [IntKind.signed, IntKind.bits] at *; omega
end Go.Proofs.Ytocjoegcfojjhaa.HdPure

import Derived.Test.YtckilbegmbaeeaaGreatZ4May
import Derived.Test.YtckilbegmbaeeaaGreatZ4Ls
namespace Go.Proofs.YtckilbegmbaeeaaGreat.Z4Op
open Go Go.RowKit Go.Proofs.YtckilbegmbaeeaaGreat.SL Go.Proofs.YtckilbegmbaeeaaGreat.Z4 Go.Proofs.YtckilbegmbaeeaaGreat.Z4May Go.Proofs.YtckilbegmbaeeaaGreat.Z4Ls
set_option linter.unusedVariables false
set_option linter.unusedSimpArgs false
def blk (s : S28) : S55 := S55.mk 32 (S53.mk 0 0 0) 1 (S28.mk (-1) s.f1 false false false false false false false false)
theorem f110 (s : S28) : F147.f s = some (blk s) := rfl
theorem wsucc {i : Nat} (h : i < 4611686018427387904) : IntKind.i64.wrap ((i : Int) + 1) = ((i + 1 : Nat) : Int) := by rw [w64 (by omega) (by omega)]; rfl
theorem l105 (X : List S55) (o n : Nat) (b : S55) (h : o + n ≤ X.length) (hb : X.length < 4611686018427387904) : ∀ (m k i : Nat), i + m = n → m < k →
  F116w0.l0 X (o : Int) (n : Int) b k (i : Int) (over X o (List.replicate i b)) = some (over X o (List.replicate n b))
 | 0, 0, _, _, hk => by omega
 | 0, k + 1, i, hi, hk => by
  rw [F116w0.l0, if_pos (by rw [over_len2 (by simp; omega)]), if_neg (by omega)]
  rw [show i = n from by omega]
 | m + 1, 0, _, _, hk => by omega
 | m + 1, k + 1, i, hi, hk => by
  rw [F116w0.l0, if_pos (by rw [over_len2 (by simp; omega)]), if_pos (by omega), if_pos (by omega)]
  simp only [lt]
  rw [wsucc (by omega)]
  have e : ((o : Int) + (i : Int)).toNat = o + (List.replicate i b).length := by simp; omega
  rw [e, over_set (by simp; omega), ← List.replicate_succ']
  exact l105 X o n b h hb m k (i + 1) (by omega) (by omega)
theorem f105 (X : List S55) (o n : Nat) (s : S28) (h : o + n ≤ X.length) (hb : X.length < 4611686018427387904) (k : Nat) (hk : n < k) :
  F116w0.f k X (o : Int) (n : Int) s = some (over X o (List.replicate n (blk s))) := by
 unfold F116w0.f
 rw [if_pos (by omega), f110]
 have := l105 X o n (blk s) h hb n k 0 (by omega) hk
 rw [List.replicate_zero, over_nil] at this
 simp only [Option.bind_some]
 rw [show (0 : Int) = ((0 : Nat) : Int) from rfl, this]
 simp only [Option.bind_some]
 rw [if_pos (over_len2 (by simp; omega))]
def isW (W : List S55) (i : Int) (w : Int) (s : S28) : Bool := decide (0 ≤ i ∧ i < (W.length : Int) ∧ (rd W i).f2 = w ∧ (rd W i).f3 = s)
def badAt (W : List S55) (i : Nat) : Bool :=
 (decide ((rd W (i : Int)).f2 = 2) && !isW W ((i : Int) + 1) 0 (rd W (i : Int)).f3) || (decide ((rd W (i : Int)).f2 = 0) && !isW W ((i : Int) - 1) 2 (rd W (i : Int)).f3)
def mendAt (W : List S55) (i : Nat) : S55 := if badAt W i = true then blk (rd W (i : Int)).f3 else rd W (i : Int)
def mendL (W : List S55) : List S55 := (List.range W.length).map (mendAt W)
theorem mend_len {W : List S55} : (mendL W).length = W.length := by simp [mendL]
theorem mend_rd {W : List S55} {i : Nat} (h : i < W.length) : rd (mendL W) (i : Int) = mendAt W i := by
 refine rd_some (by omega) ?_
 rw [Int.toNat_natCast, mendL, List.getElem?_map, List.getElem?_range h]; rfl
theorem f109 (a w : Int) (s : S28) (Z : List S55) (o n : Nat) (h : o + n ≤ Z.length) :
  F157w3.f a w s Z (o : Int) (n : Int) = some (decide (0 ≤ a ∧ a < (n : Int) ∧ (rd Z ((o : Int) + a)).f2 = w ∧ (rd Z ((o : Int) + a)).f3 = s)) := by
 unfold F157w3.f
 rw [if_pos (by omega)]
 by_cases h1 : a ≥ 0
 ·rw [if_pos h1]
  by_cases h2 : a < (n : Int)
  ·rw [if_pos h2, if_pos (by omega)]
   by_cases h3 : (rd Z ((o : Int) + a)).f2 = w
   ·rw [if_pos h3, if_pos (by omega)]
    simp only [show (0 : Int) ≤ a from h1, h2, h3, true_and]
   ·rw [if_neg h3]; simp [h3]
  ·rw [if_neg h2]; simp [h2]
 ·rw [if_neg h1]
  have : ¬ (0 : Int) ≤ a := by omega
  simp [this]
theorem ahead {W : List S55} {i : Nat} (hi : i < W.length) (h0 : 0 < i) (h2 : (rd W (i : Int)).f2 = 0) :
  ((mendAt W (i - 1)).f2 = 2 ∧ (mendAt W (i - 1)).f3 = (rd W (i : Int)).f3) ↔ ((rd W (((i - 1 : Nat)) : Int)).f2 = 2 ∧ (rd W ((i - 1 : Nat) : Int)).f3 = (rd W (i : Int)).f3) := by
 unfold mendAt
 by_cases hb : badAt W (i - 1) = true
 ·rw [if_pos hb]
  constructor
  ·rintro ⟨h, _⟩; simp [blk] at h
  ·rintro ⟨h, h'⟩
   exfalso
   unfold badAt at hb
   rw [show (((i - 1 : Nat) : Int) + 1) = (i : Int) from by omega] at hb
   simp [h, isW, hi, h2, h'] at hb
 ·rw [if_neg hb]
theorem l81 (X : List S55) (o n : Nat) (h : o + n ≤ X.length) (hb : X.length < 4611686018427387904) (W : List S55) (hW : W = win X o n) : ∀ (m k i : Nat), i + m = n → m < k →
  F136w0.l0 X (o : Int) (n : Int) k (i : Int) (over X o ((mendL W).take i)) = some (over X o (mendL W))
 | 0, 0, _, _, hk => by omega
 | 0, k + 1, i, hi, hk => by
  have hl : W.length = n := by rw [hW]; exact wlen h
  have ht : ((mendL W).take i).length = i := by rw [List.length_take, mend_len]; omega
  rw [F136w0.l0, if_pos (over_len2 (by omega)), if_neg (by omega), List.take_of_length_le (by rw [mend_len]; omega)]
 | m + 1, 0, _, _, hk => by omega
 | m + 1, k + 1, i, hi, hk => by
  have hl : W.length = n := by rw [hW]; exact wlen h
  have ht : ((mendL W).take i).length = i := by rw [List.length_take, mend_len]; omega
  have hZ : (over X o ((mendL W).take i)).length = X.length := over_len2 (by omega)
  have hrd : ∀ j : Nat, i ≤ j → j < n → rd (over X o ((mendL W).take i)) ((o : Int) + (j : Int)) = rd W (j : Int) := fun j h1 h2 => by
   rw [show (o : Int) + (j : Int) = ((o + j : Nat) : Int) from by omega, rd_over_after (by omega) (by omega), hW, rd_win h2 h]; congr 1
  have hbf : ∀ j : Nat, j < i → rd (over X o ((mendL W).take i)) ((o : Int) + (j : Int)) = mendAt W j := fun j h1 => by
   rw [show (o : Int) + (j : Int) = ((o + j : Nat) : Int) from by omega, rd_over_in (by omega) (by omega)]
   refine rd_some (by omega) ?_
   rw [Int.toNat_natCast, List.getElem?_take, if_pos h1, mendL, List.getElem?_map, List.getElem?_range (by omega)]; rfl
  rw [F136w0.l0, if_pos hZ, if_pos (by omega), if_pos (by omega)]
  rw [hrd i (Nat.le_refl _) (by omega), wsucc (by omega)]
  have e1 : F157w3.f ((i + 1 : Nat) : Int) 0 (rd W (i : Int)).f3 (over X o ((mendL W).take i)) (o : Int) (n : Int) = some (isW W ((i : Int) + 1) 0 (rd W (i : Int)).f3) := by
   rw [f109 _ _ _ _ _ _ (by omega), isW, hl]
   congr 1
   by_cases hc : i + 1 < n
   ·rw [hrd (i + 1) (by omega) hc]; rfl
   ·simp [show ¬ ((i : Int) + 1 < (n : Int)) from by omega]
  have e2 : (rd W (i : Int)).f2 = 0 → F157w3.f (IntKind.i64.wrap ((i : Int) - 1)) 2 (rd W (i : Int)).f3 (over X o ((mendL W).take i)) (o : Int) (n : Int) = some (isW W ((i : Int) - 1) 2 (rd W (i : Int)).f3) := fun h0 => by
   rw [w64 (by omega) (by omega), f109 _ _ _ _ _ _ (by omega), isW, hl]
   congr 1
   by_cases hc : 0 < i
   ·have := ahead (W := W) (i := i) (by omega) hc h0
    rw [show (i : Int) - 1 = ((i - 1 : Nat) : Int) from by omega, hbf (i - 1) (by omega)]
    simp only [this]
   ·obtain rfl : i = 0 := by omega
    simp
  have hcond : ((if (rd W (i : Int)).f2 = 2 then ((F157w3.f ((i + 1 : Nat) : Int) 0 (rd W (i : Int)).f3 (over X o ((mendL W).take i)) (o : Int) (n : Int)).bind (fun r16 => some (!r16))) else (some false) : Option Bool).bind (fun q14 => (if q14 = true then (some true) else (if (rd W (i : Int)).f2 = 0 then ((F157w3.f (IntKind.i64.wrap ((i : Int) - 1)) 2 (rd W (i : Int)).f3 (over X o ((mendL W).take i)) (o : Int) (n : Int)).bind (fun r22 => some (!r22))) else (some false)) : Option Bool))) = some (badAt W i) := by
   unfold badAt
   by_cases c2 : (rd W (i : Int)).f2 = 2
   ·rw [if_pos c2, e1]; simp only [Option.bind_some, c2]
    cases isW W ((i : Int) + 1) 0 (rd W (i : Int)).f3 <;> simp
   ·rw [if_neg c2]
    by_cases c0 : (rd W (i : Int)).f2 = 0
    ·simp only [Option.bind_some, c0, if_true, e2 c0]; simp
    ·simp [c2, c0]
  have hassoc := congrArg (fun z : Option Bool => z.bind (fun q19 => if q19 = true then ((F147.f (rd W (i : Int)).f3).bind (fun r266 => if (0 : Int) ≤ (i : Int) ∧ (i : Int) < (n : Int) then (lt ((over X o ((mendL W).take i)).set ((o : Int) + (i : Int)).toNat r266) fun n386 => (F136w0.l0 X (o : Int) (n : Int) k ((i + 1 : Nat) : Int) n386)) else none)) else (F136w0.l0 X (o : Int) (n : Int) k ((i + 1 : Nat) : Int) (over X o ((mendL W).take i))))) hcond
  simp only [Option.bind_assoc] at hassoc
  refine hassoc.trans ?_
  have hnext : over X o ((mendL W).take (i + 1)) = (if badAt W i = true then (over X o ((mendL W).take i)).set (o + i) (blk (rd W (i : Int)).f3) else over X o ((mendL W).take i)) := by
   have hs : (mendL W).take (i + 1) = (mendL W).take i ++ [mendAt W i] := take_succ_map (by omega)
   rw [hs]
   by_cases hbd : badAt W i = true
   ·rw [if_pos hbd, mendAt, if_pos hbd]
    have := over_set (X := X) (ys := (mendL W).take i) (o := o) (y := blk (rd W (i : Int)).f3) (by omega)
    rw [ht] at this; exact this.symm
   ·rw [if_neg hbd]
    refine over_same (by omega) ?_
    rw [ht, mendAt, if_neg hbd, hW, rd_win (by omega) h, show (o : Int) + (i : Int) = ((o + i : Nat) : Int) from by omega]
    exact some_rd (by omega)
  simp only [Option.bind_some]
  have ih := l81 X o n h hb W hW m k (i + 1) (by omega) (by omega)
  rw [hnext] at ih
  by_cases hbd : badAt W i = true
  ·rw [if_pos hbd, f110]
   simp only [Option.bind_some, lt]
   rw [if_pos (by omega), show ((o : Int) + (i : Int)).toNat = o + i from by omega]
   rw [if_pos hbd] at ih; exact ih
  ·rw [if_neg hbd]
   rw [if_neg hbd] at ih; exact ih
theorem f81 (X : List S55) (o n : Nat) (h : o + n ≤ X.length) (hb : X.length < 4611686018427387904) (k : Nat) (hk : n < k) : F136w0.f k X (o : Int) (n : Int) = some (over X o (mendL (win X o n))) := by
 have hl : (win X o n).length = n := wlen h
 have := l81 X o n h hb _ rfl n k 0 (by omega) hk
 rw [List.take_zero, over_nil] at this
 unfold F136w0.f
 rw [if_pos (by omega), show (0 : Int) = ((0 : Nat) : Int) from rfl, this]
 simp only [Option.bind_some]
 rw [if_pos (over_len2 (by rw [mend_len]; omega))]
end Go.Proofs.YtckilbegmbaeeaaGreat.Z4Op

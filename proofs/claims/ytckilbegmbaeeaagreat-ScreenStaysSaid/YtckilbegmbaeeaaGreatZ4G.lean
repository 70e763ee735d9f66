import Derived.Test.YtckilbegmbaeeaaGreatZ4F
namespace Go.Proofs.YtckilbegmbaeeaaGreat.Z4Sc
open Go Go.RowKit Go.Proofs.YtckilbegmbaeeaaGreat.SL Go.Proofs.YtckilbegmbaeeaaGreat.Z4 Go.Proofs.YtckilbegmbaeeaaGreat.Z4May Go.Proofs.YtckilbegmbaeeaaGreat.Z4Ls Go.Proofs.YtckilbegmbaeeaaGreat.Z4Op Go.Proofs.YtckilbegmbaeeaaGreat.Z4Sp
set_option linter.unusedVariables false
set_option linter.unusedSimpArgs false
def stopsL (w : Nat) : List Int := (List.range' 1 ((w + 7) / 8 - 1)).map fun j => ((8 * j : Nat) : Int)
theorem l23 (w : Nat) (hw : w ≤ 512) : ∀ (m k i : Nat) (l : List Int), 1 ≤ i → i + m = (w + 7) / 8 → l.length ≤ i → m < k → F23.l0 (w : Int) k l ((8 * i : Nat) : Int) = some (l ++ (List.range' i m).map fun j => ((8 * j : Nat) : Int))
 | _, 0, _, _, _, _, _, hk => by omega
 | 0, k + 1, i, l, h1, hi, hl, hk => by rw [F23.l0, if_neg (by omega)]; simp
 | m + 1, k + 1, i, l, h1, hi, hl, hk => by
  rw [F23.l0, if_pos (by omega), if_pos (by rw [List.length_singleton]; omega), w64 (by omega) (by omega), show ((8 * i : Nat) : Int) + 8 = ((8 * (i + 1) : Nat) : Int) from by omega]
  simp only [lt]
  rw [l23 w hw m k (i + 1) _ (by omega) (by omega) (by simp; omega) (by omega), List.range'_succ, List.map_cons, List.append_assoc]
  rfl
theorem f23 (w : Nat) (h0 : 0 < w) (hw : w ≤ 512) (k : Nat) (hk : 100 ≤ k) : F23.f k (w : Int) = some (stopsL w) := by
 unfold F23.f
 have := l23 w hw ((w + 7) / 8 - 1) k 1 [] (by omega) (by omega) (by simp) (by omega)
 rw [show F23.l0 (w : Int) k [] 8 = _ from this]
 rfl
theorem stops_ok {w : Nat} (h0 : 0 < w) : tabsOk (w : Int) (-1) (stopsL w) = true := by
 rw [tabs_iff]
 unfold stopsL
 refine ⟨?_, fun x hx => ?_⟩
 ·rw [List.pairwise_map]
  refine List.Pairwise.imp ?_ List.pairwise_lt_range'
  intro a b hab; omega
 ·simp only [List.mem_map, List.mem_range'] at hx
  obtain ⟨i, ⟨j, hj, rfl⟩, rfl⟩ := hx
  constructor <;> omega
def plain : S28 := S28.mk (-1) (-1) false false false false false false false false
theorem plain_may : mayStyle plain = true := by decide
def newS (c r : Int) : S34 := S34.mk (S26.mk c r (List.replicate (c * r).toNat (blk plain))) 0 0 false plain 0 (r - 1) (stopsL c.toNat) true false false false false true (S31.mk 0 0 false false plain) false (S26.mk 0 0 []) []
def dNew (c r : Int) : S34 × Int := if sizedB c r = true then (newS c r, 0) else (zS, 2)
theorem sized_iff {c r : Int} : sizedB c r = true ↔ ∃ w q : Nat, c = (w : Int) ∧ r = (q : Int) ∧ 0 < w ∧ w ≤ 512 ∧ 0 < q ∧ q ≤ 512 := by
 unfold sizedB
 simp only [decide_eq_true_eq]
 constructor
 ·rintro ⟨a, b, c', d⟩; exact ⟨c.toNat, r.toNat, by omega, by omega, by omega, by omega, by omega, by omega⟩
 ·rintro ⟨w, q, rfl, rfl, a, b, c', d⟩; omega
theorem new_eq {c r : Int} {y : S28} (hy : mayStyle y = true) (h : sizedB c r = true) : sNew c r y = (S26.mk c r (List.replicate (c * r).toNat (blk y)), 0) := by unfold sNew; rw [h, hy]; rfl
theorem f8 (c r : Int) (k : Nat) (hk : 1100000 ≤ k) : F8.f k c r = some (dNew c r) := by
 have e1 : F22.f = some plain := rfl
 unfold F8.f dNew
 rw [e1]
 simp only [Option.bind_some]
 rw [f44 c r plain k hk]
 simp only [Option.bind_some]
 cases hs : sizedB c r
 ·have : sNew c r plain = no := by unfold sNew; rw [hs]; rfl
  rw [this]; rfl
 ·obtain ⟨w, q, rfl, rfl, a, b, c', d⟩ := sized_iff.1 hs
  rw [new_eq plain_may hs, f23 w a b k (by omega), w64 (x := (q : Int) - 1) (by omega) (by omega)]
  rfl
def rsS (s : S34) (c r : Int) : S34 :=
 { s with f0 := (sResize s.f0 c r s.f4).1, f16 := (if s.f15 = true then (sResize s.f16 c r s.f4).1 else s.f16), f1 := min s.f1 (r - 1), f2 := min s.f2 (c - 1), f3 := false, f5 := 0, f6 := r - 1, f7 := stopsL c.toNat, f14 := S31.mk (min s.f14.f0 (r - 1)) (min s.f14.f1 (c - 1)) false s.f14.f3 s.f14.f4 }
def dResize (s : S34) (c r : Int) : S34 × Int := if (mayScreen s && sizedB c r) = true then (rsS s c r, 0) else (zS, 2)
theorem rs_eq {g : S26} {c r : Int} {y : S28} (hg : mayGrid g = true) (hy : mayStyle y = true) (h : sizedB c r = true) : sResize g c r y = (S26.mk c r (resL g.f2 g.f0.toNat c.toNat (min r g.f1).toNat 0 (List.replicate (c * r).toNat (blk y))), 0) := by
 unfold sResize; rw [hg, hy, h]; rfl
theorem alt_may {s : S34} (h : Ok s) (ha : s.f15 = true) : mayGrid s.f16 = true ∧ s.f16.f0 = s.f0.f0 ∧ s.f16.f1 = s.f0.f1 := by
 have := h.m.alt
 unfold altOk at this
 rw [if_pos ha] at this
 simp only [Bool.and_eq_true, decide_eq_true_eq] at this
 exact ⟨this.1.1, this.1.2, this.2⟩
theorem presize (s : S34) (hs : Sg s) (c r : Int) (k : Nat) (hk : 40000000000000 ≤ k) : F39.f k s c r = some (dResize s c r) := by
 unfold F39.f dResize
 rw [f74 s hs k hk]
 cases hm : mayScreen s
 ·rfl
 ·have h := ok_of hs hm
  simp only [Option.bind_some, Bool.not_true, Bool.false_eq_true, if_false, Bool.true_and]
  rw [f38 s.f0 h.gr c r s.f4 k (by omega)]
  simp only [Option.bind_some]
  cases hz : sizedB c r
  ·have : sResize s.f0 c r s.f4 = no := by unfold sResize; rw [hz]; simp
   rw [this]; rfl
  ·obtain ⟨w, q, rfl, rfl, a, b, c', d⟩ := sized_iff.1 hz
   rw [rs_eq h.m.g h.m.y hz, f97 s h]
   simp only [Option.bind_some, ne_eq, not_true_eq_false, if_false, if_true]
   rw [f96b s.f16 h.grm _ _ s.f4 k (by omega), f23 w a b k (by omega), w64 (x := (q : Int) - 1) (by omega) (by omega), w64 (x := (w : Int) - 1) (by omega) (by omega)]
   simp only [Option.bind_some, minI_eq]
   unfold rsS
   rw [rs_eq h.m.g h.m.y hz]
   cases ha : s.f15
   ·simp [el_g, ha]
   ·rw [rs_eq (alt_may h ha).1 h.m.y hz]
    simp [el_g, ha]
theorem okResize {s : S34} (h : Ok s) {c r : Int} (hz : sizedB c r = true) : Ok (rsS s c r) := by
 obtain ⟨w, q, rfl, rfl, a, b, c', d⟩ := sized_iff.1 hz
 have p := pos_iff.1 h.m.p
 have p2 := pos_iff.1 h.m.p2
 have hg := rs_eq h.m.g h.m.y hz
 have hm := resize_may (g := s.f0) (c := (w : Int)) (r := (q : Int)) (s := s.f4) (by rw [hg])
 have d0 : (sResize s.f0 (w : Int) (q : Int) s.f4).1.f0 = (w : Int) ∧ (sResize s.f0 (w : Int) (q : Int) s.f4).1.f1 = (q : Int) := by rw [hg]; exact ⟨rfl, rfl⟩
 refine ⟨⟨hm, h.m.y, h.m.y2, Int.le_refl _, by show (0 : Int) ≤ (q : Int) - 1; omega, by show (q : Int) - 1 < (sResize s.f0 (w : Int) (q : Int) s.f4).1.f1; omega, pos_iff.2 ?_, pos_iff.2 ?_, ?_, ?_, h.m.ti⟩, resize_all h.b, ?_⟩
 ·show 0 ≤ min s.f1 ((q : Int) - 1) ∧ min s.f1 ((q : Int) - 1) < (sResize s.f0 (w : Int) (q : Int) s.f4).1.f1 ∧ 0 ≤ min s.f2 ((w : Int) - 1) ∧ min s.f2 ((w : Int) - 1) < (sResize s.f0 (w : Int) (q : Int) s.f4).1.f0 ∧ (false = true → _)
  exact ⟨by omega, by omega, by omega, by omega, fun z => by cases z⟩
 ·show 0 ≤ min s.f14.f0 ((q : Int) - 1) ∧ min s.f14.f0 ((q : Int) - 1) < (sResize s.f0 (w : Int) (q : Int) s.f4).1.f1 ∧ 0 ≤ min s.f14.f1 ((w : Int) - 1) ∧ min s.f14.f1 ((w : Int) - 1) < (sResize s.f0 (w : Int) (q : Int) s.f4).1.f0 ∧ (false = true → _)
  exact ⟨by omega, by omega, by omega, by omega, fun z => by cases z⟩
 ·show tabsOk (sResize s.f0 (w : Int) (q : Int) s.f4).1.f0 (-1) (stopsL ((w : Int)).toNat) = true
  rw [d0.1, Int.toNat_natCast]; exact stops_ok a
 ·unfold altOk
  show (if s.f15 = true then _ else _) = true
  cases ha : s.f15
  ·have := h.m.alt
   unfold altOk at this
   simp only [ha, Bool.false_eq_true, if_false] at this ⊢
   simp only [rsS, ha, Bool.false_eq_true, if_false]
   exact this
  ·have ha2 := alt_may h ha
   have hg2 := rs_eq ha2.1 h.m.y hz
   have hm2 := resize_may (g := s.f16) (c := (w : Int)) (r := (q : Int)) (s := s.f4) (by rw [hg2])
   simp only [rsS, ha, if_true]
   rw [hm2, hg2, hg]
   simp
 ·intro x hx
  simp only [rsS] at hx
  split at hx
  ·exact resize_all h.b2 x hx
  ·exact h.b2 x hx
def dD (s : S34) (d : S44) : S34 × Int :=
 if d.f0 = 0 then res s (dPrint s (IntKind.i32.wrap d.f1)) else if d.f0 = 1 then res s (dControl s (IntKind.i32.wrap d.f1)) else if d.f0 = 2 then res s (dMove s d.f1 d.f2)
 else if d.f0 = 3 then res s (dPlace s d.f1 d.f2) else if d.f0 = 4 then res s (dErase s d.f3 d.f1) else if d.f0 = 5 then res s (dLines s d.f1) else if d.f0 = 6 then res s (dChars s d.f1)
 else if d.f0 = 7 then res s (dScroll s d.f1) else if d.f0 = 8 then res s (dRegion s d.f1 d.f2) else if d.f0 = 9 then res s (dKeep s d.f3) else if d.f0 = 10 then res s (dMode s d.f3 d.f1 (decide (d.f2 > 0)))
 else if d.f0 = 11 then res s (dTab s d.f1) else if d.f0 = 12 then res s (dWipe s d.f1) else dResize s d.f1 d.f2
theorem deed {s t : S34} (hs : Sg s) {F : S34 → Option S34} (hF : Ok s → F s = some t) (k : Nat) (hk : 40000000000000 ≤ k) :
  (F16b0.f k s).bind (fun r10 => if (!r10) = true then (some ((zS, (2 : Int)))) else ((F97.f s).bind (fun r16 => (F r16).bind (fun r29 => some ((r29, 0)))))) = some (res s t) := by
 rw [f74 s hs k hk]
 cases hm : mayScreen s
 ·simp [res, hm]
 ·have h := ok_of hs hm
  simp only [Option.bind_some, Bool.not_true, Bool.false_eq_true, if_false]
  rw [f97 s h]
  simp only [Option.bind_some]
  rw [hF h]
  simp [res, hm]
theorem eta2 (r : Option (S34 × Int)) : r.bind (fun r11 => some ((r11.1, r11.2))) = r := by cases r <;> rfl
theorem eta1 (r : Option S34) : r.bind (fun r11 => some r11) = r := by cases r <;> rfl
theorem pd0 (s : S34) (hs : Sg s) (c : Int) (k : Nat) (hk : 40000000000000 ≤ k) : F27.f k s c = some (res s (dPrint s c)) := by
 unfold F27.f; rw [eta2]; unfold F62f72x_1_.f F72Lb_0_.f; simp only [eta1]; exact deed hs (F := fun x => F73Lb_0_.f k x c) (fun h => pprint s h c k (by omega)) k hk
theorem pd1 (s : S34) (hs : Sg s) (c : Int) (k : Nat) (hk : 40000000000000 ≤ k) : F28.f k s c = some (res s (dControl s c)) := by
 unfold F28.f; rw [eta2]; unfold F62f74x_1_.f F74Lb_0_.f; simp only [eta1]; exact deed hs (F := fun x => F75Lb_0_.f k x c) (fun h => pcontrol s h c k (by omega)) k hk
theorem pd2 (s : S34) (hs : Sg s) (a b : Int) (k : Nat) (hk : 40000000000000 ≤ k) : F29.f k s a b = some (res s (dMove s a b)) := by
 unfold F29.f; rw [eta2]; unfold F62f76xx_1_.f F76Lb_0_.f; simp only [eta1]; exact deed hs (F := fun x => F77Lb_0_.f x a b) (fun h => pmove s h a b) k hk
theorem pd3 (s : S34) (hs : Sg s) (a b : Int) (k : Nat) (hk : 40000000000000 ≤ k) : F30.f k s a b = some (res s (dPlace s a b)) := by
 unfold F30.f; rw [eta2]; unfold F62f78xx_1_.f F78Lb_0_.f; simp only [eta1]; exact deed hs (F := fun x => F79Lb_0_.f x a b) (fun h => by
  obtain ⟨w, q, e0, e1, _, _, _, _, _, _⟩ := h.size
  exact pplace s (by omega) (by omega) (by omega) (by omega) h.m.t0 h.m.t1 h.m.t2 a b) k hk
theorem pd4 (s : S34) (hs : Sg s) (l : Bool) (a : Int) (k : Nat) (hk : 40000000000000 ≤ k) : F31.f k s l a = some (res s (dErase s l a)) := by
 unfold F31.f; rw [eta2]; unfold F62f80xx_1_.f F80Lb_0_.f; simp only [eta1]; exact deed hs (F := fun x => F81Lb_0_.f k x l a) (fun h => perases s h l a k (by omega)) k hk
theorem pd5 (s : S34) (hs : Sg s) (a : Int) (k : Nat) (hk : 40000000000000 ≤ k) : F32.f k s a = some (res s (dLines s a)) := by
 unfold F32.f; rw [eta2]; unfold F62f82x_1_.f F82Lb_0_.f; simp only [eta1]; exact deed hs (F := fun x => F83Lb_0_.f k x a) (fun h => plines s h a k (by omega)) k hk
theorem pd6 (s : S34) (hs : Sg s) (a : Int) (k : Nat) (hk : 40000000000000 ≤ k) : F33.f k s a = some (res s (dChars s a)) := by
 unfold F33.f; rw [eta2]; unfold F62f84x_1_.f F84Lb_0_.f; simp only [eta1]; exact deed hs (F := fun x => F85Lb_0_.f k x a) (fun h => pchars s h a k (by omega)) k hk
theorem pd7 (s : S34) (hs : Sg s) (a : Int) (k : Nat) (hk : 40000000000000 ≤ k) : F34.f k s a = some (res s (dScroll s a)) := by
 unfold F34.f; rw [eta2]; unfold F62f86x_1_.f F86Lb_0_.f; simp only [eta1]; exact deed hs (F := fun x => F87Lb_0_.f k x a) (fun h => pscroll s h a k (by omega)) k hk
theorem pd8 (s : S34) (hs : Sg s) (a b : Int) (k : Nat) (hk : 40000000000000 ≤ k) : F35.f k s a b = some (res s (dRegion s a b)) := by
 unfold F35.f; rw [eta2]; unfold F62f88xx_1_.f F88Lb_0_.f; simp only [eta1]; exact deed hs (F := fun x => F89Lb_0_.f x a b) (fun h => pregion s h a b) k hk
theorem pd9 (s : S34) (hs : Sg s) (b : Bool) (k : Nat) (hk : 40000000000000 ≤ k) : F17.f k s b = some (res s (dKeep s b)) := by
 unfold F17.f; rw [eta2]; unfold F62f63x_1_.f F63Lb_0_.f; simp only [eta1]; exact deed hs (F := fun x => F64Lb_0_.f x b) (fun h => pkeep s b) k hk
theorem pd10 (s : S34) (hs : Sg s) (p : Bool) (a : Int) (b : Bool) (k : Nat) (hk : 40000000000000 ≤ k) : F36.f k s p a b = some (res s (dMode s p a b)) := by
 unfold F36.f; rw [eta2]; unfold F62f90xxx_1_.f F90Lb_0_.f; simp only [eta1]; exact deed hs (F := fun x => F91Lb_0_.f k x p a b) (fun h => pmode s h p a b k (by omega)) k hk
theorem pd11 (s : S34) (hs : Sg s) (a : Int) (k : Nat) (hk : 40000000000000 ≤ k) : F37.f k s a = some (res s (dTab s a)) := by
 unfold F37.f; rw [eta2]; unfold F62f92x_1_.f F92Lb_0_.f; simp only [eta1]; exact deed hs (F := fun x => F93Lb_0_.f k x a) (fun h => ptab s h a k (by omega)) k hk
theorem pd12 (s : S34) (hs : Sg s) (a : Int) (k : Nat) (hk : 40000000000000 ≤ k) : F38.f k s a = some (res s (dWipe s a)) := by
 unfold F38.f; rw [eta2]; unfold F62f94x_1_.f F94Lb_0_.f; simp only [eta1]; exact deed hs (F := fun x => F95Lb_0_.f k x a) (fun h => pwipe s h a k (by omega)) k hk
theorem some_ite {α : Type} {c : Prop} [Decidable c] {a b : α} : some (if c then a else b) = if c then some a else some b := by split <;> rfl
theorem pdone (s : S34) (hs : Sg s) (d : S44) (k : Nat) (hk : 40000000000000 ≤ k) : F12.f k s d = some (dD s d) := by
 unfold F12.f dD
 simp only [eta2, pd0 s hs _ k hk, pd1 s hs _ k hk, pd2 s hs _ _ k hk, pd3 s hs _ _ k hk, pd4 s hs _ _ k hk, pd5 s hs _ k hk, pd6 s hs _ k hk, pd7 s hs _ k hk, pd8 s hs _ _ k hk, pd9 s hs _ k hk, pd10 s hs _ _ _ k hk, pd11 s hs _ k hk, pd12 s hs _ k hk, presize s hs _ _ k hk]
 rw [some_ite, some_ite, some_ite, some_ite, some_ite, some_ite, some_ite, some_ite, some_ite, some_ite, some_ite, some_ite, some_ite]
theorem dD_ok {s : S34} (h : Ok s) (d : S44) : ((dD s d).2 = 0 ∧ Ok (dD s d).1) ∨ ((dD s d).2 = 2 ∧ (dD s d).1 = zS ∧ d.f0 ≠ 0 ∧ d.f0 ≠ 1 ∧ d.f0 ≠ 2 ∧ d.f0 ≠ 3 ∧ d.f0 ≠ 4 ∧ d.f0 ≠ 5 ∧ d.f0 ≠ 6 ∧ d.f0 ≠ 7 ∧ d.f0 ≠ 8 ∧ d.f0 ≠ 9 ∧ d.f0 ≠ 10 ∧ d.f0 ≠ 11 ∧ d.f0 ≠ 12) := by
 have hr : ∀ t, Ok t → (res s t).2 = 0 ∧ Ok (res s t).1 := fun t ht => by unfold res; rw [if_pos h.may]; exact ⟨rfl, ht⟩
 unfold dD
 by_cases c0 : d.f0 = 0
 ·rw [if_pos c0]; exact .inl (hr _ (okPrint h _))
 rw [if_neg c0]
 by_cases c1 : d.f0 = 1
 ·rw [if_pos c1]; exact .inl (hr _ (okControl h _))
 rw [if_neg c1]
 by_cases c2 : d.f0 = 2
 ·rw [if_pos c2]; exact .inl (hr _ (okMove h _ _))
 rw [if_neg c2]
 by_cases c3 : d.f0 = 3
 ·rw [if_pos c3]; exact .inl (hr _ (okPlace h _ _))
 rw [if_neg c3]
 by_cases c4 : d.f0 = 4
 ·rw [if_pos c4]; exact .inl (hr _ (okErase h _ _))
 rw [if_neg c4]
 by_cases c5 : d.f0 = 5
 ·rw [if_pos c5]; exact .inl (hr _ (okLines h _))
 rw [if_neg c5]
 by_cases c6 : d.f0 = 6
 ·rw [if_pos c6]; exact .inl (hr _ (okChars h _))
 rw [if_neg c6]
 by_cases c7 : d.f0 = 7
 ·rw [if_pos c7]; exact .inl (hr _ (okScroll h _))
 rw [if_neg c7]
 by_cases c8 : d.f0 = 8
 ·rw [if_pos c8]; exact .inl (hr _ (okRegion h _ _))
 rw [if_neg c8]
 by_cases c9 : d.f0 = 9
 ·rw [if_pos c9]; exact .inl (hr _ (okKeep h _))
 rw [if_neg c9]
 by_cases c10 : d.f0 = 10
 ·rw [if_pos c10]; exact .inl (hr _ (okMode h _ _ _))
 rw [if_neg c10]
 by_cases c11 : d.f0 = 11
 ·rw [if_pos c11]; exact .inl (hr _ (okTab h _))
 rw [if_neg c11]
 by_cases c12 : d.f0 = 12
 ·rw [if_pos c12]; exact .inl (hr _ (okWipe h _))
 rw [if_neg c12]
 unfold dResize
 by_cases hz : sizedB d.f1 d.f2 = true
 ·rw [if_pos (by rw [h.may, hz]; rfl)]; exact .inl ⟨rfl, okResize h hz⟩
 ·rw [if_neg (by rw [Bool.and_eq_true]; exact fun q => hz q.2)]; exact .inr ⟨rfl, rfl, c0, c1, c2, c3, c4, c5, c6, c7, c8, c9, c10, c11, c12⟩
structure Big (s : S34) : Prop where
 g : s.f0.f2.length ≤ 2932031007402
 m : s.f16.f2.length ≤ 2932031007402
 t : s.f7.length ≤ 17592186044416
 u : s.f17.length ≤ 35184372088832
theorem f14 (k : Nat) (hk : 1000 ≤ k) : F14.f k = some true := by
 obtain ⟨j, rfl⟩ : ∃ j, k = j + 900 := ⟨k - 900, by omega⟩
 kernel_rfl
end Go.Proofs.YtckilbegmbaeeaaGreat.Z4Sc

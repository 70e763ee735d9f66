import Derived.Test.YtckilbegmbaeeaaGreatZ4A
namespace Go.Proofs.YtckilbegmbaeeaaGreat.Z4Sc
open Go Go.RowKit Go.Proofs.YtckilbegmbaeeaaGreat.SL Go.Proofs.YtckilbegmbaeeaaGreat.Z4 Go.Proofs.YtckilbegmbaeeaaGreat.Z4May Go.Proofs.YtckilbegmbaeeaaGreat.Z4Ls Go.Proofs.YtckilbegmbaeeaaGreat.Z4Op Go.Proofs.YtckilbegmbaeeaaGreat.Z4Sp
set_option linter.unusedVariables false
set_option linter.unusedSimpArgs false
theorem f127 (a b c : Int) : F127.f a b c = some (max b (min a c)) := by
 unfold F127.f; simp only [lt, maxI_eq, minI_eq]
theorem f128 (a : Int) : F128.f a = some (max (-1024) (min a 1024)) := by
 unfold F128.f; rw [f127]; rfl
def mv (n by_ lo hi : Int) : Int := max lo (min (n + by_) hi)
theorem cl_mv {n by_ lo hi : Int} (h0 : 0 ≤ n) (h1 : n ≤ 600) (h2 : 0 ≤ lo) (h3 : lo ≤ hi) (h5 : hi ≤ 600) : F127.f (IntKind.i64.wrap (n + max (-1024) (min by_ 1024))) lo hi = some (mv n by_ lo hi) := by
 rw [w64 (by omega) (by omega), f127]; unfold mv; congr 1; omega
structure Mg (s : S34) : Prop where
 g : mayGrid s.f0 = true
 b : ∀ x ∈ s.f0.f2, byte x
 y : mayStyle s.f4 = true
 t0 : 0 ≤ s.f5
 t1 : s.f5 ≤ s.f6
 t2 : s.f6 < s.f0.f1
 r0 : 0 ≤ s.f1
 r1 : s.f1 < s.f0.f1
theorem Ok.mg {s : S34} (h : Ok s) : Mg s := by
 have hp := pos_iff.1 h.m.p
 exact ⟨h.m.g, h.b, h.m.y, h.m.t0, h.m.t1, h.m.t2, hp.1, hp.2.1⟩
theorem Mg.size {s : S34} (h : Mg s) : ∃ w q : Nat, s.f0.f0 = (w : Int) ∧ s.f0.f1 = (q : Int) ∧ 0 < w ∧ w ≤ 512 ∧ 0 < q ∧ q ≤ 512 ∧ s.f0.f2.length = w * q ∧ w * q ≤ 262144 := may_size h.g
theorem Mg.gr {s : S34} (h : Mg s) : Gr s.f0 := by
 obtain ⟨w, q, _, _, _, _, _, _, hl, hb⟩ := h.size
 exact grr (by omega) h.b
def scr (s : S34) (t u by_ : Int) : S34 := { s with f0 := (sScroll s.f0 t u by_ s.f4).1 }
theorem scrollOk_of {s : S34} (h : Mg s) {t u : Int} (h0 : 0 ≤ t) (h1 : t ≤ u) (h2 : u < s.f0.f1) : scrollOk s.f0 t u s.f4 = true := by
 unfold scrollOk
 simp only [h.g, h.y, Bool.true_and, Bool.and_true, Bool.and_eq_true, decide_eq_true_eq]
 exact ⟨h0, h1, h2⟩
theorem up (s : S34) (h : Mg s) (t u by_ : Int) (h0 : 0 ≤ t) (h1 : t ≤ u) (h2 : u < s.f0.f1) (k : Nat) (hk : 1100000 ≤ k) : F131i34m0b_0_.f k s t u by_ s.f4 = some (scr s t u by_) := by
 have hok := scrollOk_of h h0 h1 h2
 obtain ⟨w, q, i, j, e0, e1, rfl, rfl, hw0, hw5, hq5, hij, hj, hl, hb⟩ := scrollOk_size hok
 rw [f73 s s.f0.f2 w q i j s.f0.f1 by_ s.f4 (by rw [← e0]) hl hw0 hw5 hq5 hij hj k (by omega)]
 unfold scr sScroll
 rw [if_pos hok, e0]
 simp only [Int.toNat_natCast]
theorem scr_dims {s : S34} (h : Mg s) {t u by_ : Int} (h0 : 0 ≤ t) (h1 : t ≤ u) (h2 : u < s.f0.f1) : (scr s t u by_).f0.f0 = s.f0.f0 ∧ (scr s t u by_).f0.f1 = s.f0.f1 := by
 have hok := scrollOk_of h h0 h1 h2
 unfold scr sScroll
 rw [if_pos hok]; exact ⟨rfl, rfl⟩
theorem scr_mg {s : S34} (h : Mg s) {t u by_ : Int} (h0 : 0 ≤ t) (h1 : t ≤ u) (h2 : u < s.f0.f1) : Mg (scr s t u by_) := by
 obtain ⟨d0, d1⟩ := scr_dims (by_ := by_) h h0 h1 h2
 have hok := scrollOk_of h h0 h1 h2
 refine ⟨scroll_may (by unfold sScroll; rw [if_pos hok]), scroll_all h.b, h.y, h.t0, h.t1, ?_, h.r0, ?_⟩
 ·rw [d1]; exact h.t2
 ·rw [d1]; exact h.r1
theorem scr_clip {s : S34} (h : Mg s) {t u x y : Int} (h0 : 0 ≤ t) (h1 : t ≤ u) (h2 : u < s.f0.f1) (e : clip 512 x = clip 512 y) : scr s t u x = scr s t u y := by
 have hok := scrollOk_of h h0 h1 h2
 obtain ⟨w, q, i, j, e0, e1, rfl, rfl, hw0, hw5, hq5, hij, hj, hl, hb⟩ := scrollOk_size hok
 unfold scr sScroll
 rw [if_pos hok, if_pos hok, e0]
 simp only [Int.toNat_natCast]
 have hm : i * w + (j + 1 - i) * w ≤ w * q := by
  rw [← Nat.add_mul, Nat.mul_comm w q]
  exact Nat.mul_le_mul_right _ (by omega)
 have hW := wlen (xs := s.f0.f2) (o := i * w) (n := (j + 1 - i) * w) (by omega)
 have e2 : clip ((j + 1 - i : Nat) : Int) x = clip ((j + 1 - i : Nat) : Int) y := by
  unfold clip at e ⊢; omega
 rw [← slide_clipm (x := x) hW hw0, ← slide_clipm (x := y) hW hw0, e2]
def dFeed (s : S34) : S34 := if s.f1 = s.f6 then scr s s.f5 s.f6 1 else if s.f1 < s.f0.f1 - 1 then { s with f1 := s.f1 + 1 } else s
def dBack (s : S34) : S34 := if s.f1 = s.f5 then scr s s.f5 s.f6 (-1) else if s.f1 > 0 then { s with f1 := s.f1 - 1 } else s
theorem pfeed (s : S34) (h : Mg s) (k : Nat) (hk : 1100000 ≤ k) : F119Lb_0_.f k s = some (dFeed s) := by
 obtain ⟨w, q, e0, e1, _, _, _, _, _, _⟩ := h.size
 have := h.r0; have := h.r1
 unfold F119Lb_0_.f dFeed
 rw [up s h _ _ _ h.t0 h.t1 h.t2 k hk, w64 (x := s.f0.f1 - 1) (by omega) (by omega), w64 (x := s.f1 + 1) (by omega) (by omega)]
 simp only [Option.bind_some]
 split
 ·rfl
 ·split <;> rfl
theorem pback (s : S34) (h : Mg s) (k : Nat) (hk : 1100000 ≤ k) : F126Lb_0_.f k s = some (dBack s) := by
 obtain ⟨w, q, e0, e1, _, _, _, _, _, _⟩ := h.size
 have := h.r0; have := h.r1
 unfold F126Lb_0_.f dBack
 rw [up s h _ _ _ h.t0 h.t1 h.t2 k hk, w64 (x := s.f1 - 1) (by omega) (by omega)]
 simp only [Option.bind_some]
 split
 ·rfl
 ·split <;> rfl
theorem feed_mg {s : S34} (h : Mg s) : Mg (dFeed s) := by
 unfold dFeed
 split
 ·exact scr_mg h h.t0 h.t1 h.t2
 ·split
  ·exact ⟨h.g, h.b, h.y, h.t0, h.t1, h.t2, by have := h.r0; show 0 ≤ s.f1 + 1; omega, by show s.f1 + 1 < s.f0.f1; omega⟩
  ·exact h
theorem back_mg {s : S34} (h : Mg s) : Mg (dBack s) := by
 unfold dBack
 split
 ·exact scr_mg h h.t0 h.t1 h.t2
 ·split
  ·exact ⟨h.g, h.b, h.y, h.t0, h.t1, h.t2, by show 0 ≤ s.f1 - 1; omega, by have := h.r1; show s.f1 - 1 < s.f0.f1; omega⟩
  ·exact h
structure Like (s t : S34) : Prop where
 d0 : t.f0.f0 = s.f0.f0
 d1 : t.f0.f1 = s.f0.f1
 f4 : t.f4 = s.f4
 f5 : t.f5 = s.f5
 f6 : t.f6 = s.f6
 f7 : t.f7 = s.f7
 f8 : t.f8 = s.f8
 f9 : t.f9 = s.f9
 f10 : t.f10 = s.f10
 f14 : t.f14 = s.f14
 f15 : t.f15 = s.f15
 f16 : t.f16 = s.f16
 f17 : t.f17 = s.f17
theorem Like.refl (s : S34) : Like s s := ⟨rfl, rfl, rfl, rfl, rfl, rfl, rfl, rfl, rfl, rfl, rfl, rfl, rfl⟩
theorem Like.trans {s t u : S34} (a : Like s t) (b : Like t u) : Like s u := ⟨b.d0.trans a.d0, b.d1.trans a.d1, b.f4.trans a.f4, b.f5.trans a.f5, b.f6.trans a.f6, b.f7.trans a.f7, b.f8.trans a.f8, b.f9.trans a.f9, b.f10.trans a.f10, b.f14.trans a.f14, b.f15.trans a.f15, b.f16.trans a.f16, b.f17.trans a.f17⟩
theorem scr_like {s : S34} (h : Mg s) {t u by_ : Int} (h0 : 0 ≤ t) (h1 : t ≤ u) (h2 : u < s.f0.f1) : Like s (scr s t u by_) := by
 obtain ⟨d0, d1⟩ := scr_dims (by_ := by_) h h0 h1 h2
 exact ⟨d0, d1, rfl, rfl, rfl, rfl, rfl, rfl, rfl, rfl, rfl, rfl, rfl⟩
theorem feed_like {s : S34} (h : Mg s) : Like s (dFeed s) ∧ (dFeed s).f2 = s.f2 ∧ (dFeed s).f3 = s.f3 := by
 unfold dFeed
 split
 ·exact ⟨scr_like h h.t0 h.t1 h.t2, rfl, rfl⟩
 ·split
  ·exact ⟨⟨rfl, rfl, rfl, rfl, rfl, rfl, rfl, rfl, rfl, rfl, rfl, rfl, rfl⟩, rfl, rfl⟩
  ·exact ⟨Like.refl s, rfl, rfl⟩
theorem back_like {s : S34} (h : Mg s) : Like s (dBack s) ∧ (dBack s).f2 = s.f2 ∧ (dBack s).f3 = s.f3 := by
 unfold dBack
 split
 ·exact ⟨scr_like h h.t0 h.t1 h.t2, rfl, rfl⟩
 ·split
  ·exact ⟨⟨rfl, rfl, rfl, rfl, rfl, rfl, rfl, rfl, rfl, rfl, rfl, rfl, rfl⟩, rfl, rfl⟩
  ·exact ⟨Like.refl s, rfl, rfl⟩
theorem ok_like {s t : S34} (h : Ok s) (l : Like s t) (hg : Mg t) (hc : 0 ≤ t.f2 ∧ t.f2 < t.f0.f0 ∧ (t.f3 = true → t.f2 = t.f0.f0 - 1)) : Ok t := by
 refine ⟨⟨hg.g, hg.y, ?_, hg.t0, hg.t1, hg.t2, pos_iff.2 ⟨hg.r0, hg.r1, hc⟩, ?_, ?_, ?_, ?_⟩, hg.b, ?_⟩
 ·rw [l.f14]; exact h.m.y2
 ·rw [l.f14]; have := pos_iff.1 h.m.p2; rw [pos_iff, l.d0, l.d1]; exact this
 ·rw [l.f7, l.d0]; exact h.m.tabs
 ·have := h.m.alt; unfold altOk at this ⊢; rw [l.f15, l.f16, l.d0, l.d1]; exact this
 ·rw [l.f17]; exact h.m.ti
 ·rw [l.f16]; exact h.b2
def dMove (s : S34) (a b : Int) : S34 :=
 { s with f1 := mv s.f1 a (if s.f1 ≥ s.f5 then s.f5 else 0) (if s.f1 ≤ s.f6 then s.f6 else s.f0.f1 - 1), f2 := mv s.f2 b 0 (s.f0.f0 - 1), f3 := false }
def dPlace (s : S34) (a b : Int) : S34 :=
 { s with f1 := mv (if s.f9 = true then s.f5 else 0) a (if s.f9 = true then s.f5 else 0) (if s.f9 = true then s.f6 else s.f0.f1 - 1), f2 := mv 0 b 0 (s.f0.f0 - 1), f3 := false }
theorem plast (s : S34) (h0 : 1 ≤ s.f0.f0) (h1 : s.f0.f0 ≤ 512) : F120Lb_0_.f s = some (s.f0.f0 - 1) := by
 unfold F120Lb_0_.f; rw [w64 (by omega) (by omega)]; rfl
theorem pmove (s : S34) (h : Ok s) (a b : Int) : F77Lb_0_.f s a b = some (dMove s a b) := by
 obtain ⟨w, q, e0, e1, _, _, _, _, _, _⟩ := h.size
 have hp := pos_iff.1 h.m.p
 have := h.m.t0; have := h.m.t1; have := h.m.t2
 unfold F77Lb_0_.f dMove
 rw [w64 (x := s.f0.f1 - 1) (by omega) (by omega), f128, f128]
 simp only [lt]
 by_cases c1 : s.f1 ≤ s.f6
 ·by_cases c2 : s.f1 ≥ s.f5
  ·simp only [c1, c2, if_true, Option.bind_some]
   rw [cl_mv (by omega) (by omega) (by omega) (by omega) (by omega)]
   simp only [Option.bind_some]
   rw [plast _ (by show 1 ≤ s.f0.f0; omega) (by show s.f0.f0 ≤ 512; omega)]
   simp only [Option.bind_some]
   rw [cl_mv (by omega) (by omega) (by omega) (by omega) (by omega)]; rfl
  ·simp only [c1, c2, if_true, if_false, Option.bind_some]
   rw [cl_mv (by omega) (by omega) (by omega) (by omega) (by omega)]
   simp only [Option.bind_some]
   rw [plast _ (by show 1 ≤ s.f0.f0; omega) (by show s.f0.f0 ≤ 512; omega)]
   simp only [Option.bind_some]
   rw [cl_mv (by omega) (by omega) (by omega) (by omega) (by omega)]; rfl
 ·have c2 : s.f1 ≥ s.f5 := by omega
  simp only [c1, c2, if_true, if_false, Option.bind_some]
  rw [cl_mv (by omega) (by omega) (by omega) (by omega) (by omega)]
  simp only [Option.bind_some]
  rw [plast _ (by show 1 ≤ s.f0.f0; omega) (by show s.f0.f0 ≤ 512; omega)]
  simp only [Option.bind_some]
  rw [cl_mv (by omega) (by omega) (by omega) (by omega) (by omega)]; rfl
theorem mv_le {n b lo hi : Int} (h : lo ≤ hi) : lo ≤ mv n b lo hi ∧ mv n b lo hi ≤ hi := by unfold mv; omega
theorem okMove {s : S34} (h : Ok s) (a b : Int) : Ok (dMove s a b) := by
 obtain ⟨w, q, e0, e1, _, _, _, _, _, _⟩ := h.size
 have hp := pos_iff.1 h.m.p
 have := h.m.t0; have := h.m.t1; have := h.m.t2
 have hm := h.mg
 have z1 := mv_le (n := s.f1) (b := a) (lo := if s.f1 ≥ s.f5 then s.f5 else 0) (hi := if s.f1 ≤ s.f6 then s.f6 else s.f0.f1 - 1) (by split <;> split <;> omega)
 have z2 := mv_le (n := s.f2) (b := b) (lo := 0) (hi := s.f0.f0 - 1) (by omega)
 refine ok_like h ⟨rfl, rfl, rfl, rfl, rfl, rfl, rfl, rfl, rfl, rfl, rfl, rfl, rfl⟩ ⟨hm.g, hm.b, hm.y, hm.t0, hm.t1, hm.t2, ?_, ?_⟩ ⟨z2.1, ?_, fun q => by cases q⟩
 ·refine Int.le_trans ?_ z1.1; split <;> omega
 ·refine Int.lt_of_le_of_lt z1.2 ?_
  show _ < s.f0.f1
  split <;> omega
 ·show mv s.f2 b 0 (s.f0.f0 - 1) < s.f0.f0
  omega
theorem pplace (s : S34) (h0 : 1 ≤ s.f0.f0) (h1 : s.f0.f0 ≤ 512) (h2 : 1 ≤ s.f0.f1) (h3 : s.f0.f1 ≤ 512) (t0 : 0 ≤ s.f5) (t1 : s.f5 ≤ s.f6) (t2 : s.f6 < s.f0.f1) (a b : Int) : F79Lb_0_.f s a b = some (dPlace s a b) := by
 have col : F127.f b 0 (s.f0.f0 - 1) = some (mv 0 b 0 (s.f0.f0 - 1)) := by rw [f127]; unfold mv; congr 1; omega
 unfold F79Lb_0_.f dPlace
 rw [w64 (x := s.f0.f1 - 1) (by omega) (by omega), f128]
 simp only [lt]
 cases hf : s.f9
 ·simp only [Bool.false_eq_true, if_false, Option.bind_some]
  rw [cl_mv (by omega) (by omega) (by omega) (by omega) (by omega)]
  simp only [Option.bind_some]
  rw [plast _ (by show 1 ≤ s.f0.f0; omega) (by show s.f0.f0 ≤ 512; omega)]
  simp only [Option.bind_some]
  rw [col]; simp only [hf, Option.bind_some]
 ·simp only [if_true, Option.bind_some]
  rw [cl_mv (by omega) (by omega) (by omega) (by omega) (by omega)]
  simp only [Option.bind_some]
  rw [plast _ (by show 1 ≤ s.f0.f0; omega) (by show s.f0.f0 ≤ 512; omega)]
  simp only [Option.bind_some]
  rw [col]; simp only [hf, Option.bind_some]
theorem okPlace {s : S34} (h : Ok s) (a b : Int) : Ok (dPlace s a b) := by
 obtain ⟨w, q, e0, e1, _, _, _, _, _, _⟩ := h.size
 have := h.m.t0; have := h.m.t1; have := h.m.t2
 have hm := h.mg
 have z1 := mv_le (n := if s.f9 = true then s.f5 else 0) (b := a) (lo := if s.f9 = true then s.f5 else 0) (hi := if s.f9 = true then s.f6 else s.f0.f1 - 1) (by split <;> omega)
 have z2 := mv_le (n := 0) (b := b) (lo := 0) (hi := s.f0.f0 - 1) (by omega)
 refine ok_like h ⟨rfl, rfl, rfl, rfl, rfl, rfl, rfl, rfl, rfl, rfl, rfl, rfl, rfl⟩ ⟨hm.g, hm.b, hm.y, hm.t0, hm.t1, hm.t2, ?_, ?_⟩ ⟨z2.1, ?_, fun q => by cases q⟩
 ·refine Int.le_trans ?_ z1.1; split <;> omega
 ·refine Int.lt_of_le_of_lt z1.2 ?_
  show _ < s.f0.f1
  split <;> omega
 ·show mv 0 b 0 (s.f0.f0 - 1) < s.f0.f0
  omega
def dRegion (s : S34) (t b : Int) : S34 := if t < 0 ∨ t ≥ b ∨ b ≥ s.f0.f1 then s else dPlace { s with f5 := t, f6 := b } 0 0
theorem pregion (s : S34) (h : Ok s) (t b : Int) : F89Lb_0_.f s t b = some (dRegion s t b) := by
 obtain ⟨w, q, e0, e1, _, _, _, _, _, _⟩ := h.size
 unfold F89Lb_0_.f dRegion
 simp only [lt]
 by_cases c : t < 0 ∨ t ≥ b ∨ b ≥ s.f0.f1
 ·rw [if_pos c, if_pos (by simpa [or_assoc] using c)]
 ·rw [if_neg c, if_neg (by simpa [or_assoc] using c), pplace _ (by show 1 ≤ s.f0.f0; omega) (by show s.f0.f0 ≤ 512; omega) (by show 1 ≤ s.f0.f1; omega) (by show s.f0.f1 ≤ 512; omega) (by show 0 ≤ t; omega) (by show t ≤ b; omega) (by show b < s.f0.f1; omega)]
  rfl
theorem region_ok {s : S34} (h : Ok s) {t b : Int} (c : ¬ (t < 0 ∨ t ≥ b ∨ b ≥ s.f0.f1)) : Ok { s with f5 := t, f6 := b } :=
 ⟨⟨h.m.g, h.m.y, h.m.y2, by show 0 ≤ t; omega, by show t ≤ b; omega, by show b < s.f0.f1; omega, h.m.p, h.m.p2, h.m.tabs, h.m.alt, h.m.ti⟩, h.b, h.b2⟩
theorem okRegion {s : S34} (h : Ok s) (t b : Int) : Ok (dRegion s t b) := by
 unfold dRegion
 split
 ·exact h
 ·rename_i c; exact okPlace (region_ok h c) 0 0
def dKeep (s : S34) (back : Bool) : S34 := if back = true then { s with f1 := s.f14.f0, f2 := s.f14.f1, f3 := s.f14.f2, f9 := s.f14.f3, f4 := s.f14.f4 } else { s with f14 := S31.mk s.f1 s.f2 s.f3 s.f9 s.f4 }
theorem pkeep (s : S34) (b : Bool) : F64Lb_0_.f s b = some (dKeep s b) := by
 unfold F64Lb_0_.f dKeep; split <;> rfl
theorem okKeep {s : S34} (h : Ok s) (b : Bool) : Ok (dKeep s b) := by
 unfold dKeep
 split
 ·exact ⟨⟨h.m.g, h.m.y2, h.m.y2, h.m.t0, h.m.t1, h.m.t2, h.m.p2, h.m.p2, h.m.tabs, h.m.alt, h.m.ti⟩, h.b, h.b2⟩
 ·exact ⟨⟨h.m.g, h.m.y, h.m.y, h.m.t0, h.m.t1, h.m.t2, h.m.p, h.m.p, h.m.tabs, h.m.alt, h.m.ti⟩, h.b, h.b2⟩
def dScroll (s : S34) (n : Int) : S34 := { scr s s.f5 s.f6 n with f3 := false }
def dLines (s : S34) (n : Int) : S34 := if s.f1 < s.f5 ∨ s.f1 > s.f6 then s else { scr s s.f1 s.f6 (-n) with f2 := 0, f3 := false }
theorem pscroll (s : S34) (h : Ok s) (n : Int) (k : Nat) (hk : 1100000 ≤ k) : F87Lb_0_.f k s n = some (dScroll s n) := by
 unfold F87Lb_0_.f
 rw [up s h.mg _ _ _ h.m.t0 h.m.t1 h.m.t2 k hk]; rfl
theorem cursor {s : S34} (h : Ok s) : 0 ≤ s.f2 ∧ s.f2 < s.f0.f0 ∧ (s.f3 = true → s.f2 = s.f0.f0 - 1) := (pos_iff.1 h.m.p).2.2
theorem mg_cur {s : S34} (h : Mg s) (c : Int) (p : Bool) : Mg { s with f2 := c, f3 := p } := ⟨h.g, h.b, h.y, h.t0, h.t1, h.t2, h.r0, h.r1⟩
theorem like_cur {s t : S34} (l : Like s t) (c : Int) (p : Bool) : Like s { t with f2 := c, f3 := p } := ⟨l.d0, l.d1, l.f4, l.f5, l.f6, l.f7, l.f8, l.f9, l.f10, l.f14, l.f15, l.f16, l.f17⟩
theorem okScroll {s : S34} (h : Ok s) (n : Int) : Ok (dScroll s n) := by
 have hm := scr_mg (by_ := n) h.mg h.m.t0 h.m.t1 h.m.t2
 have hl := scr_like (by_ := n) h.mg h.m.t0 h.m.t1 h.m.t2
 have hc := cursor h
 exact ok_like h (like_cur hl s.f2 false) (mg_cur hm s.f2 false) ⟨hc.1, by have := hl.d0; show s.f2 < (scr s s.f5 s.f6 n).f0.f0; omega, fun q => by cases q⟩
theorem lines_by {n : Int} : clip 512 (-(max (-1024) (min n 1024))) = clip 512 (-n) := by unfold clip; omega
theorem plines (s : S34) (h : Ok s) (n : Int) (k : Nat) (hk : 1100000 ≤ k) : F83Lb_0_.f k s n = some (dLines s n) := by
 have hp := pos_iff.1 h.m.p
 unfold F83Lb_0_.f dLines
 rw [f128]
 by_cases c1 : s.f1 < s.f5
 ·simp [c1]
 ·by_cases c2 : s.f1 > s.f6
  ·simp [c1, c2]
  ·have c3 : ¬ (s.f1 < s.f5 ∨ s.f1 > s.f6) := by omega
   simp only [c1, c2, c3, if_false, decide_false, Option.bind_some, Bool.false_eq_true]
   rw [up s h.mg _ _ _ (by omega) (by omega) h.m.t2 k hk, w64 (by omega) (by omega), show (0 : Int) - max (-1024) (min n 1024) = -(max (-1024) (min n 1024)) from by omega, scr_clip h.mg (by omega) (by omega) h.m.t2 lines_by]
   rfl
theorem okLines {s : S34} (h : Ok s) (n : Int) : Ok (dLines s n) := by
 unfold dLines
 split
 ·exact h
 ·have hp := pos_iff.1 h.m.p
  have hm := scr_mg (t := s.f1) (u := s.f6) (by_ := -n) h.mg (by omega) (by omega) h.m.t2
  have hl := scr_like (t := s.f1) (u := s.f6) (by_ := -n) h.mg (by omega) (by omega) h.m.t2
  obtain ⟨w, q, e0, e1, _, _, _, _, _, _⟩ := h.size
  exact ok_like h (like_cur hl 0 false) (mg_cur hm 0 false) ⟨by show (0 : Int) ≤ 0; omega, by have := hl.d0; show (0 : Int) < (scr s s.f1 s.f6 (-n)).f0.f0; omega, fun q => by cases q⟩
end Go.Proofs.YtckilbegmbaeeaaGreat.Z4Sc

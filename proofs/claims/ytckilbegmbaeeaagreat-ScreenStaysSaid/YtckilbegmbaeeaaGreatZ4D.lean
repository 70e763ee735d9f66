import Derived.Test.YtckilbegmbaeeaaGreatZ4C
namespace Go.Proofs.YtckilbegmbaeeaaGreat.Z4Sc
open Go Go.RowKit Go.Proofs.YtckilbegmbaeeaaGreat.SL Go.Proofs.YtckilbegmbaeeaaGreat.Z4 Go.Proofs.YtckilbegmbaeeaaGreat.Z4May Go.Proofs.YtckilbegmbaeeaaGreat.Z4Ls Go.Proofs.YtckilbegmbaeeaaGreat.Z4Op Go.Proofs.YtckilbegmbaeeaaGreat.Z4Sp
set_option linter.unusedVariables false
set_option linter.unusedSimpArgs false
def setMark (x : S55) (c : Int) : S55 :=
 if x.f1.f0 = 0 then { x with f1 := S53.mk c x.f1.f1 x.f1.f2 } else if x.f1.f1 = 0 then { x with f1 := S53.mk x.f1.f0 c x.f1.f2 } else if x.f1.f2 = 0 then { x with f1 := S53.mk x.f1.f0 x.f1.f1 c } else x
def markC (x : S55) (c : Int) : S55 := if wid c ≠ 0 ∨ x.f2 = 0 ∨ x.f2 > 2 then x else setMark x c
theorem f151 (x : S55) (c : Int) (k : Nat) (hk : 44 ≤ k) : F151.f k x c = some (markC x c) := by
 obtain ⟨k, rfl⟩ : ∃ j, k = j + 4 := ⟨k - 4, by omega⟩
 have n0 : (0 : Int) < 3 := by decide
 have n1 : (1 : Int) < 3 := by decide
 have n2 : (2 : Int) < 3 := by decide
 have n3 : ¬ (3 : Int) < 3 := by decide
 have m0 : (0 : Int) ≤ 0 ∧ (0 : Int) < 3 := by decide
 have m1 : (0 : Int) ≤ 1 ∧ (1 : Int) < 3 := by decide
 have m2 : (0 : Int) ≤ 2 ∧ (2 : Int) < 3 := by decide
 have hl : F151.l0 x c (k + 4) x 0 = some (setMark x c) := by
  unfold setMark
  simp only [F151.l0, lt, r30, r31, r32, ww0, ww1, ww2, n0, n1, n2, n3, m0, m1, m2, and_self, if_true, if_false]
  by_cases ha : x.f1.f0 = 0
  ·simp [ha]
  ·by_cases hb : x.f1.f1 = 0
   ·simp [ha, hb]
   ·by_cases hc : x.f1.f2 = 0
    ·simp [ha, hb, hc]
    ·simp [ha, hb, hc]
 unfold F151.f markC
 rw [f111 c (k + 4) (by omega), hl]
 simp only [Option.bind_some, lt]
 by_cases h0 : wid c = 0
 ·by_cases h1 : x.f2 = 0
  ·simp [h0, h1]
  ·by_cases h2 : x.f2 > 2
   ·simp [h0, h1, h2]
   ·simp [h0, h1, h2]
 ·simp [h0]
theorem mark_f2 (x : S55) (c : Int) : (markC x c).f2 = x.f2 ∧ (markC x c).f3 = x.f3 := by
 unfold markC setMark
 split
 ·exact ⟨rfl, rfl⟩
 ·split
  ·exact ⟨rfl, rfl⟩
  ·split
   ·exact ⟨rfl, rfl⟩
   ·split <;> exact ⟨rfl, rfl⟩
theorem wid0 : wid 0 = -1 := by kernel_rfl
theorem mark_may {x : S55} {c : Int} (h : mayCell x = true) : mayCell (markC x c) = true := by
 unfold markC
 split
 ·exact h
 ·rename_i q
  have q0 : wid c = 0 := by
   by_cases z : wid c = 0
   ·exact z
   ·exact absurd (.inl z) q
  have q1 : ¬ x.f2 = 0 := fun z => q (.inr (.inl z))
  have q2 : ¬ x.f2 > 2 := fun z => q (.inr (.inr z))
  have hc0 : c ≠ 0 := fun z => by rw [z, wid0] at q0; omega
  unfold mayCell at h
  by_cases hy : mayStyle x.f3 = false
  ·rw [if_pos hy] at h; cases h
  ·rw [if_neg hy, if_neg q1, if_neg q2] at h
   by_cases hw : wid x.f0 = x.f2
   ·rw [if_pos hw] at h
    unfold setMark
    unfold marksOk at h
    by_cases ha : x.f1.f0 = 0
    ·rw [if_pos ha] at h ⊢
     simp only [Bool.and_eq_true, decide_eq_true_eq] at h
     unfold mayCell
     simp only [hy, q1, q2, hw, if_false, if_true]
     unfold marksOk
     simp [hc0, h.1, h.2, q0]
    ·rw [if_neg ha] at h ⊢
     by_cases hb : x.f1.f1 = 0
     ·rw [if_pos hb] at h ⊢
      simp only [Bool.and_eq_true, decide_eq_true_eq] at h
      unfold mayCell
      simp only [hy, q1, q2, hw, if_false, if_true]
      unfold marksOk
      simp [hc0, ha, h.1, h.2, q0]
     ·rw [if_neg hb] at h ⊢
      simp only [Bool.and_eq_true, Bool.or_eq_true, decide_eq_true_eq] at h
      by_cases hd : x.f1.f2 = 0
      ·rw [if_pos hd]
       unfold mayCell
       simp only [hy, q1, q2, hw, if_false, if_true]
       unfold marksOk
       simp [hc0, ha, hb, h.1, q0]
      ·rw [if_neg hd]
       unfold mayCell
       simp only [hy, q1, q2, hw, if_false, if_true]
       unfold marksOk
       rcases h.2 with z | z
       ·exact absurd z hd
       ·simp [ha, hb, hd, h.1, z]
   ·rw [if_neg hw] at h; cases h
theorem may_map {g : S26} {Y : List S55} (h : mayGrid g = true) (hl : Y.length = g.f2.length) (hY : ∀ i, i < Y.length → (rd Y (i : Int)).f2 = (rd g.f2 (i : Int)).f2 ∧ (rd Y (i : Int)).f3 = (rd g.f2 (i : Int)).f3 ∧ mayCell (rd Y (i : Int)) = true) : mayGrid (S26.mk g.f0 g.f1 Y) = true := by
 unfold mayGrid at h ⊢
 simp only [Bool.and_eq_true, List.all_eq_true, List.mem_range] at h ⊢
 refine ⟨by rw [hl]; exact h.1, fun i hi => ?_⟩
 have h2 := h.2 i (by omega)
 rw [okR_iff] at h2 ⊢
 obtain ⟨a, b, c, d⟩ := h2
 obtain ⟨e1, e2, e3⟩ := hY i hi
 simp only at e1 e2 e3 ⊢
 by_cases h0 : i = 0
 ·subst h0
  rw [e1, e2]
  refine ⟨e3, ⟨fun z => absurd (b.1 z).1 (by simp), fun z => absurd z.1 (by simp)⟩, fun z => absurd z.1 (by simp), d⟩
 ·obtain ⟨p1, p2, _⟩ := hY (i - 1) (by omega)
  rw [e1, e2, p1, p2]
  exact ⟨e3, b, c, d⟩
theorem rd_set {X : List S55} {n i : Nat} {v : S55} (hn : n < X.length) (hi : i < X.length) : rd (X.set n v) (i : Int) = if i = n then v else rd X (i : Int) := by
 refine rd_some (by omega) ?_
 rw [Int.toNat_natCast, List.getElem?_set]
 by_cases z : n = i
 ·rw [if_pos z, if_pos z.symm, if_pos (by omega)]
 ·rw [if_neg z, if_neg (Ne.symm z), some_rd hi]
def mAt (s : S34) : Nat :=
 let n := s.f1.toNat * s.f0.f0.toNat + (if s.f3 = true then s.f2 else s.f2 - 1).toNat
 if (rd s.f0.f2 (n : Int)).f2 = 0 then n - 1 else n
def dMark (s : S34) (c : Int) : S34 :=
 if (if s.f3 = true then s.f2 else s.f2 - 1) < 0 then s else { s with f0 := S26.mk s.f0.f0 s.f0.f1 (s.f0.f2.set (mAt s) (markC (rd s.f0.f2 (mAt s : Int)) c)) }
theorem half {s : S34} (h : Mg s) {w q i j : Nat} (e0 : s.f0.f0 = (w : Int)) (e1 : s.f0.f1 = (q : Int)) (hi : i < q) (hj : j < w) (hp : i * w + w ≤ s.f0.f2.length) (hz : (rd s.f0.f2 ((i * w + j : Nat) : Int)).f2 = 0) : 0 < j := by
 have hr := grid_rows h e0 e1 hi j (by rw [wlen hp]; exact hj)
 have e : rd (win s.f0.f2 (i * w) w) (j : Int) = rd s.f0.f2 ((i * w + j : Nat) : Int) := by rw [rd_win hj hp]; congr 1
 have := hr.2.1.1 (by rw [e]; exact hz)
 exact this.1
theorem pmark (s : S34) (h : Ok s) (c : Int) (k : Nat) (hk : 1100000 ≤ k) : F118Lb_0_.f k s c = some (dMark s c) := by
 obtain ⟨w, q, i, e0, e1, e2, a, b, c', d, hi, hl, hb, hp⟩ := h.mg.at
 have hc := cursor h
 have e1' : (if (!s.f3) = true then (lt (IntKind.i64.wrap (s.f2 - 1)) fun n10 => some n10) else (some s.f2) : Option Int) = some (if s.f3 = true then s.f2 else s.f2 - 1) := by
  rw [w64 (by omega) (by omega)]; cases s.f3 <;> rfl
 unfold F118Lb_0_.f dMark mAt
 rw [e1', e0, e2]
 simp only [Option.bind_some, Int.toNat_natCast]
 have hlt : (if s.f3 = true then s.f2 else s.f2 - 1) < (w : Int) := by split <;> omega
 generalize (if s.f3 = true then s.f2 else s.f2 - 1) = t at hlt ⊢
 by_cases ht : t < 0
 ·rw [if_pos ht, if_pos ht]
 ·obtain ⟨j, rfl⟩ : ∃ j : Nat, t = (j : Int) := ⟨t.toNat, by omega⟩
  have hj : j < w := by omega
  rw [if_neg ht, if_neg ht, prow s w q i e0 e2 hl hb hi]
  simp only [Option.bind_some, Int.toNat_natCast]
  rw [if_pos (by omega), if_pos (by omega), show ((i * w : Nat) : Int) + (j : Int) = ((i * w + j : Nat) : Int) from by omega]
  by_cases hz : (rd s.f0.f2 ((i * w + j : Nat) : Int)).f2 = 0
  ·have h0 := half h.mg e0 e1 hi hj hp hz
   rw [if_pos hz, if_pos hz, w64 (by omega) (by omega)]
   simp only [lt, Option.bind_some]
   rw [if_pos (by omega), show ((i * w : Nat) : Int) + ((j : Int) - 1) = ((i * w + j - 1 : Nat) : Int) from by omega, f151 _ c k (by omega)]
   simp only [Option.bind_some, Int.toNat_natCast]
   rw [if_pos (by omega)]
  ·rw [if_neg hz, if_neg hz]
   simp only [lt, Option.bind_some]
   rw [if_pos (by omega), show ((i * w : Nat) : Int) + (j : Int) = ((i * w + j : Nat) : Int) from by omega, f151 _ c k (by omega)]
   simp only [Option.bind_some, Int.toNat_natCast]
   rw [if_pos (by omega)]
theorem okMark {s : S34} (h : Ok s) (c : Int) : Ok (dMark s c) := by
 obtain ⟨w, q, i, e0, e1, e2, a, b, c', d, hi, hl, hb, hp⟩ := h.mg.at
 have hc := cursor h
 unfold dMark
 by_cases ht : (if s.f3 = true then s.f2 else s.f2 - 1) < 0
 ·rw [if_pos ht]; exact h
 ·rw [if_neg ht]
  have hn : mAt s < s.f0.f2.length := by
   unfold mAt
   rw [e0, e2]
   simp only [Int.toNat_natCast]
   have : (if s.f3 = true then s.f2 else s.f2 - 1).toNat < w := by split <;> omega
   generalize (if s.f3 = true then s.f2 else s.f2 - 1).toNat = j at this ⊢
   split <;> omega
  generalize mAt s = n at hn
  have hm := h.mg
  refine ok_like h ⟨rfl, rfl, rfl, rfl, rfl, rfl, rfl, rfl, rfl, rfl, rfl, rfl, rfl⟩ ⟨may_map h.m.g (by simp) fun r hr => ?_, fun x hx => ?_, hm.y, hm.t0, hm.t1, hm.t2, hm.r0, hm.r1⟩ hc
  ·rw [List.length_set] at hr
   rw [rd_set hn hr]
   have hcell : mayCell (rd s.f0.f2 (r : Int)) = true := by
    have := h.m.g
    unfold mayGrid at this
    simp only [Bool.and_eq_true, List.all_eq_true, List.mem_range] at this
    exact ((okR_iff _ _ _).1 (this.2 r hr)).1
   by_cases z : r = n
   ·subst z; rw [if_pos rfl]
    have := mark_f2 (rd s.f0.f2 (r : Int)) c
    exact ⟨this.1, this.2, mark_may hcell⟩
   ·rw [if_neg z]; exact ⟨rfl, rfl, hcell⟩
  ·replace hx : x ∈ s.f0.f2.set n _ := hx
   rcases List.mem_or_eq_of_mem_set hx with z | z
   ·exact h.b x z
   ·have := mark_f2 (rd s.f0.f2 (n : Int)) c
    have h2 := h.b _ (rd_mem hn)
    unfold byte at h2 ⊢
    rw [z, this.1]; exact h2
theorem wid_in (c : Int) : wid c = -1 ∨ wid c = 0 ∨ wid c = 1 ∨ wid c = 2 := by
 unfold wid; split
 ·exact .inl rfl
 ·split
  ·exact .inr (.inl rfl)
  ·split
   ·exact .inr (.inr (.inr rfl))
   ·exact .inr (.inr (.inl rfl))
def putL (c w : Int) (y : S28) : List S55 := S55.mk c (S53.mk 0 0 0) w y :: (if w = 2 then [S55.mk 0 (S53.mk 0 0 0) 0 y] else [])
theorem putL_may {c w : Int} {y : S28} (hy : mayStyle y = true) (hw : wid c = w) (h : w = 1 ∨ w = 2) : ∀ x ∈ putL c w y, mayCell x = true := by
 have h1 : mayCell (S55.mk c (S53.mk 0 0 0) w y) = true := by
  unfold mayCell
  have q1 : ¬ w = 0 := by omega
  have q2 : ¬ w > 2 := by omega
  simp only [hy, q1, q2, hw, if_false, if_true, Bool.true_eq_false]
  decide
 have h2 : mayCell (S55.mk 0 (S53.mk 0 0 0) 0 y) = true := by
  unfold mayCell
  simp only [hy, if_true, Bool.true_eq_false, if_false]
  decide
 intro x hx
 unfold putL at hx
 split at hx
 ·simp only [List.mem_cons, List.not_mem_nil, or_false] at hx
  rcases hx with rfl | rfl
  ·exact h1
  ·exact h2
 ·simp only [List.mem_cons, List.not_mem_nil, or_false] at hx
  rw [hx]; exact h1
theorem putL_byte {c w : Int} {y : S28} (h : w = 1 ∨ w = 2) : ∀ x ∈ putL c w y, byte x := by
 intro x hx
 unfold putL at hx
 unfold byte
 split at hx
 ·simp only [List.mem_cons, List.not_mem_nil, or_false] at hx
  rcases hx with rfl | rfl
  ·simp only; omega
  ·simp only; omega
 ·simp only [List.mem_cons, List.not_mem_nil, or_false] at hx
  rw [hx]; simp only; omega
theorem f124 (c : Int) (y : S28) {w : Int} (hw : wid c = w) (h : w = 1 ∨ w = 2) (k : Nat) (hk : 44 ≤ k) : F124.f k c y = some (putL c w y) := by
 unfold F124.f F152.f putL
 rw [f111 c k (by omega), hw]
 rcases h with rfl | rfl
 ·simp only [Option.bind_some, if_true, decide_true]
  simp [lt, show IntKind.u8.wrap 1 = 1 from by decide]
 ·simp only [Option.bind_some, decide_true]
  simp [lt, show IntKind.u8.wrap 2 = 2 from by decide]
def fPut (s : S34) (c w : Int) : List S55 → List S55 := fun W => over W s.f2.toNat ((putL c w s.f4).take (s.f0.f0.toNat - s.f2.toNat))
theorem fPut_len {s : S34} {c w : Int} {W : List S55} (hW : W.length = s.f0.f0.toNat) (h : s.f2.toNat ≤ s.f0.f0.toNat) : (fPut s c w W).length = W.length := over_len2 (by rw [List.length_take]; omega)
def dPut (s : S34) (c w : Int) : S34 :=
 let t := if s.f10 = true then onR s (fSh s w) else s
 let u := onR t (fPut t c w)
 if s.f2 + w > s.f0.f0 - 1 then { u with f2 := s.f0.f0 - 1, f3 := true } else { u with f2 := s.f2 + w }
theorem put_mg {s : S34} (h : Mg s) (hc : 0 ≤ s.f2 ∧ s.f2 < s.f0.f0) {c w : Int} (hw : wid c = w) (h1 : w = 1 ∨ w = 2) : Mg (onR s (fPut s c w)) := by
 refine onR_mg h (fun W hW hm => ⟨fPut_len hW (by omega), fun x hx => ?_⟩) (fun W hW => over_all hW fun x hx => putL_byte h1 x (List.mem_of_mem_take hx))
 rcases over_mem hx with q | q
 ·exact hm x q
 ·exact putL_may h.y hw h1 x (List.mem_of_mem_take q)
structure Pr (s : S34) : Prop where
 m : Mg s
 c : 0 ≤ s.f2 ∧ s.f2 < s.f0.f0
 p : s.f3 = false
theorem ok_put {s0 s : S34} (h : Ok s0) (l : Like s0 s) (hp : Pr s) {c w : Int} (hw : wid c = w) (h1 : w = 1 ∨ w = 2) : Ok (dPut s c w) := by
 have ht : Mg (if s.f10 = true then onR s (fSh s w) else s) := by
  split
  ·exact shift_mg hp.m hp.c w
  ·exact hp.m
 have hl : Like s (if s.f10 = true then onR s (fSh s w) else s) := by
  split
  ·exact onR_like s _
  ·exact Like.refl s
 have h2 : (if s.f10 = true then onR s (fSh s w) else s).f2 = s.f2 := by split <;> rfl
 have h3 : (if s.f10 = true then onR s (fSh s w) else s).f3 = s.f3 := by split <;> rfl
 unfold dPut
 simp only
 generalize (if s.f10 = true then onR s (fSh s w) else s) = t at ht hl h2 h3
 have hu := put_mg ht (by rw [h2, hl.d0]; exact hp.c) hw h1
 have hlu : Like s0 (onR t (fPut t c w)) := (l.trans hl).trans (onR_like t _)
 have d0 : (onR t (fPut t c w)).f0.f0 = s.f0.f0 := hl.d0
 have hc := hp.c
 split
 ·exact ok_like h (like_cur hlu _ _) (mg_cur hu _ _) ⟨by show 0 ≤ s.f0.f0 - 1; omega, by show s.f0.f0 - 1 < (onR t (fPut t c w)).f0.f0; omega, fun _ => by show s.f0.f0 - 1 = (onR t (fPut t c w)).f0.f0 - 1; omega⟩
 ·refine ok_like h (like_cur hlu (s.f2 + w) (onR t (fPut t c w)).f3) (mg_cur hu _ _) ⟨by show 0 ≤ s.f2 + w; omega, by show s.f2 + w < (onR t (fPut t c w)).f0.f0; omega, fun q => ?_⟩
  have : (onR t (fPut t c w)).f3 = s.f3 := h3
  replace q : (onR t (fPut t c w)).f3 = true := q
  rw [this, hp.p] at q; cases q
def Tp (k : Nat) (a1 r8 : Int) (s794 : S34) : Option S34 := (F121Lb_0_.f s794).bind (fun r837 => if (0 ≤ r837.1 ∧ 0 ≤ r837.2 ∧ r837.1 + r837.2 ≤ (s794.f0.f2.length : Int)) then ((if s794.f10 = true then ((F122w0.f k s794.f0.f2 r837.1 r837.2 s794.f2 r8 s794.f4).bind (fun r1564 => if r1564.length = s794.f0.f2.length then (some r1564) else none)) else (some s794.f0.f2) : Option ((List S55))).bind (fun t842 => if t842.length = s794.f0.f2.length then ((F124.f k a1 s794.f4).bind (fun r2346 => (F123w0b2.f k t842 r837.1 r837.2 s794.f2 r2346).bind (fun r2406 => if r2406.length = t842.length then ((F120Lb_0_.f (S34.mk (S26.mk s794.f0.f0 s794.f0.f1 r2406) s794.f1 (IntKind.i64.wrap (s794.f2 + r8)) s794.f3 s794.f4 s794.f5 s794.f6 s794.f7 s794.f8 s794.f9 s794.f10 s794.f11 s794.f12 s794.f13 s794.f14 s794.f15 s794.f16 s794.f17)).bind (fun r2828 => if (IntKind.i64.wrap (s794.f2 + r8)) > r2828 then ((F120Lb_0_.f (S34.mk (S26.mk s794.f0.f0 s794.f0.f1 r2406) s794.f1 (IntKind.i64.wrap (s794.f2 + r8)) s794.f3 s794.f4 s794.f5 s794.f6 s794.f7 s794.f8 s794.f9 s794.f10 s794.f11 s794.f12 s794.f13 s794.f14 s794.f15 s794.f16 s794.f17)).bind (fun r3250 => some ((S34.mk (S26.mk s794.f0.f0 s794.f0.f1 r2406) s794.f1 r3250 true s794.f4 s794.f5 s794.f6 s794.f7 s794.f8 s794.f9 s794.f10 s794.f11 s794.f12 s794.f13 s794.f14 s794.f15 s794.f16 s794.f17)))) else (some ((S34.mk (S26.mk s794.f0.f0 s794.f0.f1 r2406) s794.f1 (IntKind.i64.wrap (s794.f2 + r8)) s794.f3 s794.f4 s794.f5 s794.f6 s794.f7 s794.f8 s794.f9 s794.f10 s794.f11 s794.f12 s794.f13 s794.f14 s794.f15 s794.f16 s794.f17))))) else none))) else none)) else none)
theorem ptail (s : S34) (h : Pr s) (c : Int) {w' : Int} (hw' : wid c = w') (h1 : w' = 1 ∨ w' = 2) (k : Nat) (hk : 1100000 ≤ k) : Tp k c w' s = some (dPut s c w') := by
 obtain ⟨w, q, i, e0, e1, e2, a, b, c', d, hi, hl, hb, hp⟩ := h.m.at
 have hc := h.c
 unfold Tp
 rw [prow s w q i e0 e2 hl hb hi]
 simp only [Option.bind_some]
 rw [if_pos (by omega)]
 obtain ⟨X, hX, hXl, hT⟩ : ∃ X : List S55, (if s.f10 = true then ((F122w0.f k s.f0.f2 ((i * w : Nat) : Int) (w : Int) s.f2 w' s.f4).bind (fun r1564 => if r1564.length = s.f0.f2.length then (some r1564) else none)) else (some s.f0.f2) : Option ((List S55))) = some X ∧ X.length = s.f0.f2.length ∧ (if s.f10 = true then onR s (fSh s w') else s) = { s with f0 := S26.mk s.f0.f0 s.f0.f1 X } := by
  by_cases c10 : s.f10 = true
  ·have hw := wlen hp
   have hXl : (over s.f0.f2 (i * w) (mendL (fSh s w' (win s.f0.f2 (i * w) w)))).length = s.f0.f2.length := over_len2 (by rw [mend_len, fSh_len (by omega), hw]; exact hp)
   refine ⟨_, ?_, hXl, ?_⟩
   ·rw [if_pos c10, pshift s h.m hc w' w q i e0 e2 b hl hb hp k hk]
    simp only [Option.bind_some]
    rw [if_pos hXl]
   ·rw [if_pos c10, onR_eq e0 e2]
  ·refine ⟨s.f0.f2, by rw [if_neg c10], rfl, by rw [if_neg c10]⟩
 rw [hX]
 simp only [Option.bind_some]
 rw [if_pos hXl, f124 c s.f4 hw' h1 k (by omega)]
 simp only [Option.bind_some]
 obtain ⟨cc, hcc⟩ : ∃ cc : Nat, s.f2 = (cc : Int) := ⟨s.f2.toNat, by omega⟩
 have hput : F123w0b2.f k X ((i * w : Nat) : Int) (w : Int) s.f2 (putL c w' s.f4) = some (over X (i * w) (mendL (over (win X (i * w) w) cc ((putL c w' s.f4).take (w - cc))))) := by
  rw [hcc]; exact f87 X (i * w) w cc (putL c w' s.f4) (by omega) (by omega) (by omega) k (by omega)
 rw [hput]
 simp only [Option.bind_some]
 have hYl : (over X (i * w) (mendL (over (win X (i * w) w) cc ((putL c w' s.f4).take (w - cc))))).length = X.length := over_len2 (by rw [mend_len, over_len2 (by rw [List.length_take, wlen (by omega)]; omega), wlen (by omega)]; omega)
 rw [if_pos hYl, plast _ (by show 1 ≤ s.f0.f0; omega) (by show s.f0.f0 ≤ 512; omega)]
 simp only [Option.bind_some]
 rw [w64 (x := s.f2 + w') (by omega) (by omega)]
 unfold dPut
 simp only
 rw [hT, onR_eq (s := { s with f0 := S26.mk s.f0.f0 s.f0.f1 X }) (w := w) (i := i) e0 e2]
 have hf : fPut { s with f0 := S26.mk s.f0.f0 s.f0.f1 X } c w' (win X (i * w) w) = over (win X (i * w) w) cc ((putL c w' s.f4).take (w - cc)) := by
  unfold fPut
  simp only [e0, hcc, Int.toNat_natCast]
 simp only
 rw [hf]
 split <;> rfl
def wrapS (s : S34) : S34 := if (s.f3 && s.f8) = true then dFeed { s with f2 := 0 } else s
def dPr2 (u : S34) (c : Int) : S34 :=
 if wid c = 2 ∧ u.f2 = u.f0.f0 - 1 then
  if u.f8 = false ∨ u.f0.f0 - 1 = 0 then u else dPut (dFeed { u with f2 := 0 }) c (wid c)
 else dPut u c (wid c)
def dPrint (s : S34) (c : Int) : S34 :=
 if wid c ≤ 0 then (if wid c = 0 then dMark s c else s) else dPr2 { wrapS s with f3 := false } c
theorem wrap_pr {s : S34} (h : Ok s) : Pr { wrapS s with f3 := false } ∧ Like s { wrapS s with f3 := false } ∧ Mg (wrapS s) := by
 have hc := cursor h
 have hm : Mg (wrapS s) := by
  unfold wrapS
  split
  ·exact feed_mg (mg_cur h.mg 0 s.f3)
  ·exact h.mg
 have hl : Like s (wrapS s) := by
  unfold wrapS
  split
  ·exact (like_cur (Like.refl s) 0 s.f3).trans (feed_like (mg_cur h.mg 0 s.f3)).1
  ·exact Like.refl s
 have h2 : 0 ≤ (wrapS s).f2 ∧ (wrapS s).f2 < s.f0.f0 := by
  unfold wrapS
  split
  ·rw [(feed_like (mg_cur h.mg 0 s.f3)).2.1]; exact ⟨Int.le_refl _, by show (0 : Int) < s.f0.f0; omega⟩
  ·exact ⟨hc.1, hc.2.1⟩
 exact ⟨⟨mg_cur hm (wrapS s).f2 false, ⟨h2.1, by show (wrapS s).f2 < (wrapS s).f0.f0; rw [hl.d0]; exact h2.2⟩, rfl⟩, like_cur hl (wrapS s).f2 false, hm⟩
theorem again_pr {s u : S34} (hu : Pr u) (l : Like s u) : Pr (dFeed { u with f2 := 0 }) ∧ Like s (dFeed { u with f2 := 0 }) := by
 have hm := mg_cur hu.m 0 u.f3
 have hf := feed_like hm
 have hc := hu.c
 refine ⟨⟨feed_mg hm, ?_, ?_⟩, (like_cur l 0 u.f3).trans hf.1⟩
 ·rw [hf.2.1, hf.1.d0]; exact ⟨Int.le_refl _, by show (0 : Int) < u.f0.f0; omega⟩
 ·rw [hf.2.2]; exact hu.p
theorem okPrint {s : S34} (h : Ok s) (c : Int) : Ok (dPrint s c) := by
 unfold dPrint
 split
 ·split
  ·exact okMark h c
  ·exact h
 ·rename_i hw
  have h1 : wid c = 1 ∨ wid c = 2 := by have := wid_in c; omega
  obtain ⟨hp, hl, _⟩ := wrap_pr h
  generalize ({ wrapS s with f3 := false } : S34) = u at hp hl ⊢
  unfold dPr2
  split
  ·split
   ·exact ok_like h hl hp.m ⟨hp.c.1, hp.c.2, fun q => by rw [hp.p] at q; cases q⟩
   ·obtain ⟨a, b⟩ := again_pr hp hl
    exact ok_put h b a rfl h1
  ·exact ok_put h hl hp rfl h1
theorem pprint (s : S34) (h : Ok s) (c : Int) (k : Nat) (hk : 1100100 ≤ k) : F73Lb_0_.f k s c = some (dPrint s c) := by
 have hT : ∀ (u : S34), Pr u → wid c = 1 ∨ wid c = 2 → Tp k c (wid c) u = some (dPut u c (wid c)) := fun u hu h1 => ptail u hu c rfl h1 k (by omega)
 obtain ⟨w, q, e0, e1, a, b, c', d, hl, hb⟩ := h.size
 unfold F73Lb_0_.f dPrint
 rw [f111 c k (by omega)]
 simp only [Option.bind_some]
 by_cases hw : wid c ≤ 0
 ·rw [if_pos hw, if_pos hw, pmark s h c k (by omega)]
  by_cases hz : wid c = 0
  ·rw [if_pos hz, if_pos hz]; rfl
  ·rw [if_neg hz, if_neg hz]
 ·have h1 : wid c = 1 ∨ wid c = 2 := by have := wid_in c; omega
  obtain ⟨hp, hl', hm⟩ := wrap_pr h
  rw [if_neg hw, if_neg hw]
  simp only [lt]
  have e : (if (s.f3 && s.f8) = true then ((F119Lb_0_.f k (S34.mk s.f0 s.f1 0 s.f3 s.f4 s.f5 s.f6 s.f7 s.f8 s.f9 s.f10 s.f11 s.f12 s.f13 s.f14 s.f15 s.f16 s.f17)).bind (fun r50 => some r50)) else (some s) : Option (S34)) = some (wrapS s) := by
   unfold wrapS
   split
   ·have := pfeed { s with f2 := 0 } (mg_cur h.mg 0 s.f3) k (by omega)
    rw [show F119Lb_0_.f k (S34.mk s.f0 s.f1 0 s.f3 s.f4 s.f5 s.f6 s.f7 s.f8 s.f9 s.f10 s.f11 s.f12 s.f13 s.f14 s.f15 s.f16 s.f17) = _ from this]; rfl
   ·rfl
  rw [e]
  simp only [Option.bind_some]
  generalize hu : ({ wrapS s with f3 := false } : S34) = u at hp hl' ⊢
  unfold dPr2
  have hu' : S34.mk (wrapS s).f0 (wrapS s).f1 (wrapS s).f2 false (wrapS s).f4 (wrapS s).f5 (wrapS s).f6 (wrapS s).f7 (wrapS s).f8 (wrapS s).f9 (wrapS s).f10 (wrapS s).f11 (wrapS s).f12 (wrapS s).f13 (wrapS s).f14 (wrapS s).f15 (wrapS s).f16 (wrapS s).f17 = u := hu
  have hu0 : S34.mk (wrapS s).f0 (wrapS s).f1 0 false (wrapS s).f4 (wrapS s).f5 (wrapS s).f6 (wrapS s).f7 (wrapS s).f8 (wrapS s).f9 (wrapS s).f10 (wrapS s).f11 (wrapS s).f12 (wrapS s).f13 (wrapS s).f14 (wrapS s).f15 (wrapS s).f16 (wrapS s).f17 = { u with f2 := 0 } := by rw [← hu]
  have g2 : (wrapS s).f2 = u.f2 := by rw [← hu]
  have g8 : (wrapS s).f8 = u.f8 := by rw [← hu]
  try rw [hu']
  rw [hu0, g2, g8, plast u (by rw [hl'.d0]; omega) (by rw [hl'.d0]; omega)]
  obtain ⟨ha, hb'⟩ := again_pr hp hl'
  have hf := pfeed { u with f2 := 0 } (mg_cur hp.m 0 u.f3) k (by omega)
  rw [hf]
  simp only [Option.bind_some]
  by_cases c1 : wid c = 2
  ·rw [if_pos c1]
   simp only [Option.bind_some, decide_eq_true_eq]
   by_cases c2 : u.f2 = u.f0.f0 - 1
   ·rw [if_pos c2, if_pos (⟨c1, c2⟩ : wid c = 2 ∧ u.f2 = u.f0.f0 - 1)]
    by_cases c3 : u.f8 = false ∨ u.f0.f0 - 1 = 0
    ·rw [if_pos c3]
     cases h8 : u.f8
     ·simp [el_r]
     ·rcases c3 with z | z
      ·rw [h8] at z; cases z
      ·simp [z, el_r]
    ·rw [if_neg c3]
     have z1 : u.f8 = true := by cases h8 : u.f8 <;> simp_all
     have z2 : ¬ (u.f0.f0 - 1 = 0) := fun z => c3 (.inr z)
     rw [if_neg (show ¬ ((!u.f8) = true) by rw [z1]; decide)]
     simp only [z2, Bool.false_eq_true, if_false, Option.bind_some, decide_false, el_g]
     exact hT _ ha h1
   ·rw [if_neg c2, if_neg (show ¬ (wid c = 2 ∧ u.f2 = u.f0.f0 - 1) from fun z => c2 z.2)]
    simp only [Option.bind_some, el_g]
    exact hT _ hp h1
  ·rw [if_neg c1, if_neg (show ¬ (wid c = 2 ∧ u.f2 = u.f0.f0 - 1) from fun z => c1 z.1)]
   simp only [Option.bind_some, el_g, Bool.false_eq_true, if_false]
   exact hT _ hp h1
end Go.Proofs.YtckilbegmbaeeaaGreat.Z4Sc

import Derived.Test.YtckilbegmbaeeaaGreatZ4D
namespace Go.Proofs.YtckilbegmbaeeaaGreat.Z4Sc
open Go Go.RowKit Go.Proofs.YtckilbegmbaeeaaGreat.SL Go.Proofs.YtckilbegmbaeeaaGreat.Z4 Go.Proofs.YtckilbegmbaeeaaGreat.Z4May Go.Proofs.YtckilbegmbaeeaaGreat.Z4Ls Go.Proofs.YtckilbegmbaeeaaGreat.Z4Op Go.Proofs.YtckilbegmbaeeaaGreat.Z4Sp
set_option linter.unusedVariables false
set_option linter.unusedSimpArgs false
def dOther (s : S34) (on : Bool) : S34 :=
 if (on && !s.f15) = true then { s with f0 := S26.mk s.f0.f0 s.f0.f1 (List.replicate s.f0.f2.length (blk s.f4)), f15 := true, f16 := s.f0 }
 else if (!on && s.f15) = true then { s with f0 := s.f16, f15 := false, f16 := S26.mk 0 0 [] } else s
theorem pother (s : S34) (h : Ok s) (on : Bool) (k : Nat) (hk : 1300000 ≤ k) : F132Lb_0_.f k s on = some (dOther s on) := by
 obtain ⟨w, q, e0, e1, a, b, c, d, hl, hb⟩ := h.size
 unfold F132Lb_0_.f dOther
 simp only [lt]
 cases ho : (on && !s.f15)
 ·simp only [Bool.false_eq_true, if_false]
  split <;> rfl
 ·simp only [if_true]
  rw [if_pos (by omega)]
  have hz : (List.replicate (s.f0.f2.length : Int).toNat (S55.mk 0 (S53.mk 0 0 0) 0 (S28.mk 0 0 false false false false false false false false))).length = w * q := by rw [List.length_replicate, Int.toNat_natCast, hl]
  generalize List.replicate (s.f0.f2.length : Int).toNat (S55.mk 0 (S53.mk 0 0 0) 0 (S28.mk 0 0 false false false false false false false false)) = Z at hz
  obtain ⟨Y, y1, y2, y3⟩ := f130 { s with f0 := S26.mk s.f0.f0 s.f0.f1 Z, f15 := true, f16 := s.f0 } w q 0 q e0 b d hz hb (by omega) k (by omega)
  rw [← e1] at y1
  rw [show F130Lb_0_.f k (S34.mk (S26.mk s.f0.f0 s.f0.f1 Z) s.f1 s.f2 s.f3 s.f4 s.f5 s.f6 s.f7 s.f8 s.f9 s.f10 s.f11 s.f12 s.f13 s.f14 true s.f0 s.f17) 0 s.f0.f1 = _ from y1]
  simp only [Option.bind_some]
  have hY : Y = List.replicate s.f0.f2.length (blk s.f4) := by
   refine rows_ext y2 (by simp [hl]) fun n hn => ?_
   have := y3 n hn
   rw [this, if_pos (by omega), hl, blanks_row hn]
   have hp := place (w := w) hn
   have hwz : (win Z (n * w) w).length = w := wlen (by omega)
   have hf : fEr { s with f0 := S26.mk s.f0.f0 s.f0.f1 Z, f15 := true, f16 := s.f0 } 0 (w : Int) (win Z (n * w) w) = List.replicate w (blk s.f4) := by
    unfold fEr over
    simp [hwz]
   show mendL (fEr { s with f0 := S26.mk s.f0.f0 s.f0.f1 Z, f15 := true, f16 := s.f0 } 0 (w : Int) (win Z (n * w) w)) = _
   rw [hf, mend_id (blank_good w h.m.y)]
  rw [hY]
theorem blanks_may {s : S34} (h : Ok s) : mayGrid (S26.mk s.f0.f0 s.f0.f1 (List.replicate s.f0.f2.length (blk s.f4))) = true := by
 obtain ⟨w, q, e0, e1, a, b, c, d, hl, hb⟩ := h.size
 rw [mayGrid_iff]
 refine ⟨w, q, e0, e1, a, b, c, d, by simp [hl], fun r hr => ?_⟩
 show RowG (win (List.replicate s.f0.f2.length (blk s.f4)) (r * w) w)
 rw [hl, blanks_row hr]
 exact blank_good w h.m.y
theorem okOther {s : S34} (h : Ok s) (on : Bool) : Ok (dOther s on) := by
 unfold dOther
 split
 ·refine ⟨⟨blanks_may h, h.m.y, h.m.y2, h.m.t0, h.m.t1, h.m.t2, h.m.p, h.m.p2, h.m.tabs, ?_, h.m.ti⟩, rep_all, h.b⟩
  unfold altOk
  simp [h.m.g]
 ·split
  ·rename_i _ ho
   simp only [Bool.and_eq_true] at ho
   have ha := h.m.alt
   unfold altOk at ha
   rw [if_pos ho.2] at ha
   simp only [Bool.and_eq_true, decide_eq_true_eq] at ha
   obtain ⟨⟨a1, a2⟩, a3⟩ := ha
   have p := pos_iff.1 h.m.p
   have p2 := pos_iff.1 h.m.p2
   refine ⟨⟨a1, h.m.y, h.m.y2, h.m.t0, h.m.t1, by show s.f6 < s.f16.f1; rw [a3]; exact h.m.t2, pos_iff.2 (by show 0 ≤ s.f1 ∧ s.f1 < s.f16.f1 ∧ 0 ≤ s.f2 ∧ s.f2 < s.f16.f0 ∧ (s.f3 = true → s.f2 = s.f16.f0 - 1); rw [a2, a3]; exact p), pos_iff.2 (by show 0 ≤ s.f14.f0 ∧ s.f14.f0 < s.f16.f1 ∧ 0 ≤ s.f14.f1 ∧ s.f14.f1 < s.f16.f0 ∧ (s.f14.f2 = true → s.f14.f1 = s.f16.f0 - 1); rw [a2, a3]; exact p2), by show tabsOk s.f16.f0 (-1) s.f7 = true; rw [a2]; exact h.m.tabs, by unfold altOk; simp, h.m.ti⟩, h.b2, fun x hx => by simp at hx⟩
  ·exact h
def dMode (s : S34) (priv : Bool) (n : Int) (on : Bool) : S34 :=
 if priv = false then (if n = 4 then { s with f10 := on } else s)
 else if n = 1 then { s with f11 := on } else if n = 6 then dPlace { s with f9 := on } 0 0 else if n = 7 then { s with f8 := on } else if n = 25 then { s with f13 := on } else if n = 2004 then { s with f12 := on }
 else if n = 47 ∨ n = 1047 then dOther s on
 else if n = 1049 then (if on = true then dOther (dKeep s false) true else if s.f15 = true then dKeep (dOther s false) true else s)
 else s
theorem ok_flags {s : S34} (h : Ok s) (b8 b9 b10 b11 b12 b13 : Bool) : Ok { s with f8 := b8, f9 := b9, f10 := b10, f11 := b11, f12 := b12, f13 := b13 } :=
 ⟨⟨h.m.g, h.m.y, h.m.y2, h.m.t0, h.m.t1, h.m.t2, h.m.p, h.m.p2, h.m.tabs, h.m.alt, h.m.ti⟩, h.b, h.b2⟩
theorem okMode {s : S34} (h : Ok s) (priv : Bool) (n : Int) (on : Bool) : Ok (dMode s priv n on) := by
 unfold dMode
 split
 ·split
  ·exact ok_flags h s.f8 s.f9 on s.f11 s.f12 s.f13
  ·exact h
 ·split
  ·exact ok_flags h s.f8 s.f9 s.f10 on s.f12 s.f13
  ·split
   ·exact okPlace (ok_flags h s.f8 on s.f10 s.f11 s.f12 s.f13) 0 0
   ·split
    ·exact ok_flags h on s.f9 s.f10 s.f11 s.f12 s.f13
    ·split
     ·exact ok_flags h s.f8 s.f9 s.f10 s.f11 s.f12 on
     ·split
      ·exact ok_flags h s.f8 s.f9 s.f10 s.f11 on s.f13
      ·split
       ·exact okOther h on
       ·split
        ·split
         ·exact okOther (okKeep h false) true
         ·split
          ·exact okKeep (okOther h false) true
          ·exact h
        ·exact h
theorem pmode (s : S34) (h : Ok s) (priv : Bool) (n : Int) (on : Bool) (k : Nat) (hk : 1300000 ≤ k) : F91Lb_0_.f k s priv n on = some (dMode s priv n on) := by
 obtain ⟨w, q, e0, e1, a, b, c, d, hl, hb⟩ := h.size
 have hp := pplace { s with f9 := on } (by show 1 ≤ s.f0.f0; omega) (by show s.f0.f0 ≤ 512; omega) (by show 1 ≤ s.f0.f1; omega) (by show s.f0.f1 ≤ 512; omega) h.m.t0 h.m.t1 h.m.t2 0 0
 unfold F91Lb_0_.f dMode
 cases priv
 ·simp only [Bool.not_false, if_true]
  split <;> rfl
 ·simp only [Bool.not_true, Bool.false_eq_true, if_false, Bool.true_eq_false]
  rw [show F79Lb_0_.f (S34.mk s.f0 s.f1 s.f2 s.f3 s.f4 s.f5 s.f6 s.f7 s.f8 on s.f10 s.f11 s.f12 s.f13 s.f14 s.f15 s.f16 s.f17) 0 0 = _ from hp, pother s h on k hk]
  simp only [Option.bind_some]
  by_cases n1 : n = 1
  ·simp only [n1, if_true]
  ·by_cases n6 : n = 6
   ·simp [n1, n6]
   ·by_cases n7 : n = 7
    ·simp [n1, n6, n7]
    ·by_cases n25 : n = 25
     ·simp [n1, n6, n7, n25]
     ·by_cases n2004 : n = 2004
      ·simp [n1, n6, n7, n25, n2004]
      ·by_cases n47 : n = 47
       ·simp [n1, n6, n7, n25, n2004, n47]
       ·by_cases n1047 : n = 1047
        ·simp [n1, n6, n7, n25, n2004, n47, n1047]
        ·by_cases n1049 : n = 1049
         ·simp only [if_neg n1, if_neg n6, if_neg n7, if_neg n25, if_neg n2004, if_neg n47, decide_eq_false n1047, if_neg (show ¬ (n = 47 ∨ n = 1047) from fun z => z.elim n47 n1047), if_pos n1049, Option.bind_some, Bool.false_eq_true, if_false]
          cases on
          ·simp only [Bool.false_eq_true, if_false, Option.bind_some, lt, Bool.not_false, Bool.true_and]
           rw [pother s h false k hk]
           simp only [Option.bind_some]
           cases h15 : s.f15
           ·simp only [Bool.false_eq_true, if_false]
            unfold dOther
            simp [h15]
           ·simp only [if_true]
            rw [pkeep]; rfl
          ·simp only [if_true]
           rw [pkeep]
           simp only [Option.bind_some]
           rw [pother _ (okKeep h false) true k hk]
           simp [lt]
         ·simp [n1, n6, n7, n25, n2004, n47, n1047, n1049]
end Go.Proofs.YtckilbegmbaeeaaGreat.Z4Sc

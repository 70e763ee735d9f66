import Derived.Test.YtckilbegmbaeeaaGreatZ5H
import Derived.Test.YtckilbegmbaeeaaGreatZ5T5
namespace Go.Proofs.YtckilbegmbaeeaaGreat.Z5Pure
open Go Go.RowKit Go.Proofs.YtckilbegmbaeeaaGreat.SL Go.Proofs.YtckilbegmbaeeaaGreat.Z5 Go.Proofs.YtckilbegmbaeeaaGreat.Z5May Go.Proofs.YtckilbegmbaeeaaGreat.Z5Sp Go.Proofs.YtckilbegmbaeeaaGreat.Z5Sc Go.Proofs.YtckilbegmbaeeaaGreat.Z5Op
set_option linter.unusedVariables false
set_option linter.unusedSimpArgs false
theorem l5 (l : List S44) (hL : l.length < 4611686018427387904) (hl : ∀ d ∈ l, 0 ≤ d.f0) : ∀ (m k i : Nat) (s : S34), i + m = l.length → Ok s → m + 40000000000000 < k → ∃ t, F5.l0 l k s (i : Int) = some t ∧ Ok t ∧ t.f14 = s.f14
 | _, 0, _, _, _, _, hk => by omega
 | 0, k + 1, i, s, hi, hs, _ => ⟨s, by rw [F5.l0, if_neg (by omega)], hs, rfl⟩
 | m + 1, k + 1, i, s, hi, hs, hk => by
  have hi' : i < l.length := by omega
  have hb : 0 ≤ (i : Int) ∧ (i : Int) < (l.length : Int) := by omega
  have hd := hl _ (List.getElem_mem hi')
  rw [← rd_lt hi'] at hd
  have e : F5.l0 l (k + 1) s (i : Int) = if ((rd l (i : Int)).f0 = 9 ∨ (rd l (i : Int)).f0 ≥ 13 ∨ (rd l (i : Int)).f0 = 10) then F5.l0 l k s ((i + 1 : Nat) : Int) else
    (if (dD s (rd l (i : Int))).2 = 0 then F5.l0 l k (dD s (rd l (i : Int))).1 ((i + 1 : Nat) : Int) else F5.l0 l k s ((i + 1 : Nat) : Int)) := by
   rw [F5.l0, if_pos hb.2, if_pos hb, if_pos hb, if_pos hb, if_pos hb, pdone s hs.sg _ k (by omega), wsucc (by omega)]
   simp only [Option.bind_some, lt]
   by_cases c9 : (rd l (i : Int)).f0 = 9
   ·simp [c9]
   ·by_cases c13 : (rd l (i : Int)).f0 ≥ 13
    ·simp [c9, c13]
    ·by_cases c10 : (rd l (i : Int)).f0 = 10
     ·simp [c10]
     ·simp [c9, c13, c10]
  rw [e]
  by_cases c : ((rd l (i : Int)).f0 = 9 ∨ (rd l (i : Int)).f0 ≥ 13 ∨ (rd l (i : Int)).f0 = 10)
  ·rw [if_pos c]
   exact l5 l hL hl m k (i + 1) s (by omega) hs (by omega)
  ·obtain ⟨h1, h2, h3⟩ := dD_kept hs hd (by omega) (by omega) (by omega)
   rw [if_neg c, if_pos h2]
   obtain ⟨t, a1, a2, a3⟩ := l5 l hL hl m k (i + 1) _ (by omega) h3 (by omega)
   exact ⟨t, a1, a2, a3.trans h1⟩
theorem row (s : S34) (l : List S44) (w0 : wf34 s) (w1 : l.length * 32 ≤ 140737488351232 ∧ ∀ y_ ∈ l, wf44 y_) : ∃ k, F5.f k s l = some true := by
 obtain ⟨hs, hb⟩ := sg_of w0
 refine ⟨50000000000000 + l.length, ?_⟩
 generalize hk : (50000000000000 + l.length : Nat) = k
 unfold F5.f
 rw [pd9 s hs false k (by omega), f75 s hs k (by omega), f14 k (by omega)]
 simp only [Option.bind_some]
 cases hm : mayScreen s
 ·simp [res, hm]
 ·have h := ok_of hs hm
  have hk1 := okKeep h false
  have e1 : res s (dKeep s false) = (dKeep s false, 0) := by unfold res; rw [if_pos hm]
  have e2 : res (dKeep s false) (dKeep (dKeep s false) true) = (dKeep (dKeep s false) true, 0) := by unfold res; rw [if_pos hk1.may]
  obtain ⟨t, a1, a2, a3⟩ := l5 l (by omega) (fun d hd => (u8_of (w1.2 d hd).1).1) l.length k 0 _ (by omega) hk1 (by omega)
  have e3 : res t (dKeep t true) = (dKeep t true, 0) := by unfold res; rw [if_pos a2.may]
  have hg := h.gr.len
  obtain ⟨w, q, _, _, _, _, _, _, hl, hb'⟩ := h.size
  have hgr : F18b0b1.f k (dKeep (dKeep s false) true).f0 s.f0 = some true := by
   rw [show (dKeep (dKeep s false) true).f0 = s.f0 from rfl, f40 s.f0 s.f0 (by omega) k (by omega), same_refl]
  rw [e1]
  simp only [ne_eq, not_true_eq_false, if_false]
  rw [pd9 _ hk1.sg true k (by omega), e2]
  simp only [Option.bind_some, ne_eq, not_true_eq_false, if_false, lt]
  rw [hgr, show F5.l0 l k (dKeep s false) 0 = _ from a1]
  simp only [Option.bind_some, Bool.not_true]
  rw [pd9 t a2.sg true k (by omega), e3]
  simp only [Option.bind_some]
  have k14 : t.f14 = S31.mk s.f1 s.f2 s.f3 s.f9 s.f4 := a3
  have z1 : (dKeep t true).f1 = s.f1 := by show t.f14.f0 = _; rw [k14]
  have z2 : (dKeep t true).f2 = s.f2 := by show t.f14.f1 = _; rw [k14]
  have z3 : (dKeep t true).f3 = s.f3 := by show t.f14.f2 = _; rw [k14]
  have z4 : (dKeep t true).f4 = s.f4 := by show t.f14.f4 = _; rw [k14]
  have y1 : (dKeep (dKeep s false) true).f1 = s.f1 := rfl
  have y2 : (dKeep (dKeep s false) true).f2 = s.f2 := rfl
  have y3 : (dKeep (dKeep s false) true).f3 = s.f3 := rfl
  have y4 : (dKeep (dKeep s false) true).f4 = s.f4 := rfl
  have y9 : (dKeep (dKeep s false) true).f9 = s.f9 := rfl
  simp [z1, z2, z3, z4, y1, y2, y3, y4, y9]
end Go.Proofs.YtckilbegmbaeeaaGreat.Z5Pure

import Derived.Test.YtckilbegmbaeeaaGreatZ4H
import Derived.Test.YtckilbegmbaeeaaGreatZ4T4
namespace Go.Proofs.YtckilbegmbaeeaaGreat.Z4Pure
open Go Go.RowKit Go.Proofs.YtckilbegmbaeeaaGreat.SL Go.Proofs.YtckilbegmbaeeaaGreat.Z4 Go.Proofs.YtckilbegmbaeeaaGreat.Z4May Go.Proofs.YtckilbegmbaeeaaGreat.Z4Sp Go.Proofs.YtckilbegmbaeeaaGreat.Z4Sc Go.Proofs.YtckilbegmbaeeaaGreat.Z4Op
set_option linter.unusedVariables false
set_option linter.unusedSimpArgs false
theorem l4 (l : List S44) (hL : l.length < 4611686018427387904) (hl : ∀ d ∈ l, 0 ≤ d.f0) : ∀ (m k i : Nat) (s : S34), i + m = l.length → Ok s → m + 40000000000000 < k → F4.l0 l k s (i : Int) = some (Out.go ())
 | _, 0, _, _, _, _, hk => by omega
 | 0, k + 1, i, s, hi, _, _ => by rw [F4.l0, if_neg (by omega)]
 | m + 1, k + 1, i, s, hi, hs, hk => by
  have hi' : i < l.length := by omega
  have hb : 0 ≤ (i : Int) ∧ (i : Int) < (l.length : Int) := by omega
  have hd := hl _ (List.getElem_mem hi')
  rw [← rd_lt hi'] at hd
  rw [F4.l0, if_pos hb.2, if_pos hb, if_pos hb, pdone s hs.sg _ k (by omega), wsucc (by omega)]
  simp only [Option.bind_some, lt]
  rcases dD_ok hs (rd l (i : Int)) with h | h
  ·rw [if_neg (by rw [h.1]; decide), f75 _ h.2.sg k (by omega), f74 _ h.2.sg k (by omega), h.2.may]
   simp only [Option.bind_some, Bool.not_true, Bool.false_eq_true, if_false]
   exact l4 l hL hl m k (i + 1) _ (by omega) h.2 (by omega)
  ·rw [if_pos (by rw [h.1]; decide), if_neg (by omega)]
   exact l4 l hL hl m k (i + 1) _ (by omega) hs (by omega)
theorem row (s : S34) (l : List S44) (w0 : wf34 s) (w1 : l.length * 32 ≤ 140737488351232 ∧ ∀ y_ ∈ l, wf44 y_) : ∃ k, F4.f k s l = some true := by
 obtain ⟨hs, hb⟩ := sg_of w0
 refine ⟨50000000000000 + l.length, ?_⟩
 generalize hk : (50000000000000 + l.length : Nat) = k
 unfold F4.f
 rw [f75 s hs k (by omega), f74 s hs k (by omega), f14 k (by omega)]
 cases hm : mayScreen s
 ·simp
 ·have := l4 l (by omega) (fun d hd => (u8_of (w1.2 d hd).1).1) l.length k 0 s (by omega) (ok_of hs hm) (by omega)
  rw [show F4.l0 l k s 0 = _ from this]
  simp [el_g]
end Go.Proofs.YtckilbegmbaeeaaGreat.Z4Pure

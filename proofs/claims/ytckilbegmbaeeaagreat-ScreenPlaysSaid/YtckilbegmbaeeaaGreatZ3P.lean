import Derived.Test.YtckilbegmbaeeaaGreatZ3H
import Derived.Test.YtckilbegmbaeeaaGreatZ3T3
namespace Go.Proofs.YtckilbegmbaeeaaGreat.Z3Pure
open Go Go.RowKit Go.Proofs.YtckilbegmbaeeaaGreat.SL Go.Proofs.YtckilbegmbaeeaaGreat.Z3 Go.Proofs.YtckilbegmbaeeaaGreat.Z3May Go.Proofs.YtckilbegmbaeeaaGreat.Z3Sp Go.Proofs.YtckilbegmbaeeaaGreat.Z3Sc Go.Proofs.YtckilbegmbaeeaaGreat.Z3Op
set_option linter.unusedVariables false
set_option linter.unusedSimpArgs false
theorem f11 (w q : Nat) (n : Int) (h0 : 0 < w) (h1 : w ≤ 512) (h2 : 0 < q) (h3 : q ≤ 512) : ∃ b,vV.f (w : Int) (q : Int) n = some b:=by
 unfold vV.f
 have hm : w * q ≤ 512 * 512:=Nat.mul_le_mul h1 h3
 have hp : 0 < w * q:=Nat.mul_pos h0 h2
 simp only [lt,show (w : Int) * (q : Int) = ((w * q : Nat) : Int) from by simp,eO (x:=((w * q : Nat) : Int)) (by omega) (by omega)]
 rw [if_pos (by simp; omega),if_pos (by omega)]
 exact ⟨_,rfl⟩
theorem l3 (a : wc) (l : List pM) (r : aG × Int) (hL : l.length < 4611686018427387904) (hl : ∀ d ∈ l,d.f1 ≤ 9223372036854775807) (hr : r.2 = 0) (hH : ∃ b,vV.f a.f0 a.f1 (l.length : Int) = some b) : ∀ (m k i : Nat) (s : aG),i + m = l.length → Ok s → m + 40000000000000 < k →
  F3.l0 a l r k s s (i : Int) = some (Out.go ())
 | _,0,_,_,_,_,hk=>by omega
 | 0,k + 1,i,s,hi,_,_=>by
  have : ¬ ((i : Int) < (l.length : Int)):=by omega
  rw [F3.l0]; simp [lt,this]
 | m + 1,k + 1,i,s,hi,hs,hk=>by
  have hi' : i < l.length:=by omega
  have hii : (i : Int) < (l.length : Int):=by omega
  obtain ⟨b,hb⟩:=hH
  have hd:=hl _ (List.getElem_mem hi')
  rw [← eQ hi'] at hd
  rw [F3.l0,if_pos (c:=0 ≤ (i : Int)∧(i : Int) < (l.length : Int)) (by omega),if_pos (c:=0 ≤ (i : Int)∧(i : Int) < (l.length : Int)) (by omega),hb]
  simp only [lt,hii,hr,decide_true,Bool.and_self,if_true,Option.bind_some]
  cases b
  ·simp only [Bool.not_false,if_true]
   rw [yS s hs.sg _ k (by omega),za s hs.sg _ hd k (by omega)]
   simp only [Option.bind_some]
   rw [mR _ (xg hs.sg _) k (by omega),gX (by omega)]
   simp only [Option.bind_some,Bool.not_true,ne_eq,not_true_eq_false,decide_false,Bool.or_self,Bool.false_eq_true,if_false]
   rcases vP hs (rd l (i : Int)) with h | h
   ·rw [if_pos h.1]
    exact l3 a l r hL hl hr ⟨_,hb⟩ m k (i + 1) _ (by omega) h.2 (by omega)
   ·rw [if_neg (by rw [h.1]; decide)]
    exact l3 a l r hL hl hr ⟨_,hb⟩ m k (i + 1) _ (by omega) hs (by omega)
  ·simp
theorem row (a : wc) (l : List pM) (w0 : yP a) (w1 : l.length * 32 ≤ 140737488351232∧∀ y_ ∈ l,xO y_) : ∃ k,F3.f k a l = some true:=by
 refine ⟨50000000000000 + l.length,?_⟩
 generalize hk : (50000000000000 + l.length : Nat) = k
 unfold F3.f
 rw [f8 _ _ k (by omega),f9 _ _ k (by omega)]
 simp only [Option.bind_some]
 have hl : ∀ d ∈ l,d.f1 ≤ 9223372036854775807:=fun d hd=>(xz (w1.2 d hd).2.1).2
 by_cases hz : dH a.f0 a.f1 = true
 ·have e : qz a.f0 a.f1 = (oK a.f0 a.f1,0):=by unfold qz; rw [if_pos hz]
  obtain ⟨w,q,e0,e1,h0,h1,h2,h3⟩:=iy.1 hz
  rw [e,mR _ (vS hz).big k (by omega)]
  simp only [Option.bind_some,lt]
  have:=l3 a l (oK a.f0 a.f1,0) (by omega) hl rfl (by rw [e0,e1]; exact f11 w q _ h0 h1 h2 h3) l.length k 0 (oK a.f0 a.f1) (by omega) (vS hz) (by omega)
  rw [show F3.l0 a l (oK a.f0 a.f1,0) k (oK a.f0 a.f1) (oK a.f0 a.f1) 0 = _ from this,f14 k (by omega)]
  simp [jh]
 ·have e : qz a.f0 a.f1 = (zS,2):=by unfold qz; rw [if_neg hz]
  rw [e,mR _ qQ k (by omega)]
  simp only [Option.bind_some,lt]
  obtain ⟨j,rfl⟩ : ∃ j,k = j + 1:=⟨k - 1,by omega⟩
  rw [F3.l0,f14 (j + 1) (by omega)]
  simp [lt,jh]
end Go.Proofs.YtckilbegmbaeeaaGreat.Z3Pure

/- What functions compute, and that they do: 106, 41b0, 42b0, 43b0. -/
import Derived.Test.YtckilbegmbaeeaaGreatZ321
namespace Go.Proofs.YtckilbegmbaeeaaGreat.Z3
open Go Go.RowKit Go.Proofs.YtckilbegmbaeeaaGreat.SL
open Go.IntKind (i64)
set_option linter.unusedVariables false
set_option maxHeartbeats 20000000
set_option maxRecDepth 100000
set_option linter.unusedSimpArgs false
attribute [local irreducible] IntKind.wrap cC dO eX gp gl lH fU cN gm rd sub bytesOf eG cL
variable {af ay ar au k : Nat}
variable {ag az aw av : Option Addr}
def jg.l0 (r13 : aG × Bool) : Nat → Int → Int → Option (Int)
  | 0,_,_=>none
  | k + 1,b,a=>if a ≥ 0 then (if 0 ≤ a∧a < (r13.1.f7.length : Int) then (if (rd r13.1.f7 a) > r13.1.f2 then (if 0 ≤ a∧a < (r13.1.f7.length : Int) then (lt (rd r13.1.f7 a) fun c=>lt (i64.wrap (a - 1)) fun d=>jg.l0 r13 k c d) else none) else (lt (i64.wrap (a - 1)) fun h=>jg.l0 r13 k b h)) else none) else (some b)
def jg.f (k : Nat) (a0 : aG) (a1 : Int) : Option (aG × Int):=(eN.f k a0).bind (fun a=>if (!a.2) = true then (some ((a.1,2))) else (if a1 = 8 then (some (((aG.mk a.1.f0 a.1.f1 (dO 0 (i64.wrap (a.1.f2 - 1))) false a.1.f4 a.1.f5 a.1.f6 a.1.f7 a.1.f8 a.1.f9 a.1.f10 a.1.f11 a.1.f12 a.1.f13 a.1.f14 a.1.f15 a.1.f16 a.1.f17),0))) else (if a1 = 9 then (lt (i64.wrap (a.1.f0.f0 - 1)) fun n29=>lt (i64.wrap ((a.1.f7.length : Int) - 1)) fun n30=>(jg.l0 a k n29 n30 : Option (Int)).bind (fun h=>some (((aG.mk a.1.f0 a.1.f1 h false a.1.f4 a.1.f5 a.1.f6 a.1.f7 a.1.f8 a.1.f9 a.1.f10 a.1.f11 a.1.f12 a.1.f13 a.1.f14 a.1.f15 a.1.f16 a.1.f17),0)))) else ((if a1 = 10 then (some (decide (a1 = 10))) else (if a1 = 11 then (some (decide (a1 = 11))) else (some (decide (a1 = 12)))) : Option (Bool)).bind (fun b=>if b = true then ((im.f k a.1).bind (fun c=>some ((({ c with f3:=false }),0)))) else (if a1 = 13 then (some (((aG.mk a.1.f0 a.1.f1 0 false a.1.f4 a.1.f5 a.1.f6 a.1.f7 a.1.f8 a.1.f9 a.1.f10 a.1.f11 a.1.f12 a.1.f13 a.1.f14 a.1.f15 a.1.f16 a.1.f17),0))) else (if a1 = 141 then (if a.1.f1 = a.1.f5 then ((cu.f k a.1.f0 a.1.f5 a.1.f6 (-1) a.1.f4).bind (fun d=>some (((aG.mk d.1 a.1.f1 a.1.f2 false a.1.f4 a.1.f5 a.1.f6 a.1.f7 a.1.f8 a.1.f9 a.1.f10 a.1.f11 a.1.f12 a.1.f13 a.1.f14 a.1.f15 a.1.f16 a.1.f17),0)))) else (if a.1.f1 > 0 then (some (((aG.mk a.1.f0 (i64.wrap (a.1.f1 - 1)) a.1.f2 false a.1.f4 a.1.f5 a.1.f6 a.1.f7 a.1.f8 a.1.f9 a.1.f10 a.1.f11 a.1.f12 a.1.f13 a.1.f14 a.1.f15 a.1.f16 a.1.f17),0))) else (some (((aG.mk a.1.f0 a.1.f1 a.1.f2 false a.1.f4 a.1.f5 a.1.f6 a.1.f7 a.1.f8 a.1.f9 a.1.f10 a.1.f11 a.1.f12 a.1.f13 a.1.f14 a.1.f15 a.1.f16 a.1.f17),0))))) else (some ((a.1,0))))))))))
theorem jg.ok {a0 : aG} {a1 : Int} {r : aG × Int} (H : jg.f k a0 a1 = some r) : df Tryz.prog 41 #[.agg (al a0 ag af az ay aw ar av au).toArray,aJ a1] (aS a0 ag af az ay aw ar av au) (fun v B=>∃ aP aO bA bv bq bp bB bw,v = .tuple #[.agg (al r.1 aP aO bA bv bq bp bB bw).toArray,ae r.2]∧B = (aS r.1 aP aO bA bv bq bp bB bw++aS a0 ag af az ay aw ar av au)):=by
 refine ai Tryz.func41 rfl rfl ?_
 unfold jg.f at H
 refine aQ (o' (bN (h:=fun D=>o' (cy (h:=fun z=>ad aV (h:=bC (ao (bj 0 fun g4=>bj 1 fun g1=>bj 2 fun g2=>bj 3 fun g3=>ah ?_))))))))
 refine l' (ck 4) ?_
 obtain⟨a,d6,H⟩:=ac H
 refine o' (dN [0,1,2,3] [4,5] (eN.ok d6) fun s u b c d o p q=>?_)
 refine ad ax (h:=ad cg (h:=ad cg (h:=o' (bg D 0 8 (al a.1 s u b c d o p q) (h:=ad aV (h:=eJ (ad ax (h:=ad (ca rfl) (h:=bC ?_)))))))))
 rcases bH H with⟨a3,H⟩|⟨a3,H⟩
 ·refine aC rfl a3 (aQ (bD (ck 8) (h:=o' (bg z 0 9 (al a.1 s u b c d o p q) (h:=ad aV (h:=cE ?_))))))
  have h:=aN H;subst h
  exact dt [.cell 4 34,.tmp 5] [0,1,2,3,4,5,6,7] ⟨s,u,b,c,d,o,p,q,rfl,rfl⟩ ⟨cR 9,cP,trivial⟩
 refine aD rfl a3 (ap (aa (ao (aQ (ad ax (h:=bC (aU (aQ (ad (bk rfl rfl) (h:=ad aV (h:=bC ?_)))))))))))
 rcases bH H with⟨a4,H⟩|⟨a4,H⟩
 ·refine aB rfl a4 (ah (ad aE (h:=bD (aT 8) (h:=ad (cY rfl rfl) (h:=bO (ae (dO 0 (i64.wrap (a.1.f2 - 1)))) (nG rfl rfl) (h:=ad aE (h:=o' (cH 8 [ae (dO 0 (i64.wrap (a.1.f2 - 1)))] (h:=(aj (aF (aa (aQ (S' aE ?_))))))))))))))
  refine o' (cH 8 [.bool false] (h:=(cV (bD (ck 8) (h:=o' (bg z 0 9 (al (aG.mk a.1.f0 a.1.f1 (dO 0 (i64.wrap (a.1.f2 - 1))) false a.1.f4 a.1.f5 a.1.f6 a.1.f7 a.1.f8 a.1.f9 a.1.f10 a.1.f11 a.1.f12 a.1.f13 a.1.f14 a.1.f15 a.1.f16 a.1.f17) s u b c d o p q) (h:=ad aV (h:=cF ?_))))))))
  have h:=aN H;subst h
  exact dt [.cell 4 34,.tmp 5] [0,1,2,3,4,5,6,7] ⟨s,u,b,c,d,o,p,q,rfl,rfl⟩ ⟨cR 9,cP,trivial⟩
 refine aA rfl a4 (aQ (ad (bk rfl rfl) (h:=ad aV (h:=bC ?_))))
 rcases bH H with⟨a5,H⟩|⟨a5,H⟩
 ·refine aB rfl a5 (aQ (ad aE (h:=ad aE (h:=bD (aT 8) (h:=S' (cY rfl rfl) ?_)))))
  obtain⟨n29,d7,H⟩:=br H
  refine bO (ae n29) (bz (v:=ae n29) (congrArg (Value.int .i64) d7.symm)) (h:=eJ (ad aE (h:=bD (aT 8) (h:=bO (ae (a.1.f7.length : Int)) (dB Tryz.underlying29 rfl) (h:=S' (cY rfl rfl) ?_)))))
  obtain⟨n30,d8,H⟩:=br H
  refine bO (ae n30) (bz (v:=ae n30) (congrArg (Value.int .i64) d8.symm)) (h:=bC (SA.of_St (l:=[(2,aK D),(4,aK z),(7,ae n29),(8,ae n30)]) (B:=(aS a0 ag af az ay aw ar av au++(aL D 34 (al a.1 s u b c d o p q)::(aS a.1 s u b c d o p q++[aL z 34 (al cx none 0 none 0 none 0 none 0)])))) (St.mk1 (cJ rfl (cJ rfl (cJ rfl (cJ rfl dQ)))) (Gh.sel [4,5,6,7,8,0,1,2,3,9] (by kernel_rfl) (by kernel_rfl))) fun junk=>?_))
  obtain⟨Y,H,a6⟩:=ac H
  refine bI (St [(2,aK D),(4,aK z),(7,ae Y)] (aS a0 ag af az ay aw ar av au++(aL D 34 (al a.1 s u b c d o p q)::(aS a.1 s u b c d o p q++[aL z 34 (al cx none 0 none 0 none 0 none 0)])))) ?_ ?_
  ·refine aU (cw (fun k_ e ds As=>∃ (J : Int) (y : Int),jg.l0 a k_ J y = some Y∧St [(2,aK D),(4,aK z),(7,ae J),(8,ae y)] (aS a0 ag af az ay aw ar av au++(aL D 34 (al a.1 s u b c d o p q)::(aS a.1 s u b c d o p q++[aL z 34 (al cx none 0 none 0 none 0 none 0)]))) e ds As) (k:=k) ⟨_,_,H,kW [0,1,2,3,4,5,6,7,8,9]⟩ ?_)
   clear H
   rintro Z e ds As ⟨J,y,H,d2⟩
   obtain _ | Z:=Z
   ·cases H
   rw [jg.l0] at H
   refine SA.of_St d2 fun junk=>ao (aQ (ad ax (h:=ad (dI rfl rfl) (h:=bC ?_))))
   rcases bH H with⟨a7,H⟩|⟨a7,H⟩
   ·refine aB rfl a7 (ap (aa (ao (aU (ao ?_)))))
    refine fk (dG 0 8) [4,6] [0,1,2,3,5,7,8,9] fun _ _ _ _ _ sH dd pk=>?_
    refine bf 0 rfl sH aE (h:=bT 1 rfl sH (aT 0) (h:=T' 2 rfl sH ax ?_))
    obtain⟨⟨a8,a9⟩,H⟩:=aR H
    refine bT 3 rfl sH (bK (i:=y) Tryz.underlying29 jG rfl rfl (Src.buf (k:=1) rfl) a8 a9) (h:=bT 4 rfl sH (bQ (enc:=(fun x_ : Int=>[Value.int .i64 x_])) (i:=y) (j:=y.toNat * 1) (m:=0) (sz:=1) Tryz.underlying3 rfl rfl rfl rfl (Src.buf (k:=1) rfl) a8 a9 (fun _ _ h=>h) rfl) (h:=bf 5 rfl sH aE (h:=bT 6 rfl sH (aT 0) (h:=bf 7 rfl sH (eR rfl rfl) (h:=aW dd sH (aH (by kernel_rfl) (aa ?_)))))))
    rcases bH H with⟨K,H⟩|⟨K,H⟩
    ·refine aB rfl K (ah (ad aE (h:=bD (aT 0) (h:=S' ax ?_))))
     obtain⟨⟨b0,b1⟩,H⟩:=aR H
     refine bD (bK (i:=y) Tryz.underlying29 jG rfl rfl (Src.buf (k:=1) rfl) b0 b1) (h:=l' (bQ (enc:=(fun x_ : Int=>[Value.int .i64 x_])) (i:=y) (j:=y.toNat * 1) (m:=0) (sz:=1) Tryz.underlying3 rfl rfl rfl rfl (Src.buf (k:=1) rfl) b0 b1 (fun _ _ h=>h) rfl) ?_)
     obtain⟨b2,d3,H⟩:=br H
     refine bO (ae b2) (bz (v:=ae b2) (congrArg (Value.int .i64) d3.symm)) (h:=aj (aF (aa (ah (ad ax (h:=S' (cY rfl rfl) ?_))))))
     obtain⟨b3,d4,H⟩:=br H
     refine bO (ae b3) (bz (v:=ae b3) (congrArg (Value.int .i64) d4.symm)) (h:=aj ?_)
     exact aa ⟨Z,Nat.lt_succ_self _,_,_,H,ed [2,3,4,5,0,6,1,7,8,9]⟩
    refine aA rfl K (ap (aF (aa (ah (ad ax (h:=S' (cY rfl rfl) ?_))))))
    obtain⟨b4,d5,H⟩:=br H
    refine bO (ae b4) (bz (v:=ae b4) (congrArg (Value.int .i64) d5.symm)) (h:=aj ?_)
    exact aa ⟨Z,Nat.lt_succ_self _,_,_,H,ed [2,3,4,5,0,6,1,7,8,9]⟩
   refine aA rfl a7 (ct (bc (bc (cr ?_))))
   have h:=aN H;subst h
   exact bM [0,1,2,3,4,5,6,7,8,9]
  rintro e ds As b6
  clear H
  have H:=a6
  clear a6
  refine aa (SA.of_St b6 fun junk=>ah (ad ax (h:=ad aE (h:=o' (cH 4 [ae Y] (h:=(aj (aF (aa (aQ (ad aE (h:=o' (cH 4 [.bool false] (h:=(cV ?_)))))))))))))))
  refine bD (ck 4) (h:=o' (bg z 0 9 (al (aG.mk a.1.f0 a.1.f1 Y false a.1.f4 a.1.f5 a.1.f6 a.1.f7 a.1.f8 a.1.f9 a.1.f10 a.1.f11 a.1.f12 a.1.f13 a.1.f14 a.1.f15 a.1.f16 a.1.f17) s u b c d o p q) (h:=ad aV (h:=cF ?_))))
  have h:=aN H;subst h
  exact dt [.cell 4 34,.tmp 5] [5,6,7,8,0,1,2,3] ⟨s,u,b,c,d,o,p,q,rfl,rfl⟩ ⟨cR 9,cP,trivial⟩
 refine aA rfl a5 (ao (aQ (ad (bk rfl rfl) (h:=ad aV (h:=bC ?_)))))
 obtain⟨d9,H,a2⟩:=ac H
 refine bI (St [(2,aK D),(4,aK z),(17,aJ a1),(55,.bool d9)] (aS a0 ag af az ay aw ar av au++(aL D 34 (al a.1 s u b c d o p q)::(aS a.1 s u b c d o p q++[aL z 34 (al cx none 0 none 0 none 0 none 0)])))) ?_ ?_
 ·rcases bH H with⟨L,H⟩|⟨L,H⟩
  ·refine aB rfl L (ap ?_)
   have h:=aN H;subst h
   exact bM [4,5,6,7,8,0,1,2,3,9]
  refine aA rfl L (aQ (ad (bk rfl rfl) (h:=ad aV (h:=bC ?_))))
  rcases bH H with⟨M,H⟩|⟨M,H⟩
  ·refine aB rfl M (ap ?_)
   have h:=aN H;subst h
   exact bM [4,5,6,7,8,0,1,2,3,9]
  refine aA rfl M (ah (ad (bk rfl rfl) (h:=ad aV (h:=aj ?_))))
  have h:=aN H;subst h
  exact bM [4,5,6,7,8,0,1,2,3,9]
 rintro e ds As b8
 clear H
 have H:=a2
 clear a2
 refine aa (SA.of_St b8 fun junk=>?_)
 rcases bH H with⟨N,H⟩|⟨N,H⟩
 ·refine aC rfl N (bj 5 fun e3=>bj 6 fun e4=>bj 7 fun e5=>bj 8 fun e6=>ah ?_)
  obtain⟨e0,e1,H⟩:=ac H
  refine o' (dN [4,5,6,7,8] [0,1,2,3,9] (im.ok (ba:=D) e1) fun b9 c5 c6 c7 c8 c9 d0 d1=>?_)
  refine aj (aF (aa (aQ (ad aE (h:=o' (cH 0 [.bool false] (h:=(cV (bD (ck 0) (h:=o' (bg z 0 9 (al ({ e0 with f3:=false }) b9 c5 c6 c7 c8 c9 d0 d1) (h:=ad aV (h:=cF ?_)))))))))))))
  have h:=aN H;subst h
  exact dt [.cell 4 34,.tmp 5] [1,2,3,4,5,6,7,8] ⟨b9,c5,c6,c7,c8,c9,d0,d1,rfl,rfl⟩ ⟨cR 9,cP,trivial⟩
 refine aD rfl N (aQ (ad (bk rfl rfl) (h:=ad aV (h:=bC ?_))))
 rcases bH H with⟨O,H⟩|⟨O,H⟩
 ·refine aB rfl O (ah (ad aE (h:=o' (cH 4 [ae 0] (h:=(aj (aF (aa (aQ (ad aE (h:=o' (cH 4 [.bool false] (h:=(cV (bD (ck 4) (h:=o' (uX z 0 9 (al (aG.mk a.1.f0 a.1.f1 0 false a.1.f4 a.1.f5 a.1.f6 a.1.f7 a.1.f8 a.1.f9 a.1.f10 a.1.f11 a.1.f12 a.1.f13 a.1.f14 a.1.f15 a.1.f16 a.1.f17) s u b c d o p q) ?_)))))))))))))))))
  refine ad aV (h:=cF ?_)
  have h:=aN H;subst h
  exact dt [.cell 4 34,.tmp 5] [5,6,7,8,0,1,2,3] ⟨s,u,b,c,d,o,p,q,rfl,rfl⟩ ⟨cR 9,cP,trivial⟩
 refine aA rfl O (aQ (ad (bk rfl rfl) (h:=ad aV (h:=bC ?_))))
 rcases bH H with⟨R,H⟩|⟨R,H⟩
 ·refine aB rfl R (aQ (ad aE (h:=bD (aT 4) (h:=ad aE (h:=bD (aT 4) (h:=ad (bk rfl rfl) (h:=bC ?_)))))))
  rcases bH H with⟨S,H⟩|⟨S,H⟩
  ·refine aB rfl S (bj 5 fun e7=>bj 6 fun e8=>bj 7 fun e9=>bj 8 fun g0=>ah (ad aE (h:=bD (cG D 0 4 [ae a.1.f0.f0,ae a.1.f0.f1,.slice s a.1.f0.f2.length u]) (h:=ad aE (h:=l' (aT 4) ?_)))))
   refine ad aE (h:=bD (aT 4) (h:=ad aE (h:=l' (cG D 6 4 (bG a.1.f4)) ?_)))
   obtain⟨E,e2,H⟩:=ac H
   refine o' (gu [5] [0,1,2,3,4,6,7,8,9] (cu.ok e2) fun F I=>?_)
   refine ad ax (h:=ad cg (h:=ad cg (h:=ad aE (h:=o' (cH 6 [ae E.1.f0,ae E.1.f1,.slice F E.1.f2.length I] (h:=(aj (aF (aa (aQ (ad aE (h:=o' (cH 6 [.bool false] (h:=(bC (SA.of_St (l:=[(2,aK D),(4,aK z)]) (B:=(aS a0 ag af az ay aw ar av au++[aL D 34 (al (aG.mk E.1 a.1.f1 a.1.f2 false a.1.f4 a.1.f5 a.1.f6 a.1.f7 a.1.f8 a.1.f9 a.1.f10 a.1.f11 a.1.f12 a.1.f13 a.1.f14 a.1.f15 a.1.f16 a.1.f17) F I b c d o p q),Buf bE 55 F I E.1.f2,fm 3 b c a.1.f7,Buf bE 55 d o a.1.f16.f2,jf 21 p q a.1.f17,aL z 34 (al cx none 0 none 0 none 0 none 0)])) (St.mk1 (cJ rfl (cJ rfl dQ)) (Gh.sel [2,3,4,5,6,0,7,8,9,10] (by kernel_rfl) (by kernel_rfl))) fun junk=>?_))))))))))))))))
   refine aQ (bD (ck 4) (h:=o' (bg z 0 9 (al (aG.mk E.1 a.1.f1 a.1.f2 false a.1.f4 a.1.f5 a.1.f6 a.1.f7 a.1.f8 a.1.f9 a.1.f10 a.1.f11 a.1.f12 a.1.f13 a.1.f14 a.1.f15 a.1.f16 a.1.f17) F I b c d o p q) (h:=ad aV (h:=cF ?_)))))
   have h:=aN H;subst h
   exact dt [.cell 4 34,.tmp 5] [5,6,7,8,0,1,2,3] ⟨F,I,b,c,d,o,p,q,rfl,rfl⟩ ⟨cR 9,cP,trivial⟩
  refine aA rfl S (aQ (ad aE (h:=bD (aT 4) (h:=ad (eR rfl rfl) (h:=bC ?_)))))
  rcases bH H with⟨U,H⟩|⟨U,H⟩
  ·refine aB rfl U (ah (ad aE (h:=bD (aT 4) (h:=ad (cY rfl rfl) (h:=ad aE (h:=o' (cH 4 [ae (i64.wrap (a.1.f1 - 1))] (h:=(aj (aF (aa (aQ (ad aE (h:=o' (cH 4 [.bool false] (h:=?_))))))))))))))))
   refine cV (bD (ck 4) (h:=o' (bg z 0 9 (al (aG.mk a.1.f0 (i64.wrap (a.1.f1 - 1)) a.1.f2 false a.1.f4 a.1.f5 a.1.f6 a.1.f7 a.1.f8 a.1.f9 a.1.f10 a.1.f11 a.1.f12 a.1.f13 a.1.f14 a.1.f15 a.1.f16 a.1.f17) s u b c d o p q) (h:=ad aV (h:=cF ?_)))))
   have h:=aN H;subst h
   exact dt [.cell 4 34,.tmp 5] [5,6,7,8,0,1,2,3] ⟨s,u,b,c,d,o,p,q,rfl,rfl⟩ ⟨cR 9,cP,trivial⟩
  refine aA rfl U (ap (aF (aa (aQ (ad aE (h:=o' (cH 4 [.bool false] (h:=(cV (bD (ck 4) (h:=o' (bg z 0 9 (al (aG.mk a.1.f0 a.1.f1 a.1.f2 false a.1.f4 a.1.f5 a.1.f6 a.1.f7 a.1.f8 a.1.f9 a.1.f10 a.1.f11 a.1.f12 a.1.f13 a.1.f14 a.1.f15 a.1.f16 a.1.f17) s u b c d o p q) (h:=ad aV (h:=cF ?_))))))))))))))
  have h:=aN H;subst h
  exact dt [.cell 4 34,.tmp 5] [5,6,7,8,0,1,2,3] ⟨s,u,b,c,d,o,p,q,rfl,rfl⟩ ⟨cR 9,cP,trivial⟩
 refine aA rfl R (aQ (bD (ck 4) (h:=o' (bg z 0 9 (al a.1 s u b c d o p q) (h:=ad aV (h:=cF (bi (aI ?_))))))))
 have h:=aN H;subst h
 exact dt [.cell 4 34,.tmp 5] [5,6,7,8,0,1,2,3] ⟨s,u,b,c,d,o,p,q,rfl,rfl⟩ ⟨cR 9,cP,trivial⟩


def lr.f (a0 : Int) (a1 : Int) (a2 : Int) (a3 : Int) : Option (Int):=if a1 > (i64.wrap (a3 - a0)) then (some (a3)) else (if a1 < (i64.wrap (a2 - a0)) then (some (a2)) else (lt (i64.wrap (a0 + a1)) fun a=>some (a)))
theorem lr.ok {a0 : Int} {a1 : Int} {a2 : Int} {a3 : Int} {r : Int} (H : lr.f a0 a1 a2 a3 = some r) : fK Tryz.prog 106 #[ae a0,ae a1,ae a2,ae a3] [] (ae r):=by
 refine ai Tryz.func106 rfl rfl ?_
 unfold lr.f at H
 refine aQ (ad aV (h:=eJ (ad ax (h:=ad ax (h:=ad ax (h:=ad (cY rfl rfl) (h:=ad (eR rfl rfl) (h:=bC ?_))))))))
 rcases bH H with⟨a,H⟩|⟨a,H⟩
 ·refine aB rfl a (aQ (ad ax (h:=ad aV (h:=cE ?_))))
  have h:=aN H;subst h
  exact er [] ⟨rfl,rfl⟩
 refine aA rfl a (ap (aa (ao (aQ (ad ax (h:=ad ax (h:=ad ax (h:=ad (cY rfl rfl) (h:=ad (cn rfl rfl) (h:=bC ?_))))))))))
 rcases bH H with⟨h2,H⟩|⟨h2,H⟩
 ·refine aB rfl h2 (aQ (ad ax (h:=ad aV (h:=cE ?_))))
  have h:=aN H;subst h
  exact er [] ⟨rfl,rfl⟩
 refine aA rfl h2 (ap (aa (aQ (ad ax (h:=ad ax (h:=S' (bV rfl rfl) ?_))))))
 obtain⟨b,c,H⟩:=br H
 refine bO (ae b) (bz (v:=ae b) (congrArg (Value.int .i64) c.symm)) (h:=cF ?_)
 have h:=aN H;subst h
 exact er [] ⟨rfl,rfl⟩


def nN.f (k : Nat) (a0 : aG) (a1 : Int) (a2 : Int) : Option (aG × Int):=(eN.f k a0).bind (fun a=>if (!a.2) = true then (some ((a.1,2))) else (lt (i64.wrap (a.1.f0.f1 - 1)) fun b=>(if a.1.f1 ≤ a.1.f6 then (some a.1.f6) else (some b) : Option (Int)).bind (fun c=>(if a.1.f1 ≥ a.1.f5 then (some a.1.f5) else (some 0) : Option (Int)).bind (fun d=>(lr.f a.1.f1 a1 d c).bind (fun h=>(lr.f a.1.f2 a2 0 (i64.wrap (a.1.f0.f0 - 1))).bind (fun j=>some (((aG.mk a.1.f0 h j false a.1.f4 a.1.f5 a.1.f6 a.1.f7 a.1.f8 a.1.f9 a.1.f10 a.1.f11 a.1.f12 a.1.f13 a.1.f14 a.1.f15 a.1.f16 a.1.f17),0))))))))
theorem nN.ok {a0 : aG} {a1 : Int} {a2 : Int} {r : aG × Int} (H : nN.f k a0 a1 a2 = some r) : df Tryz.prog 42 #[.agg (al a0 ag af az ay aw ar av au).toArray,ae a1,ae a2] (aS a0 ag af az ay aw ar av au) (fun v B=>∃ aP aO bA bv bq bp bB bw,v = .tuple #[.agg (al r.1 aP aO bA bv bq bp bB bw).toArray,ae r.2]∧B = (aS r.1 aP aO bA bv bq bp bB bw++aS a0 ag af az ay aw ar av au)):=by
 refine ai Tryz.func42 rfl rfl ?_
 unfold nN.f at H
 refine aQ (o' (bN (h:=fun D=>o' (cy (h:=fun z=>ad aV (h:=bC (ao (bj 0 fun a4=>bj 1 fun Y=>bj 2 fun Z=>bj 3 fun a3=>ah ?_))))))))
 refine l' (ck 4) ?_
 obtain⟨a,O,H⟩:=ac H
 refine o' (dN [0,1,2,3] [4,5] (eN.ok O) fun b c d j l m o p=>?_)
 refine ad ax (h:=ad cg (h:=ad cg (h:=o' (bg D 0 8 (al a.1 b c d j l m o p) (h:=ad aV (h:=eJ (ad ax (h:=ad (ca rfl) (h:=bC ?_)))))))))
 rcases bH H with⟨E,H⟩|⟨E,H⟩
 ·refine aC rfl E (aQ (bD (ck 8) (h:=o' (bg z 0 9 (al a.1 b c d j l m o p) (h:=ad aV (h:=cE ?_))))))
  have h:=aN H;subst h
  exact dt [.cell 6 34,.tmp 7] [0,1,2,3,4,5,6,7] ⟨b,c,d,j,l,m,o,p,rfl,rfl⟩ ⟨cR 9,cP,trivial⟩
 refine aD rfl E (ap (aa (ao ?_)))
 refine fk (dG 0 6) [8] [0,1,2,3,4,5,6,7,9] fun _ _ _ _ _ sH dd pk=>?_
 refine bf 0 rfl sH aE (h:=bf 1 rfl sH aE (h:=bT 2 rfl sH (aT 0) (h:=bf 3 rfl sH (cY rfl rfl) (h:=T' 4 rfl sH aV ?_))))
 obtain⟨F,N,H⟩:=br H
 refine kY (ae F) 5 rfl sH (bz (v:=ae F) (congrArg (Value.int .i64) N.symm)) (h:=aW dd sH (aH (by kernel_rfl) (aa (ao (aQ (ad aE (h:=bD (aT 0) (h:=ad aE (h:=bD (aT 0) (h:=ad (fV rfl rfl) (h:=bC ?_)))))))))))
 obtain⟨I,H,u⟩:=ac H
 refine bI (St [(1,ae a1),(2,ae a2),(3,aK D),(6,aK z),(9,ae 0),(10,ae I)] (aS a0 ag af az ay aw ar av au++(aL D 34 (al a.1 b c d j l m o p)::(aS a.1 b c d j l m o p++[aL z 34 (al cx none 0 none 0 none 0 none 0)])))) ?_ ?_
 ·rcases bH H with⟨q,H⟩|⟨q,H⟩
  ·refine aB rfl q (ah (ad aE (h:=bD (aT 0) (h:=ad aV (h:=aj ?_)))))
   have h:=aN H;subst h
   exact bM [5,6,7,8,0,1,2,3,4,9]
  refine aA rfl q (ap ?_)
  have h:=aN H;subst h
  exact bM [5,6,7,8,0,1,2,3,4,9]
 rintro e ds As J
 clear H
 have H:=u
 clear u
 refine aa (SA.of_St J fun junk=>ao (aQ (ad aE (h:=bD (aT 4) (h:=ad aE (h:=bD (aT 4) (h:=ad (dI rfl rfl) (h:=bC ?_))))))))
 obtain⟨R,H,y⟩:=ac H
 refine bI (St [(1,ae a1),(2,ae a2),(3,aK D),(6,aK z),(9,ae R),(10,ae I)] (aS a0 ag af az ay aw ar av au++(aL D 34 (al a.1 b c d j l m o p)::(aS a.1 b c d j l m o p++[aL z 34 (al cx none 0 none 0 none 0 none 0)])))) ?_ ?_
 ·rcases bH H with⟨s,H⟩|⟨s,H⟩
  ·refine aB rfl s (ah (ad aE (h:=bD (aT 4) (h:=ad aV (h:=aj ?_)))))
   have h:=aN H;subst h
   exact bM [0,1,2,3,4,5,6,7,8,9]
  refine aA rfl s (ap ?_)
  have h:=aN H;subst h
  exact bM [0,1,2,3,4,5,6,7,8,9]
 rintro e ds As K
 clear H
 have H:=y
 clear y
 refine aa (SA.of_St K fun junk=>aQ (ad aE (h:=bD (aT 4) (h:=ad ax (h:=ad ax (h:=S' ax ?_))))))
 obtain⟨L,S,H⟩:=ac H
 refine o' (da [] [0,1,2,3,4,5,6,7,8,9] (lr.ok S) ?_)
 refine ad aE (h:=o' (cH 4 [ae L] (h:=(cV (ad aE (h:=bD (aT 4) (h:=ad ax (h:=ad aE (h:=ad aE (h:=bD (aT 4) (h:=S' (cY rfl rfl) ?_)))))))))))
 obtain⟨M,U,H⟩:=ac H
 refine o' (da [] [0,1,2,3,4,5,6,7,8,9] (lr.ok U) ?_)
 refine ad aE (h:=o' (cH 4 [ae M] (h:=(cV (ad aE (h:=o' (cH 4 [.bool false] (h:=(cV (bD (ck 4) (h:=o' (bg z 0 9 (al (aG.mk a.1.f0 L M false a.1.f4 a.1.f5 a.1.f6 a.1.f7 a.1.f8 a.1.f9 a.1.f10 a.1.f11 a.1.f12 a.1.f13 a.1.f14 a.1.f15 a.1.f16 a.1.f17) b c d j l m o p) (h:=ad aV (h:=cF ?_))))))))))))))
 have h:=aN H;subst h
 exact dt [.cell 6 34,.tmp 7] [5,6,7,8,0,1,2,3] ⟨b,c,d,j,l,m,o,p,rfl,rfl⟩ ⟨cR 9,cP,trivial⟩


def kR.f (k : Nat) (a0 : aG) (a1 : Int) (a2 : Int) : Option (aG × Int):=(eN.f k a0).bind (fun a=>if (!a.2) = true then (some ((a.1,2))) else (lt (i64.wrap (a.1.f0.f1 - 1)) fun c=>(if a.1.f9 = true then (some (a.1.f5,a.1.f6)) else (some (0,c)) : Option (Int × Int)).bind (fun b=>(lr.f b.1 a1 b.1 b.2).bind (fun d=>(lr.f 0 a2 0 (i64.wrap (a.1.f0.f0 - 1))).bind (fun h=>some (((aG.mk a.1.f0 d h false a.1.f4 a.1.f5 a.1.f6 a.1.f7 a.1.f8 a.1.f9 a.1.f10 a.1.f11 a.1.f12 a.1.f13 a.1.f14 a.1.f15 a.1.f16 a.1.f17),0)))))))
theorem kR.ok {a0 : aG} {a1 : Int} {a2 : Int} {r : aG × Int} (H : kR.f k a0 a1 a2 = some r) : df Tryz.prog 43 #[.agg (al a0 ag af az ay aw ar av au).toArray,ae a1,ae a2] (aS a0 ag af az ay aw ar av au) (fun v B=>∃ aP aO bA bv bq bp bB bw,v = .tuple #[.agg (al r.1 aP aO bA bv bq bp bB bw).toArray,ae r.2]∧B = (aS r.1 aP aO bA bv bq bp bB bw++aS a0 ag af az ay aw ar av au)):=by
 refine ai Tryz.func43 rfl rfl ?_
 unfold kR.f at H
 refine aQ (o' (bN (h:=fun K=>o' (cy (h:=fun I=>ad aV (h:=bC (ao (bj 0 fun U=>bj 1 fun O=>bj 2 fun R=>bj 3 fun S=>ah ?_))))))))
 refine l' (ck 4) ?_
 obtain⟨a,L,H⟩:=ac H
 refine o' (dN [0,1,2,3] [4,5] (eN.ok L) fun b c d j l m o p=>?_)
 refine ad ax (h:=ad cg (h:=ad cg (h:=o' (bg K 0 8 (al a.1 b c d j l m o p) (h:=ad aV (h:=eJ (ad ax (h:=ad (ca rfl) (h:=bC ?_)))))))))
 rcases bH H with⟨u,H⟩|⟨u,H⟩
 ·refine aC rfl u (aQ (bD (ck 8) (h:=o' (bg I 0 9 (al a.1 b c d j l m o p) (h:=ad aV (h:=cE ?_))))))
  have h:=aN H;subst h
  exact dt [.cell 6 34,.tmp 7] [0,1,2,3,4,5,6,7] ⟨b,c,d,j,l,m,o,p,rfl,rfl⟩ ⟨cR 9,cP,trivial⟩
 refine aD rfl u (ap (aa (ao ?_)))
 refine fk (dG 0 6) [8] [0,1,2,3,4,5,6,7,9] fun _ _ _ _ _ sH dd pk=>?_
 refine bf 0 rfl sH aE (h:=bf 1 rfl sH aE (h:=bT 2 rfl sH (aT 0) (h:=bf 3 rfl sH (cY rfl rfl) (h:=T' 4 rfl sH aV ?_))))
 obtain⟨y,J,H⟩:=br H
 refine kY (ae y) 5 rfl sH (bz (v:=ae y) (congrArg (Value.int .i64) J.symm)) (h:=aW dd sH (aH (by kernel_rfl) (aa (ao (aQ (ad aE (h:=bD (aT 0) (h:=bC ?_))))))))
 obtain⟨z,H,s⟩:=ac H
 refine bI (St [(1,ae a1),(2,ae a2),(3,aK K),(6,aK I),(9,ae z.1),(10,ae z.2)] (aS a0 ag af az ay aw ar av au++(aL K 34 (al a.1 b c d j l m o p)::(aS a.1 b c d j l m o p++[aL I 34 (al cx none 0 none 0 none 0 none 0)])))) ?_ ?_
 ·rcases bH H with⟨q,H⟩|⟨q,H⟩
  ·refine aC rfl q ?_
   refine fk (dG 0 6) [0] (dG 1 9) fun _ _ _ _ _ sH dd pk=>?_
   refine bf 0 rfl sH aE (h:=bT 1 rfl sH (aT 0) (h:=bf 2 rfl sH aE (h:=bT 3 rfl sH (aT 0) (h:=bf 4 rfl sH aV (h:=bf 5 rfl sH aV (h:=aW dd sH (aH (by kernel_rfl) ?_)))))))
   have h:=aN H;subst h
   exact bM [5,6,7,8,0,1,2,3,4,9]
  refine aD rfl q (ap ?_)
  have h:=aN H;subst h
  exact bM [5,6,7,8,0,1,2,3,4,9]
 rintro e ds As D
 clear H
 have H:=s
 clear s
 refine aa (SA.of_St D fun junk=>aQ (ad ax (h:=ad ax (h:=ad ax (h:=S' ax ?_)))))
 obtain⟨E,M,H⟩:=ac H
 refine o' (da [] [0,1,2,3,4,5,6,7,8,9] (lr.ok M) ?_)
 refine ad aE (h:=o' (cH 4 [ae E] (h:=(cV (ad ax (h:=ad aE (h:=ad aE (h:=bD (aT 4) (h:=S' (cY rfl rfl) ?_)))))))))
 obtain⟨F,N,H⟩:=ac H
 refine o' (da [] [0,1,2,3,4,5,6,7,8,9] (lr.ok N) ?_)
 refine ad aE (h:=o' (cH 4 [ae F] (h:=(cV (ad aE (h:=o' (cH 4 [.bool false] (h:=(cV (bD (ck 4) (h:=o' (bg I 0 9 (al (aG.mk a.1.f0 E F false a.1.f4 a.1.f5 a.1.f6 a.1.f7 a.1.f8 a.1.f9 a.1.f10 a.1.f11 a.1.f12 a.1.f13 a.1.f14 a.1.f15 a.1.f16 a.1.f17) b c d j l m o p) (h:=ad aV (h:=cF ?_))))))))))))))
 have h:=aN H;subst h
 exact dt [.cell 6 34,.tmp 7] [5,6,7,8,0,1,2,3] ⟨b,c,d,j,l,m,o,p,rfl,rfl⟩ ⟨cR 9,cP,trivial⟩

end Go.Proofs.YtckilbegmbaeeaaGreat.Z3

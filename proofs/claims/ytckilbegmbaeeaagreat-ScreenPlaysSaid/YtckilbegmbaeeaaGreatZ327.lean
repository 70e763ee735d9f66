/- What functions compute, and that they do: 45b0, 46b0, 47b0, 48b0, 49b0. -/
import Derived.Test.YtckilbegmbaeeaaGreatZ323
import Derived.Test.YtckilbegmbaeeaaGreatZ325
namespace Go.Proofs.YtckilbegmbaeeaaGreat.Z3
open Go Go.RowKit Go.Proofs.YtckilbegmbaeeaaGreat.SL
open Go.IntKind (i64)
set_option linter.unusedVariables false
set_option maxHeartbeats 20000000
set_option maxRecDepth 100000
set_option linter.unusedSimpArgs false
attribute [local irreducible] IntKind.wrap cC dO eX gp gl lH fU cN gm rd sub bytesOf eG cL
variable {af ay ar au k : Nat}
variable {ag az aw av : Option Addr}
def oh.f (k : Nat) (a0 : aG) (a1 : Int) : Option (aG × Int):=(eN.f k a0).bind (fun a=>if (!a.2) = true then (some ((a.1,2))) else (lt ((decide (a.1.f1 < a.1.f5)) || (decide (a.1.f1 > a.1.f6))) fun d=>if d = true then (some ((a.1,0))) else ((lr.f 0 (i64.wrap (0 - (dO a1 (-1000)))) (-1000) 1000).bind (fun b=>(cu.f k a.1.f0 a.1.f1 a.1.f6 b a.1.f4).bind (fun c=>some (((aG.mk c.1 a.1.f1 0 false a.1.f4 a.1.f5 a.1.f6 a.1.f7 a.1.f8 a.1.f9 a.1.f10 a.1.f11 a.1.f12 a.1.f13 a.1.f14 a.1.f15 a.1.f16 a.1.f17),0)))))))
theorem oh.ok {a0 : aG} {a1 : Int} {r : aG × Int} (H : oh.f k a0 a1 = some r) : df Tryz.prog 45 #[.agg (al a0 ag af az ay aw ar av au).toArray,ae a1] (aS a0 ag af az ay aw ar av au) (fun v B=>∃ aP aO bA bv bq bp bB bw,v = .tuple #[.agg (al r.1 aP aO bA bv bq bp bB bw).toArray,ae r.2]∧B = (aS r.1 aP aO bA bv bq bp bB bw++aS a0 ag af az ay aw ar av au)):=by
 refine ai Tryz.func45 rfl rfl ?_
 unfold oh.f at H
 refine aQ (o' (bN (h:=fun z=>o' (cy (h:=fun D=>ad aV (h:=bC (ao (bj 0 fun a4=>bj 1 fun O=>bj 2 fun R=>bj 3 fun S=>ah ?_))))))))
 refine l' (ck 4) ?_
 obtain⟨a,J,H⟩:=ac H
 refine o' (dN [0,1,2,3] [4,5] (eN.ok J) fun u y j l m o p q=>?_)
 refine ad ax (h:=ad cg (h:=ad cg (h:=o' (bg z 0 8 (al a.1 u y j l m o p q) (h:=ad aV (h:=eJ (ad ax (h:=ad (ca rfl) (h:=bC ?_)))))))))
 rcases bH H with⟨E,H⟩|⟨E,H⟩
 ·refine aC rfl E (aQ (bD (ck 8) (h:=o' (bg D 0 9 (al a.1 u y j l m o p q) (h:=ad aV (h:=cE ?_))))))
  have h:=aN H;subst h
  exact dt [.cell 4 34,.tmp 5] [0,1,2,3,4,5,6,7] ⟨u,y,j,l,m,o,p,q,rfl,rfl⟩ ⟨cR 9,cP,trivial⟩
 refine aD rfl E (ap (aa (ao (aQ (ad aE (h:=bD (aT 8) (h:=ad aE (h:=bD (aT 8) (h:=ad (cn rfl rfl) (h:=S' ax ?_))))))))))
 obtain⟨N,F,H⟩:=br H
 refine cD 6 (St [(1,ae a1),(2,aK z),(4,aK D),(26,.bool N)] (aS a0 ag af az ay aw ar av au++(aL z 34 (al a.1 u y j l m o p q)::(aS a.1 u y j l m o p q++[aL D 34 (al cx none 0 none 0 none 0 none 0)])))) ?_ ?_
 ·by_cases s : a.1.f1 < a.1.f5
  ·refine cI 5 (ak s) (cq (ak s) (h:=aj ?_))
   have x_:=jL F ((ak s));exact bM [4,5,6,7,8,0,1,2,3,9]
  refine bn (am s) aE (h:=dc (am s) (aT 8) (h:=bn (am s) aE (h:=dc (am s) (aT 8) (h:=bn (am s) (eR rfl rfl) (h:=cv (am s) (h:=aj ?_))))))
  have x_:=jN F ((am s));exact bM [4,5,6,7,8,0,1,2,3,9]
 rintro e ds As K
 refine bC (SA.of_St K fun junk=>?_)
 rcases bH H with⟨I,H⟩|⟨I,H⟩
 ·refine aC rfl I (aQ (bD (ck 4) (h:=o' (bg D 0 9 (al a.1 u y j l m o p q) (h:=ad aV (h:=cE ?_))))))
  have h:=aN H;subst h
  exact dt [.cell 4 34,.tmp 5] [5,6,7,8,0,1,2,3] ⟨u,y,j,l,m,o,p,q,rfl,rfl⟩ ⟨cR 9,cP,trivial⟩
 refine aD rfl I (ap (aa (ao (bj 5 fun U=>bj 6 fun Y=>bj 7 fun Z=>bj 8 fun a2=>?_))))
 refine fk [0,1,2,3,4,5,6,7,8,10,11,13] [4] [0,1,2,3,5,6,7,8,9] fun _ _ _ _ _ sH dd pk=>?_
 refine bf 0 rfl sH aE (h:=bT 1 rfl sH (cG z 0 0 [ae a.1.f0.f0,ae a.1.f0.f1,.slice u a.1.f0.f2.length y]) (h:=bf 2 rfl sH aE (h:=bT 3 rfl sH (aT 0) (h:=bf 4 rfl sH aE (h:=bT 5 rfl sH (aT 0) (h:=bf 6 rfl sH ax (h:=kY (ae (dO a1 (-1000))) 7 rfl sH (nG rfl rfl) (h:=kY (ae (i64.wrap (0 - (dO a1 (-1000))))) 8 rfl sH (ms rfl) (h:=T' 10 rfl sH aE ?_)))))))))
 refine r' 11 rfl sH (cG z 6 0 (bG a.1.f4)) ?_
 obtain⟨a3,L,H⟩:=ac H
 refine dx 9 rfl dd (da [] [0,1,2,3,4,5,6,7,8] (lr.ok L) ?_)
 obtain⟨b,M,H⟩:=ac H
 refine dx 12 rfl dd (gu [4] [0,1,2,3,5,6,7,8] (cu.ok M) fun c d=>?_)
 refine T' 13 rfl sH ax ?_
 refine gM (rs:=[14,15]) dd (by kernel_rfl) (by decide) (bx ⟨_,rfl,(.no rfl),?_⟩ (bx ⟨_,rfl,(.no rfl),?_⟩ cO))
 ·refine id (dl (v:=.agg #[ae b.1.f0,ae b.1.f1,.slice c b.1.f2.length d]) rfl cg ?_)
  refine gM (rs:=[15,16]) dd (by kernel_rfl) (by decide) (bx ⟨_,rfl,(.no rfl),?_⟩ (bx ⟨_,rfl,(.no rfl),?_⟩ cO))
  ·refine id (dl (v:=ae b.2) rfl cg (dx 16 rfl dd (dl (v:=aK z) rfl (kB z 0 0) (aW dd sH (ey 17 rfl (cH 0 [ae b.1.f0,ae b.1.f1,.slice c b.1.f2.length d] (h:=(aH (by kernel_rfl) (aa (aQ (ad aE (h:=o' (cH 0 [ae 0] (h:=(ad aE (h:=o' (cH 0 [.bool false] (h:=?_))))))))))))))))))
   refine cV (bD (ck 0) (h:=o' (bg D 0 10 (al (aG.mk b.1 a.1.f1 0 false a.1.f4 a.1.f5 a.1.f6 a.1.f7 a.1.f8 a.1.f9 a.1.f10 a.1.f11 a.1.f12 a.1.f13 a.1.f14 a.1.f15 a.1.f16 a.1.f17) c d j l m o p q) (h:=ad aV (h:=cF ?_)))))
   have h:=aN H;subst h
   exact dt [.cell 4 34,.tmp 5] [1,7,8,9,3,4,5,6] ⟨c,d,j,l,m,o,p,q,rfl,rfl⟩ ⟨cR 10,cP,trivial⟩
  refine id (dl (v:=aK z) rfl (kB z 0 0) (aW dd sH ?_))
  refine eu (rs:=[15,17]) (by kernel_rfl) (by decide) (bx ⟨rfl,_,rfl,(.no rfl),?_⟩ (bx ⟨rfl,_,rfl,(.no rfl),?_⟩ cO))
  ·refine id (dl (v:=ae b.2) rfl cg (ey 17 rfl (cH 0 [ae b.1.f0,ae b.1.f1,.slice c b.1.f2.length d] (h:=(aH (by kernel_rfl) (aa (aQ (ad aE (h:=o' (cH 0 [ae 0] (h:=(ad aE (h:=o' (cH 0 [.bool false] (h:=(cV (l' (ck 0) ?_)))))))))))))))))
   refine o' (bg D 0 10 (al (aG.mk b.1 a.1.f1 0 false a.1.f4 a.1.f5 a.1.f6 a.1.f7 a.1.f8 a.1.f9 a.1.f10 a.1.f11 a.1.f12 a.1.f13 a.1.f14 a.1.f15 a.1.f16 a.1.f17) c d j l m o p q) (h:=ad aV (h:=cF ?_)))
   have h:=aN H;subst h
   exact dt [.cell 4 34,.tmp 5] [1,7,8,9,3,4,5,6] ⟨c,d,j,l,m,o,p,q,rfl,rfl⟩ ⟨cR 10,cP,trivial⟩
  refine id (cH 0 [ae b.1.f0,ae b.1.f1,.slice c b.1.f2.length d] (h:=(ey 15 rfl (dl (v:=ae b.2) rfl cg (aH (by kernel_rfl) (aa (aQ (ad aE (h:=o' (cH 0 [ae 0] (h:=(ad aE (h:=o' (cH 0 [.bool false] (h:=(cV (l' (ck 0) ?_)))))))))))))))))
  refine o' (bg D 0 10 (al (aG.mk b.1 a.1.f1 0 false a.1.f4 a.1.f5 a.1.f6 a.1.f7 a.1.f8 a.1.f9 a.1.f10 a.1.f11 a.1.f12 a.1.f13 a.1.f14 a.1.f15 a.1.f16 a.1.f17) c d j l m o p q) (h:=ad aV (h:=cF ?_)))
  have h:=aN H;subst h
  exact dt [.cell 4 34,.tmp 5] [1,7,8,9,3,4,5,6] ⟨c,d,j,l,m,o,p,q,rfl,rfl⟩ ⟨cR 10,cP,trivial⟩
 refine id (dl (v:=ae b.2) rfl cg (dx 14 rfl dd (dl (v:=.agg #[ae b.1.f0,ae b.1.f1,.slice c b.1.f2.length d]) rfl cg (dx 16 rfl dd (dl (v:=aK z) rfl (kB z 0 0) (aW dd sH (ey 17 rfl (cH 0 [ae b.1.f0,ae b.1.f1,.slice c b.1.f2.length d] (h:=(aH (by kernel_rfl) (aa (aQ (ad aE (h:=o' (cH 0 [ae 0] (h:=(S' aE ?_)))))))))))))))))
 refine o' (cH 0 [.bool false] (h:=(cV (bD (ck 0) (h:=o' (bg D 0 10 (al (aG.mk b.1 a.1.f1 0 false a.1.f4 a.1.f5 a.1.f6 a.1.f7 a.1.f8 a.1.f9 a.1.f10 a.1.f11 a.1.f12 a.1.f13 a.1.f14 a.1.f15 a.1.f16 a.1.f17) c d j l m o p q) (h:=ad aV (h:=cF ?_))))))))
 have h:=aN H;subst h
 exact dt [.cell 4 34,.tmp 5] [1,7,8,9,3,4,5,6] ⟨c,d,j,l,m,o,p,q,rfl,rfl⟩ ⟨cR 10,cP,trivial⟩


def nZ.f (k : Nat) (a0 : aG) (a1 : Int) : Option (aG × Int):=(eN.f k a0).bind (fun a=>if (!a.2) = true then (some ((a.1,2))) else ((fx.f k a.1.f0 a.1.f1 a.1.f2 a1 a.1.f4).bind (fun jH=>some (((aG.mk jH.1 a.1.f1 a.1.f2 false a.1.f4 a.1.f5 a.1.f6 a.1.f7 a.1.f8 a.1.f9 a.1.f10 a.1.f11 a.1.f12 a.1.f13 a.1.f14 a.1.f15 a.1.f16 a.1.f17),0)))))
theorem nZ.ok {a0 : aG} {a1 : Int} {r : aG × Int} (H : nZ.f k a0 a1 = some r) : df Tryz.prog 46 #[.agg (al a0 ag af az ay aw ar av au).toArray,ae a1] (aS a0 ag af az ay aw ar av au) (fun v B=>∃ aP aO bA bv bq bp bB bw,v = .tuple #[.agg (al r.1 aP aO bA bv bq bp bB bw).toArray,ae r.2]∧B = (aS r.1 aP aO bA bv bq bp bB bw++aS a0 ag af az ay aw ar av au)):=by
 refine ai Tryz.func46 rfl rfl ?_
 unfold nZ.f at H
 refine aQ (o' (bN (h:=fun y=>o' (cy (h:=fun D=>ad aV (h:=bC (ao (bj 0 fun R=>bj 1 fun I=>bj 2 fun J=>bj 3 fun K=>ah ?_))))))))
 refine l' (ck 4) ?_
 obtain⟨a,E,H⟩:=ac H
 refine o' (dN [0,1,2,3] [4,5] (eN.ok E) fun s u b c d j m o=>?_)
 refine ad ax (h:=ad cg (h:=ad cg (h:=o' (bg y 0 8 (al a.1 s u b c d j m o) (h:=ad aV (h:=eJ (ad ax (h:=ad (ca rfl) (h:=bC ?_)))))))))
 rcases bH H with⟨z,H⟩|⟨z,H⟩
 ·refine aC rfl z (aQ (bD (ck 8) (h:=o' (bg D 0 9 (al a.1 s u b c d j m o) (h:=ad aV (h:=cE ?_))))))
  have h:=aN H;subst h
  exact dt [.cell 4 34,.tmp 5] [0,1,2,3,4,5,6,7] ⟨s,u,b,c,d,j,m,o,rfl,rfl⟩ ⟨cR 9,cP,trivial⟩
 refine aD rfl z (ap (aa (ao (bj 0 fun L=>bj 1 fun M=>bj 2 fun N=>bj 3 fun O=>ah (ad aE (h:=bD (cG y 0 8 [ae a.1.f0.f0,ae a.1.f0.f1,.slice s a.1.f0.f2.length u]) (h:=S' aE ?_)))))))
 refine bD (aT 8) (h:=ad aE (h:=bD (aT 8) (h:=ad ax (h:=ad aE (h:=l' (cG y 6 8 (bG a.1.f4)) ?_)))))
 obtain⟨jH,F,H⟩:=ac H
 refine o' (gu [0] [1,2,3,4,5,6,7,8,9] (fx.ok F) fun p q=>?_)
 refine ad ax (h:=ad cg (h:=ad cg (h:=ad aE (h:=o' (cH 9 [ae jH.1.f0,ae jH.1.f1,.slice p jH.1.f2.length q] (h:=(bC (SA.of_St (l:=[(2,aK y),(4,aK D)]) (B:=(aS a0 ag af az ay aw ar av au++[aL y 34 (al (aG.mk jH.1 a.1.f1 a.1.f2 a.1.f3 a.1.f4 a.1.f5 a.1.f6 a.1.f7 a.1.f8 a.1.f9 a.1.f10 a.1.f11 a.1.f12 a.1.f13 a.1.f14 a.1.f15 a.1.f16 a.1.f17) p q b c d j m o),Buf bE 55 p q jH.1.f2,fm 3 b c a.1.f7,Buf bE 55 d j a.1.f16.f2,jf 21 m o a.1.f17,aL D 34 (al cx none 0 none 0 none 0 none 0)])) (St.mk1 (cJ rfl (cJ rfl dQ)) (Gh.sel [5,6,7,8,9,0,2,3,4,10] (by kernel_rfl) (by kernel_rfl))) fun junk=>aQ (ad aE (h:=o' (cH 4 [.bool false] (h:=?_))))))))))))
 refine cV (bD (ck 4) (h:=o' (bg D 0 9 (al (aG.mk jH.1 a.1.f1 a.1.f2 false a.1.f4 a.1.f5 a.1.f6 a.1.f7 a.1.f8 a.1.f9 a.1.f10 a.1.f11 a.1.f12 a.1.f13 a.1.f14 a.1.f15 a.1.f16 a.1.f17) p q b c d j m o) (h:=ad aV (h:=cF ?_)))))
 have h:=aN H;subst h
 exact dt [.cell 4 34,.tmp 5] [5,6,7,8,0,1,2,3] ⟨p,q,b,c,d,j,m,o,rfl,rfl⟩ ⟨cR 9,cP,trivial⟩


def nX.f (k : Nat) (a0 : aG) (a1 : Int) : Option (aG × Int):=(eN.f k a0).bind (fun a=>if (!a.2) = true then (some ((a.1,2))) else ((cu.f k a.1.f0 a.1.f5 a.1.f6 a1 a.1.f4).bind (fun jH=>some (((aG.mk jH.1 a.1.f1 a.1.f2 false a.1.f4 a.1.f5 a.1.f6 a.1.f7 a.1.f8 a.1.f9 a.1.f10 a.1.f11 a.1.f12 a.1.f13 a.1.f14 a.1.f15 a.1.f16 a.1.f17),0)))))
theorem nX.ok {a0 : aG} {a1 : Int} {r : aG × Int} (H : nX.f k a0 a1 = some r) : df Tryz.prog 47 #[.agg (al a0 ag af az ay aw ar av au).toArray,ae a1] (aS a0 ag af az ay aw ar av au) (fun v B=>∃ aP aO bA bv bq bp bB bw,v = .tuple #[.agg (al r.1 aP aO bA bv bq bp bB bw).toArray,ae r.2]∧B = (aS r.1 aP aO bA bv bq bp bB bw++aS a0 ag af az ay aw ar av au)):=by
 refine ai Tryz.func47 rfl rfl ?_
 unfold nX.f at H
 refine aQ (o' (bN (h:=fun y=>o' (cy (h:=fun D=>ad aV (h:=bC (ao (bj 0 fun R=>bj 1 fun I=>bj 2 fun J=>bj 3 fun K=>ah ?_))))))))
 refine l' (ck 4) ?_
 obtain⟨a,E,H⟩:=ac H
 refine o' (dN [0,1,2,3] [4,5] (eN.ok E) fun s u b c d j m o=>?_)
 refine ad ax (h:=ad cg (h:=ad cg (h:=o' (bg y 0 8 (al a.1 s u b c d j m o) (h:=ad aV (h:=eJ (ad ax (h:=ad (ca rfl) (h:=bC ?_)))))))))
 rcases bH H with⟨z,H⟩|⟨z,H⟩
 ·refine aC rfl z (aQ (bD (ck 8) (h:=o' (bg D 0 9 (al a.1 s u b c d j m o) (h:=ad aV (h:=cE ?_))))))
  have h:=aN H;subst h
  exact dt [.cell 4 34,.tmp 5] [0,1,2,3,4,5,6,7] ⟨s,u,b,c,d,j,m,o,rfl,rfl⟩ ⟨cR 9,cP,trivial⟩
 refine aD rfl z (ap (aa (ao (bj 0 fun L=>bj 1 fun M=>bj 2 fun N=>bj 3 fun O=>ah (ad aE (h:=bD (cG y 0 8 [ae a.1.f0.f0,ae a.1.f0.f1,.slice s a.1.f0.f2.length u]) (h:=S' aE ?_)))))))
 refine bD (aT 8) (h:=ad aE (h:=bD (aT 8) (h:=ad ax (h:=ad aE (h:=l' (cG y 6 8 (bG a.1.f4)) ?_)))))
 obtain⟨jH,F,H⟩:=ac H
 refine o' (gu [0] [1,2,3,4,5,6,7,8,9] (cu.ok F) fun p q=>?_)
 refine ad ax (h:=ad cg (h:=ad cg (h:=ad aE (h:=o' (cH 9 [ae jH.1.f0,ae jH.1.f1,.slice p jH.1.f2.length q] (h:=(bC (SA.of_St (l:=[(2,aK y),(4,aK D)]) (B:=(aS a0 ag af az ay aw ar av au++[aL y 34 (al (aG.mk jH.1 a.1.f1 a.1.f2 a.1.f3 a.1.f4 a.1.f5 a.1.f6 a.1.f7 a.1.f8 a.1.f9 a.1.f10 a.1.f11 a.1.f12 a.1.f13 a.1.f14 a.1.f15 a.1.f16 a.1.f17) p q b c d j m o),Buf bE 55 p q jH.1.f2,fm 3 b c a.1.f7,Buf bE 55 d j a.1.f16.f2,jf 21 m o a.1.f17,aL D 34 (al cx none 0 none 0 none 0 none 0)])) (St.mk1 (cJ rfl (cJ rfl dQ)) (Gh.sel [5,6,7,8,9,0,2,3,4,10] (by kernel_rfl) (by kernel_rfl))) fun junk=>aQ (ad aE (h:=o' (cH 4 [.bool false] (h:=?_))))))))))))
 refine cV (bD (ck 4) (h:=o' (bg D 0 9 (al (aG.mk jH.1 a.1.f1 a.1.f2 false a.1.f4 a.1.f5 a.1.f6 a.1.f7 a.1.f8 a.1.f9 a.1.f10 a.1.f11 a.1.f12 a.1.f13 a.1.f14 a.1.f15 a.1.f16 a.1.f17) p q b c d j m o) (h:=ad aV (h:=cF ?_)))))
 have h:=aN H;subst h
 exact dt [.cell 4 34,.tmp 5] [5,6,7,8,0,1,2,3] ⟨p,q,b,c,d,j,m,o,rfl,rfl⟩ ⟨cR 9,cP,trivial⟩


def nP.f (k : Nat) (a0 : aG) (a1 : Int) (a2 : Int) : Option (aG × Int):=(eN.f k a0).bind (fun a=>if (!a.2) = true then (some ((a.1,2))) else (lt ((decide (a1 < 0)) || (decide (a1 ≥ a2))) fun c=>lt (c || (decide (a2 ≥ a.1.f0.f1))) fun d=>if d = true then (some ((a.1,0))) else ((kR.f k (aG.mk a.1.f0 a.1.f1 a.1.f2 a.1.f3 a.1.f4 a1 a2 a.1.f7 a.1.f8 a.1.f9 a.1.f10 a.1.f11 a.1.f12 a.1.f13 a.1.f14 a.1.f15 a.1.f16 a.1.f17) 0 0).bind (fun b=>some ((b.1,b.2))))))
theorem nP.ok {a0 : aG} {a1 : Int} {a2 : Int} {r : aG × Int} (H : nP.f k a0 a1 a2 = some r) : df Tryz.prog 48 #[.agg (al a0 ag af az ay aw ar av au).toArray,ae a1,ae a2] (aS a0 ag af az ay aw ar av au) (fun v B=>∃ aP aO bA bv bq bp bB bw,v = .tuple #[.agg (al r.1 aP aO bA bv bq bp bB bw).toArray,ae r.2]∧B = (aS r.1 aP aO bA bv bq bp bB bw++aS a0 ag af az ay aw ar av au)):=by
 refine ai Tryz.func48 rfl rfl ?_
 unfold nP.f at H
 refine aQ (o' (bN (h:=fun y=>o' (cy (h:=fun u=>ad aV (h:=bC (ao (bj 0 fun b2=>bj 1 fun a5=>bj 2 fun a6=>bj 3 fun a7=>ah ?_))))))))
 refine l' (ck 4) ?_
 obtain⟨s,Y,H⟩:=ac H
 refine o' (dN [0,1,2,3] [4,5] (eN.ok Y) fun b c d j l m o p=>?_)
 refine ad ax (h:=ad cg (h:=ad cg (h:=o' (bg y 0 8 (al s.1 b c d j l m o p) (h:=ad aV (h:=eJ (ad ax (h:=ad (ca rfl) (h:=bC ?_)))))))))
 rcases bH H with⟨z,H⟩|⟨z,H⟩
 ·refine aC rfl z (aQ (bD (ck 8) (h:=o' (bg u 0 9 (al s.1 b c d j l m o p) (h:=ad aV (h:=cE ?_))))))
  have h:=aN H;subst h
  exact dt [.cell 6 34,.tmp 7] [0,1,2,3,4,5,6,7] ⟨b,c,d,j,l,m,o,p,rfl,rfl⟩ ⟨cR 9,cP,trivial⟩
 refine aD rfl z (ap (aa (ao (aQ (ad ax (h:=ad (cn rfl rfl) (h:=S' ax ?_)))))))
 obtain⟨J,D,H⟩:=br H
 refine eg 4 [(1,ae a1),(2,ae a2),(3,aK y),(6,aK u),(23,.bool J)] (aS a0 ag af az ay aw ar av au++(aL y 34 (al s.1 b c d j l m o p)::(aS s.1 b c d j l m o p++[aL u 34 (al cx none 0 none 0 none 0 none 0)]))) ?_ fun junk=>?_
 ·by_cases q : a1 < 0
  ·refine cI 3 (ak q) (cq (ak q) (h:=aj ?_))
   have x_:=jL D ((ak q));exact bM [4,5,6,7,8,0,1,2,3,9]
  refine bn (am q) ax (h:=bn (am q) ax (h:=bn (am q) (dI rfl rfl) (h:=cv (am q) (h:=aj ?_))))
  have x_:=jN D ((am q));exact bM [4,5,6,7,8,0,1,2,3,9]
 refine S' ax ?_
 obtain⟨Z,E,H⟩:=br H
 refine cD 6 (St [(1,ae a1),(2,ae a2),(3,aK y),(6,aK u),(30,.bool Z)] (aS a0 ag af az ay aw ar av au++(aL y 34 (al s.1 b c d j l m o p)::(aS s.1 b c d j l m o p++[aL u 34 (al cx none 0 none 0 none 0 none 0)])))) ?_ ?_
 ·by_cases a : J = true
  ·refine cI 5 a (cq a (h:=aj ?_))
   have x_:=jL E a;exact bM [0,1,2,3,4,5,6,7,8,9]
  refine bn (aX a) ax (h:=bn (aX a) aE (h:=bn (aX a) aE (h:=dc (aX a) (aT 4) (h:=bn (aX a) (dI rfl rfl) (h:=cv (aX a) (h:=aj ?_))))))
  have x_:=jN E ((aX a));exact bM [0,1,2,3,4,5,6,7,8,9]
 rintro e ds As I
 refine bC (SA.of_St I fun junk=>?_)
 rcases bH H with⟨F,H⟩|⟨F,H⟩
 ·refine aC rfl F (aQ (bD (ck 4) (h:=o' (bg u 0 9 (al s.1 b c d j l m o p) (h:=ad aV (h:=cE ?_))))))
  have h:=aN H;subst h
  exact dt [.cell 6 34,.tmp 7] [5,6,7,8,0,1,2,3] ⟨b,c,d,j,l,m,o,p,rfl,rfl⟩ ⟨cR 9,cP,trivial⟩
 refine aD rfl F (ap (aa (aQ (ad ax (h:=ad ax (h:=ad aE (h:=o' (cH 4 [ae a1] (h:=(ad aE (h:=o' (cH 4 [ae a2] (h:=(bC (ao (bj 5 fun a8=>?_))))))))))))))))
 refine bj 6 fun a9=>bj 7 fun b0=>bj 8 fun b1=>ah (l' (ck 4) ?_)
 obtain⟨a3,a4,H⟩:=ac H
 refine o' (dN [5,6,7,8] [0,1,2,3,4,9] (kR.ok a4) fun K L M N O R S U=>?_)
 refine ad cg (h:=ad cg (h:=o' (bg u 0 13 (al a3.1 K L M N O R S U) (h:=ad aV (h:=cF ?_)))))
 have h:=aN H;subst h
 exact dt [.cell 6 34,.tmp 7] [0,1,2,3,8,9,10,11] ⟨K,L,M,N,O,R,S,U,rfl,rfl⟩ ⟨cR 13,cP,trivial⟩


def ju.f (k : Nat) (a0 : aG) (a1 : Bool) : Option (aG × Int):=(eN.f k a0).bind (fun a=>if (!a.2) = true then (some ((a.1,2))) else (if a1 = true then (some (((aG.mk a.1.f0 a.1.f14.f0 a.1.f14.f1 a.1.f14.f2 a.1.f14.f4 a.1.f5 a.1.f6 a.1.f7 a.1.f8 a.1.f14.f3 a.1.f10 a.1.f11 a.1.f12 a.1.f13 a.1.f14 a.1.f15 a.1.f16 a.1.f17),0))) else (some (((aG.mk a.1.f0 a.1.f1 a.1.f2 a.1.f3 a.1.f4 a.1.f5 a.1.f6 a.1.f7 a.1.f8 a.1.f9 a.1.f10 a.1.f11 a.1.f12 a.1.f13 (dq.mk a.1.f1 a.1.f2 a.1.f3 a.1.f9 a.1.f4) a.1.f15 a.1.f16 a.1.f17),0)))))
theorem ju.ok {a0 : aG} {a1 : Bool} {r : aG × Int} (H : ju.f k a0 a1 = some r) : df Tryz.prog 49 #[.agg (al a0 ag af az ay aw ar av au).toArray,.bool a1] (aS a0 ag af az ay aw ar av au) (fun v B=>∃ aP aO bA bv bq bp bB bw,v = .tuple #[.agg (al r.1 aP aO bA bv bq bp bB bw).toArray,ae r.2]∧B = (aS r.1 aP aO bA bv bq bp bB bw++aS a0 ag af az ay aw ar av au)):=by
 refine ai Tryz.func49 rfl rfl ?_
 unfold ju.f at H
 refine aQ (o' (bN (h:=fun s=>o' (cy (h:=fun u=>ad aV (h:=bC (ao (bj 0 fun K=>bj 1 fun F=>bj 2 fun I=>bj 3 fun J=>ah ?_))))))))
 refine l' (ck 4) ?_
 obtain⟨a,D,H⟩:=ac H
 refine o' (dN [0,1,2,3] [4,5] (eN.ok D) fun b c d j m o p q=>?_)
 refine ad ax (h:=ad cg (h:=ad cg (h:=o' (bg s 0 8 (al a.1 b c d j m o p q) (h:=ad aV (h:=eJ (ad ax (h:=ad (ca rfl) (h:=bC ?_)))))))))
 rcases bH H with⟨y,H⟩|⟨y,H⟩
 ·refine aC rfl y (aQ (bD (ck 8) (h:=o' (bg u 0 9 (al a.1 b c d j m o p q) (h:=ad aV (h:=cE ?_))))))
  have h:=aN H;subst h
  exact dt [.cell 4 34,.tmp 5] [0,1,2,3,4,5,6,7] ⟨b,c,d,j,m,o,p,q,rfl,rfl⟩ ⟨cR 9,cP,trivial⟩
 refine aD rfl y (ap (aa (ao (aQ (ad ax (h:=bC ?_))))))
 rcases bH H with⟨z,H⟩|⟨z,H⟩
 ·refine aC rfl z (aQ (ad aE (h:=bD (cG s 25 8 (jU a.1.f14)) (h:=o' (cy (h:=fun E=>o' (bg E 0 10 (jU a.1.f14) (h:=bC ?_))))))))
  refine fk (0::1::2::3::4::5::6::7::8::9::10::12::14::16::18::[]) [10] (dG 0 10) fun _ _ _ _ _ sH dd pk=>?_
  refine bf 0 rfl sH aE (h:=bT 1 rfl sH (aT 0) (h:=bf 2 rfl sH aE (h:=bT 3 rfl sH (aT 0) (h:=bf 4 rfl sH aE (h:=bT 5 rfl sH (aT 0) (h:=bf 6 rfl sH aE (h:=bT 7 rfl sH (aT 0) (h:=bf 8 rfl sH aE (h:=r' 9 rfl sH (cG E 4 0 (bG a.1.f14.f4)) ?_)))))))))
  refine bf 10 rfl sH aE (h:=dx 11 rfl dd (cH 8 [ae a.1.f14.f0] (h:=(bf 12 rfl sH aE (h:=dx 13 rfl dd (cH 8 [ae a.1.f14.f1] (h:=(bf 14 rfl sH aE (h:=dx 15 rfl dd (cH 8 [.bool a.1.f14.f2] (h:=(bf 16 rfl sH aE (h:=dx 17 rfl dd (cH 8 [.bool a.1.f14.f3] (h:=(bf 18 rfl sH aE (h:=dx 19 rfl dd (cH 8 (bG a.1.f14.f4) (h:=?_)))))))))))))))))))
  refine aW dd sH (aH (by kernel_rfl) (aa (SA.of_St (l:=[(2,aK s),(4,aK u)]) (B:=(aS a0 ag af az ay aw ar av au++(aL s 34 (al (aG.mk a.1.f0 a.1.f14.f0 a.1.f14.f1 a.1.f14.f2 a.1.f14.f4 a.1.f5 a.1.f6 a.1.f7 a.1.f8 a.1.f14.f3 a.1.f10 a.1.f11 a.1.f12 a.1.f13 a.1.f14 a.1.f15 a.1.f16 a.1.f17) b c d j m o p q)::(aS a.1 b c d j m o p q++[aL u 34 (al cx none 0 none 0 none 0 none 0)])))) (St.mk1 (cJ rfl (cJ rfl dQ)) (Gh.sel [5,6,7,8,9,1,2,3,4,10] (by kernel_rfl) (by kernel_rfl))) fun junk=>aQ (bD (ck 4) (h:=o' (bg u 0 9 (al (aG.mk a.1.f0 a.1.f14.f0 a.1.f14.f1 a.1.f14.f2 a.1.f14.f4 a.1.f5 a.1.f6 a.1.f7 a.1.f8 a.1.f14.f3 a.1.f10 a.1.f11 a.1.f12 a.1.f13 a.1.f14 a.1.f15 a.1.f16 a.1.f17) b c d j m o p q) (h:=ad aV (h:=cF ?_))))))))
  have h:=aN H;subst h
  exact dt [.cell 4 34,.tmp 5] [5,6,7,8,0,1,2,3] ⟨b,c,d,j,m,o,p,q,rfl,rfl⟩ ⟨cR 9,cP,trivial⟩
 refine aD rfl z (ah (ad aE (h:=bD (aT 8) (h:=ad aE (h:=bD (aT 8) (h:=ad aE (h:=bD (aT 8) (h:=ad aE (h:=l' (aT 8) ?_)))))))))
 refine ad aE (h:=bD (cG s 6 8 (bG a.1.f4)) (h:=bO (.agg (jU (dq.mk a.1.f1 a.1.f2 a.1.f3 a.1.f9 a.1.f4)).toArray) dA (h:=ad aE (h:=o' (cH 8 (jU (dq.mk a.1.f1 a.1.f2 a.1.f3 a.1.f9 a.1.f4)) (h:=(bC (SA.of_St (l:=[(2,aK s),(4,aK u)]) (B:=(aS a0 ag af az ay aw ar av au++(aL s 34 (al (aG.mk a.1.f0 a.1.f1 a.1.f2 a.1.f3 a.1.f4 a.1.f5 a.1.f6 a.1.f7 a.1.f8 a.1.f9 a.1.f10 a.1.f11 a.1.f12 a.1.f13 (dq.mk a.1.f1 a.1.f2 a.1.f3 a.1.f9 a.1.f4) a.1.f15 a.1.f16 a.1.f17) b c d j m o p q)::(aS a.1 b c d j m o p q++[aL u 34 (al cx none 0 none 0 none 0 none 0)])))) (St.mk1 (cJ rfl (cJ rfl dQ)) (Gh.sel [4,5,6,7,8,0,1,2,3,9] (by kernel_rfl) (by kernel_rfl))) fun junk=>aQ (bD (ck 4) (h:=o' (uX u 0 9 (al (aG.mk a.1.f0 a.1.f1 a.1.f2 a.1.f3 a.1.f4 a.1.f5 a.1.f6 a.1.f7 a.1.f8 a.1.f9 a.1.f10 a.1.f11 a.1.f12 a.1.f13 (dq.mk a.1.f1 a.1.f2 a.1.f3 a.1.f9 a.1.f4) a.1.f15 a.1.f16 a.1.f17) b c d j m o p q) ?_)))))))))))
 refine ad aV (h:=cF ?_)
 have h:=aN H;subst h
 exact dt [.cell 4 34,.tmp 5] [5,6,7,8,0,1,2,3] ⟨b,c,d,j,m,o,p,q,rfl,rfl⟩ ⟨cR 9,cP,trivial⟩

end Go.Proofs.YtckilbegmbaeeaaGreat.Z3

/- Walks. -/
import Derived.Test.YtckilbegmbaeeaaGreatZ613
namespace Go.Proofs.YtckilbegmbaeeaaGreat.Z6
open Go Go.RowKit Go.Proofs.YtckilbegmbaeeaaGreat.SL
open Go.IntKind (i64)
set_option linter.unusedVariables false
set_option maxHeartbeats 20000000
set_option maxRecDepth 100000
set_option linter.unusedSimpArgs false
attribute [local irreducible] IntKind.wrap da fk gR kN kD po ky eS kF rd sub bytesOf ib dj
variable {ag az av ax k : Nat}
variable {af ay au aw : Option Addr}
theorem Ej.ok {a0 : aJ} {a1 : Bool} {r : aJ × Int} (H : jf.f k a0 a1 = some r) : dk Tryz.prog 49 #[.agg (al a0 af ag ay az au av aw ax).toArray,.bool a1] (cH a0 af ag ay az au av aw ax) (fun v B=>∃ aS aT bv bx bq br bw bz,v = .tuple #[.agg (al r.1 aS aT bv bx bq br bw bz).toArray,ae r.2]∧B = (bn r.1 aS aT bv bx bq br bw bz)):=by
 refine aj Tryz.func49 rfl rfl ?_
 unfold jf.f at H
 refine aR (o' (bO (h:=fun s=>o' (cw (h:=fun u=>ad aW (h:=cP (l' (cm 4) ?_)))))))
 obtain⟨a,D,H⟩:=ac H
 refine o' (ed [0,1,2,3] [0,1,2,3,4,5] (rK.ok D) fun b m c o d p j q=>?_)
 refine ad ar (h:=ad cr (h:=ad cr (h:=o' (bi s 0 8 (al a.1 b m c o d p j q) (h:=ad aW (h:=eD (ad ar (h:=ad (bX rfl) (h:=bA ?_)))))))))
 rcases bE H with⟨y,H⟩|⟨y,H⟩
 ·refine aD rfl y (aR (bp (cm 8) (h:=o' (bi u 0 9 (al a.1 b m c o d p j q) (h:=ad aW (h:=cD ?_))))))
  have h:=aN H;subst h
  exact du [.cell 4 34,.tmp 5] [0,1,2,3] ⟨b,m,c,o,d,p,j,q,rfl,rfl⟩ ⟨cV 9,cW,trivial⟩
 refine aE rfl y (ap (aa (ao (aR (ad ar (h:=bA ?_))))))
 rcases bE H with⟨z,H⟩|⟨z,H⟩
 ·refine aD rfl z (aR (ad aA (h:=bp (cz s 25 8 (ii a.1.f14)) (h:=o' (cw (h:=fun E=>o' (bi E 0 10 (ii a.1.f14) (h:=bA ?_))))))))
  refine fj (0::1::2::3::4::5::6::7::8::9::10::12::14::16::18::[]) [4,5,6,7,10] (dt 0 10) fun _ _ _ _ _ sH dd pk=>?_
  refine bc 0 rfl sH aA (h:=bQ 1 rfl sH (aP 4) (h:=bc 2 rfl sH aA (h:=bQ 3 rfl sH (aP 4) (h:=bc 4 rfl sH aA (h:=bQ 5 rfl sH (aP 4) (h:=bc 6 rfl sH aA (h:=bQ 7 rfl sH (aP 4) (h:=bc 8 rfl sH aA (h:=r' 9 rfl sH (cz E 4 4 (bF a.1.f14.f4)) ?_)))))))))
  refine bc 10 rfl sH aA (h:=dU 11 rfl dd (cF 8 [ae a.1.f14.f0] (h:=(bc 12 rfl sH aA (h:=dU 13 rfl dd (cF 8 [ae a.1.f14.f1] (h:=(bc 14 rfl sH aA (h:=dU 15 rfl dd (cF 8 [.bool a.1.f14.f2] (h:=(bc 16 rfl sH aA (h:=dU 17 rfl dd (cF 8 [.bool a.1.f14.f3] (h:=(bc 18 rfl sH aA (h:=dU 19 rfl dd (cF 8 (bF a.1.f14.f4) (h:=?_)))))))))))))))))))
  refine aV dd sH (aI (by kernel_rfl) (aa (SA.of_St (l:=[(2,aH s),(4,aH u)]) (B:=(aK s 34 (al (aJ.mk a.1.f0 a.1.f14.f0 a.1.f14.f1 a.1.f14.f2 a.1.f14.f4 a.1.f5 a.1.f6 a.1.f7 a.1.f8 a.1.f14.f3 a.1.f10 a.1.f11 a.1.f12 a.1.f13 a.1.f14 a.1.f15 a.1.f16 a.1.f17) b m c o d p j q)::(bn a.1 b m c o d p j q++[aK u 34 (al cy none 0 none 0 none 0 none 0)]))) (St.mk1 (cB rfl (cB rfl dS)) (Gh.sel [13,5,6,7,8,14] (by kernel_rfl) (by kernel_rfl))) fun junk=>aR (bp (cm 0) (h:=o' (bi u 0 5 (al (aJ.mk a.1.f0 a.1.f14.f0 a.1.f14.f1 a.1.f14.f2 a.1.f14.f4 a.1.f5 a.1.f6 a.1.f7 a.1.f8 a.1.f14.f3 a.1.f10 a.1.f11 a.1.f12 a.1.f13 a.1.f14 a.1.f15 a.1.f16 a.1.f17) b m c o d p j q) (h:=ad aW (h:=cC ?_))))))))
  have h:=aN H;subst h
  exact du [.cell 4 34,.tmp 5] [1,2,3,4] ⟨b,m,c,o,d,p,j,q,rfl,rfl⟩ ⟨cV 5,cW,trivial⟩
 refine aE rfl z (ak (ad aA (h:=bp (aP 8) (h:=ad aA (h:=bp (aP 8) (h:=ad aA (h:=bp (aP 8) (h:=ad aA (h:=l' (aP 8) ?_)))))))))
 refine ad aA (h:=bp (cz s 6 8 (bF a.1.f4)) (h:=bP (.agg (ii (dz.mk a.1.f1 a.1.f2 a.1.f3 a.1.f9 a.1.f4)).toArray) dP (h:=ad aA (h:=o' (cF 8 (ii (dz.mk a.1.f1 a.1.f2 a.1.f3 a.1.f9 a.1.f4)) (h:=(bA (SA.of_St (l:=[(2,aH s),(4,aH u)]) (B:=(aK s 34 (al (aJ.mk a.1.f0 a.1.f1 a.1.f2 a.1.f3 a.1.f4 a.1.f5 a.1.f6 a.1.f7 a.1.f8 a.1.f9 a.1.f10 a.1.f11 a.1.f12 a.1.f13 (dz.mk a.1.f1 a.1.f2 a.1.f3 a.1.f9 a.1.f4) a.1.f15 a.1.f16 a.1.f17) b m c o d p j q)::(bn a.1 b m c o d p j q++[aK u 34 (al cy none 0 none 0 none 0 none 0)]))) (St.mk1 (cB rfl (cB rfl dS)) (Gh.sel [8,0,1,2,3,9] (by kernel_rfl) (by kernel_rfl))) fun junk=>aR (bp (cm 0) (h:=o' (uB u 0 5 (al (aJ.mk a.1.f0 a.1.f1 a.1.f2 a.1.f3 a.1.f4 a.1.f5 a.1.f6 a.1.f7 a.1.f8 a.1.f9 a.1.f10 a.1.f11 a.1.f12 a.1.f13 (dz.mk a.1.f1 a.1.f2 a.1.f3 a.1.f9 a.1.f4) a.1.f15 a.1.f16 a.1.f17) b m c o d p j q) ?_)))))))))))
 refine ad aW (h:=cC ?_)
 have h:=aN H;subst h
 exact du [.cell 4 34,.tmp 5] [1,2,3,4] ⟨b,m,c,o,d,p,j,q,rfl,rfl⟩ ⟨cV 5,cW,trivial⟩


theorem Ek.ok {a0 : aJ} {a1 : Bool} {a2 : Int} {a3 : Bool} {r : aJ × Int} (H : pX.f k a0 a1 a2 a3 = some r) : dk Tryz.prog 50 #[.agg (al a0 af ag ay az au av aw ax).toArray,.bool a1,ae a2,.bool a3] (cH a0 af ag ay az au av aw ax) (fun v B=>∃ aS aT bv bx bq br bw bz,v = .tuple #[.agg (al r.1 aS aT bv bx bq br bw bz).toArray,ae r.2]∧B = (bn r.1 aS aT bv bx bq br bw bz)):=by
 refine aj Tryz.func50 rfl rfl ?_
 unfold pX.f at H
 refine aR (o' (bO (h:=fun S=>o' (cw (h:=fun y=>ad aW (h:=cP (l' (cm 4) ?_)))))))
 obtain⟨a,i0,H⟩:=ac H
 refine o' (ed [0,1,2,3] [0,1,2,3,4,5] (rK.ok i0) fun p s d m q u j o=>?_)
 refine ad ar (h:=ad cr (h:=ad cr (h:=o' (bi S 0 8 (al a.1 p s d m q u j o) (h:=ad aW (h:=eD (ad ar (h:=ad (bX rfl) (h:=bA ?_)))))))))
 rcases bE H with⟨d8,H⟩|⟨d8,H⟩
 ·refine aD rfl d8 (aR (bp (cm 8) (h:=o' (bi y 0 9 (al a.1 p s d m q u j o) (h:=ad aW (h:=cD ?_))))))
  have h:=aN H;subst h
  exact du [.cell 8 34,.tmp 9] [0,1,2,3] ⟨p,s,d,m,q,u,j,o,rfl,rfl⟩ ⟨cV 9,cW,trivial⟩
 refine aE rfl d8 (ap (aa (ao (aR (ad ar (h:=ad (bX rfl) (h:=bA ?_)))))))
 rcases bE H with⟨d9,H⟩|⟨d9,H⟩
 ·refine aD rfl d9 (ao (aR (ad ar (h:=ad (bk rfl rfl) (h:=bA ?_)))))
  rcases bE H with⟨e0,H⟩|⟨e0,H⟩
  ·refine aC rfl e0 (ak (ad ar (h:=ad aA (h:=o' (cF 8 [.bool a3] (h:=(cP (bp (cm 8) (h:=o' (bi y 0 9 (al (aJ.mk a.1.f0 a.1.f1 a.1.f2 a.1.f3 a.1.f4 a.1.f5 a.1.f6 a.1.f7 a.1.f8 a.1.f9 a3 a.1.f11 a.1.f12 a.1.f13 a.1.f14 a.1.f15 a.1.f16 a.1.f17) p s d m q u j o) (h:=ad aW (h:=cD ?_))))))))))))
   have h:=aN H;subst h
   exact du [.cell 8 34,.tmp 9] [0,1,2,3] ⟨p,s,d,m,q,u,j,o,rfl,rfl⟩ ⟨cV 9,cW,trivial⟩
  refine aB rfl e0 (ap (aa (aR (bp (cm 8) (h:=o' (bi y 0 9 (al a.1 p s d m q u j o) (h:=ad aW (h:=cD ?_))))))))
  have h:=aN H;subst h
  exact du [.cell 8 34,.tmp 9] [0,1,2,3] ⟨p,s,d,m,q,u,j,o,rfl,rfl⟩ ⟨cV 9,cW,trivial⟩
 refine aE rfl d9 (ap (aa (ao (aR (ad ar (h:=bA (aQ (aR (ad (bk rfl rfl) (h:=ad aW (h:=bA ?_)))))))))))
 rcases bE H with⟨e1,H⟩|⟨e1,H⟩
 ·refine aC rfl e1 (ak (ad ar (h:=ad aA (h:=o' (cF 8 [.bool a3] (h:=(ah (aF (aa (aR (bp (cm 8) (h:=o' (bi y 0 9 (al (aJ.mk a.1.f0 a.1.f1 a.1.f2 a.1.f3 a.1.f4 a.1.f5 a.1.f6 a.1.f7 a.1.f8 a.1.f9 a.1.f10 a3 a.1.f12 a.1.f13 a.1.f14 a.1.f15 a.1.f16 a.1.f17) p s d m q u j o) (h:=ad aW (h:=cC ?_)))))))))))))))
  have h:=aN H;subst h
  exact du [.cell 8 34,.tmp 9] [0,1,2,3] ⟨p,s,d,m,q,u,j,o,rfl,rfl⟩ ⟨cV 9,cW,trivial⟩
 refine aB rfl e1 (aR (ad (bk rfl rfl) (h:=ad aW (h:=bA ?_))))
 rcases bE H with⟨e2,H⟩|⟨e2,H⟩
 ·refine aC rfl e2 (aR (ad ar (h:=ad aA (h:=o' (cF 8 [.bool a3] (h:=(bA (ao (bM 0 fun k0=>bM 1 fun k1=>bM 2 fun k2=>bM 3 fun k3=>?_)))))))))
  refine ak (l' (cm 8) ?_)
  obtain⟨oL,i4,H⟩:=ac H
  refine o' (ed [0,1,2,3] [4,5,6,7,8,9] (jW.ok i4) fun g1 g7 g2 g8 g3 g9 g4 h0=>?_)
  refine ad cr (h:=ad cr (h:=o' (bi y 0 13 (al oL.1 g1 g7 g2 g8 g3 g9 g4 h0) (h:=ad aW (h:=cC (ba (aG ?_)))))))
  have h:=aN H;subst h
  exact du [.cell 8 34,.tmp 9] [0,1,2,3] ⟨g1,g7,g2,g8,g3,g9,g4,h0,rfl,rfl⟩ ⟨cV 13,cW,trivial⟩
 refine aB rfl e2 (aR (ad (bk rfl rfl) (h:=ad aW (h:=bA ?_))))
 rcases bE H with⟨e3,H⟩|⟨e3,H⟩
 ·refine aC rfl e3 (ak (ad ar (h:=ad aA (h:=o' (cF 8 [.bool a3] (h:=(ah (aF (aa (aR (bp (cm 8) (h:=o' (bi y 0 9 (al (aJ.mk a.1.f0 a.1.f1 a.1.f2 a.1.f3 a.1.f4 a.1.f5 a.1.f6 a.1.f7 a3 a.1.f9 a.1.f10 a.1.f11 a.1.f12 a.1.f13 a.1.f14 a.1.f15 a.1.f16 a.1.f17) p s d m q u j o) (h:=ad aW (h:=cC ?_)))))))))))))))
  have h:=aN H;subst h
  exact du [.cell 8 34,.tmp 9] [0,1,2,3] ⟨p,s,d,m,q,u,j,o,rfl,rfl⟩ ⟨cV 9,cW,trivial⟩
 refine aB rfl e3 (aR (ad (bk rfl rfl) (h:=ad aW (h:=bA ?_))))
 rcases bE H with⟨e4,H⟩|⟨e4,H⟩
 ·refine aC rfl e4 (ak (ad ar (h:=ad aA (h:=o' (cF 8 [.bool a3] (h:=(ah (aF (aa (SA.of_St (l:=[(4,aH S),(8,aH y)]) (B:=(aK S 34 (al (aJ.mk a.1.f0 a.1.f1 a.1.f2 a.1.f3 a.1.f4 a.1.f5 a.1.f6 a.1.f7 a.1.f8 a.1.f9 a.1.f10 a.1.f11 a.1.f12 a3 a.1.f14 a.1.f15 a.1.f16 a.1.f17) p s d m q u j o)::(bn a.1 p s d m q u j o++[aK y 34 (al cy none 0 none 0 none 0 none 0)]))) (St.mk1 (cB rfl (cB rfl dS)) (Gh.sel [8,0,1,2,3,9] (by kernel_rfl) (by kernel_rfl))) fun junk=>aR (bp (cm 0) (h:=o' (uB y 0 5 (al (aJ.mk a.1.f0 a.1.f1 a.1.f2 a.1.f3 a.1.f4 a.1.f5 a.1.f6 a.1.f7 a.1.f8 a.1.f9 a.1.f10 a.1.f11 a.1.f12 a3 a.1.f14 a.1.f15 a.1.f16 a.1.f17) p s d m q u j o) ?_)))))))))))))
  refine ad aW (h:=cC ?_)
  have h:=aN H;subst h
  exact du [.cell 8 34,.tmp 9] [1,2,3,4] ⟨p,s,d,m,q,u,j,o,rfl,rfl⟩ ⟨cV 5,cW,trivial⟩
 refine aB rfl e4 (aR (ad (bk rfl rfl) (h:=ad aW (h:=bA (SA.of_St (l:=[(3,.bool a3),(4,aH S),(8,aH y),(26,ae a2),(47,.bool (decide (a2 = 2004)))]) (B:=(aK S 34 (al a.1 p s d m q u j o)::(bn a.1 p s d m q u j o++[aK y 34 (al cy none 0 none 0 none 0 none 0)]))) (St.mk1 (cB rfl (cB rfl (cB rfl (cB rfl (cB rfl dS))))) (Gh.sel [8,0,1,2,3,9] (by kernel_rfl) (by kernel_rfl))) fun junk=>?_)))))
 rcases bE H with⟨e5,H⟩|⟨e5,H⟩
 ·refine aC rfl e5 (ak (ad ar (h:=ad aA (h:=o' (cF 0 [.bool a3] (h:=(ah (aF (aa (aR (bp (cm 0) (h:=o' (bi y 0 5 (al (aJ.mk a.1.f0 a.1.f1 a.1.f2 a.1.f3 a.1.f4 a.1.f5 a.1.f6 a.1.f7 a.1.f8 a.1.f9 a.1.f10 a.1.f11 a3 a.1.f13 a.1.f14 a.1.f15 a.1.f16 a.1.f17) p s d m q u j o) (h:=ad aW (h:=cC ?_)))))))))))))))
  have h:=aN H;subst h
  exact du [.cell 8 34,.tmp 9] [1,2,3,4] ⟨p,s,d,m,q,u,j,o,rfl,rfl⟩ ⟨cV 5,cW,trivial⟩
 refine aB rfl e5 (ao (aR (ad (bk rfl rfl) (h:=ad aW (h:=bA ?_)))))
 obtain⟨i6,H,b8⟩:=ac H
 refine bI (St [(3,.bool a3),(4,aH S),(8,aH y),(26,ae a2),(51,.bool i6)] (aK S 34 (al a.1 p s d m q u j o)::(bn a.1 p s d m q u j o++[aK y 34 (al cy none 0 none 0 none 0 none 0)]))) ?_ ?_
 ·rcases bE H with⟨e6,H⟩|⟨e6,H⟩
  ·refine aC rfl e6 (ap ?_)
   have h:=aN H;subst h
   exact bK [0,1,2,3,4,5]
  refine aB rfl e6 (ak (ad (bk rfl rfl) (h:=ad aW (h:=ah ?_))))
  have h:=aN H;subst h
  exact bK [0,1,2,3,4,5]
 rintro e ds As g0
 clear H
 have H:=b8
 clear b8
 refine aa (SA.of_St g0 fun junk=>?_)
 rcases bE H with⟨e7,H⟩|⟨e7,H⟩
 ·refine aD rfl e7 (ao (bM 1 fun k4=>bM 2 fun k5=>bM 3 fun k6=>bM 4 fun k7=>ak (bp (cm 0) (h:=S' ar ?_))))
  obtain⟨c,i5,H⟩:=ac H
  refine o' (ms [1,2,3,4] [0,5] (fz.ok i5) ?_)
  rintro _ _ (⟨F,g5,h1,rfl,rfl⟩ | ⟨F,g6,h3,rfl,rfl⟩ | ⟨F,rfl,rfl⟩)
  ·replace H:=lr F H
   refine o' (bi y 0 6 (al (aJ.mk c.2.f0 c.2.f1 c.2.f2 c.2.f3 c.2.f4 c.2.f5 c.2.f6 a.1.f7 c.2.f8 c.2.f9 c.2.f10 c.2.f11 c.2.f12 c.2.f13 c.2.f14 c.2.f15 (bH.mk c.2.f16.f0 c.2.f16.f1 a.1.f0.f2) a.1.f17) g5 h1 d m p s j o) (h:=ad aW (h:=cC (ba (aG ?_)))))
   have h:=aN H;subst h
   exact du [.cell 8 34,.tmp 9] [0,2,1,4] ⟨g5,h1,d,m,p,s,j,o,rfl,rfl⟩ ⟨cV 6,cW,trivial⟩
  ·replace H:=lq (by rw [F]; decide) H
   replace H:=lr F H
   refine o' (bi y 0 6 (al (aJ.mk (bH.mk c.2.f0.f0 c.2.f0.f1 a.1.f16.f2) c.2.f1 c.2.f2 c.2.f3 c.2.f4 c.2.f5 c.2.f6 a.1.f7 c.2.f8 c.2.f9 c.2.f10 c.2.f11 c.2.f12 c.2.f13 c.2.f14 c.2.f15 c.2.f16 a.1.f17) q u d m g6 h3 j o) (h:=ad aW (h:=cC (ba (aG ?_)))))
   have h:=aN H;subst h
   exact du [.cell 8 34,.tmp 9] [3,2,0,4] ⟨q,u,d,m,g6,h3,j,o,rfl,rfl⟩ ⟨cV 6,cW,trivial⟩
  replace H:=lq (by rw [F]; decide) H
  replace H:=lq (by rw [F]; decide) H
  replace H:=lr F H
  refine o' (bi y 0 5 (al (aJ.mk (bH.mk c.2.f0.f0 c.2.f0.f1 a.1.f0.f2) c.2.f1 c.2.f2 c.2.f3 c.2.f4 c.2.f5 c.2.f6 a.1.f7 c.2.f8 c.2.f9 c.2.f10 c.2.f11 c.2.f12 c.2.f13 c.2.f14 c.2.f15 (bH.mk c.2.f16.f0 c.2.f16.f1 a.1.f16.f2) a.1.f17) p s d m q u j o) (h:=ad aW (h:=cC (ba (aG ?_)))))
  have h:=aN H;subst h
  exact du [.cell 8 34,.tmp 9] [0,1,2,3] ⟨p,s,d,m,q,u,j,o,rfl,rfl⟩ ⟨cV 5,cW,trivial⟩
 refine aE rfl e7 (aR (ad (bk rfl rfl) (h:=ad aW (h:=bA ?_))))
 rcases bE H with⟨e8,H⟩|⟨e8,H⟩
 ·refine aC rfl e8 (ao (aR (ad ar (h:=bA ?_))))
  rcases bE H with⟨e9,H⟩|⟨e9,H⟩
  ·refine aD rfl e9 (ao (bM 1 fun k8=>bM 2 fun k9=>bM 3 fun l0=>bM 4 fun i7=>ak (l' (cm 0) ?_)))
   obtain⟨z,h5,H⟩:=ac H
   refine o' (ed [1,2,3,4] [0,5] (jf.ok h5) fun M O I K N R J L=>?_)
   refine ad ar (h:=ad cr (h:=ad cr (h:=o' (bi S 0 8 (al z.1 M O I K N R J L) (h:=bA (ao (bM 0 fun i8=>bM 1 fun i9=>bM 2 fun j0=>bM 3 fun j1=>ak ?_)))))))
   refine l' (cm 8) ?_
   obtain⟨b,h4,H⟩:=ac H
   refine o' (ms [0,1,2,3] [4,5,6,7,8,9] (fz.ok h4) ?_)
   rintro _ _ (⟨D,Y,b9,rfl,rfl⟩ | ⟨D,Z,c5,rfl,rfl⟩ | ⟨D,rfl,rfl⟩)
   ·replace H:=lr D H
    refine o' (bi y 0 10 (al (aJ.mk b.2.f0 b.2.f1 b.2.f2 b.2.f3 b.2.f4 b.2.f5 b.2.f6 z.1.f7 b.2.f8 b.2.f9 b.2.f10 b.2.f11 b.2.f12 b.2.f13 b.2.f14 b.2.f15 (bH.mk b.2.f16.f0 b.2.f16.f1 z.1.f0.f2) z.1.f17) Y b9 I K M O J L) (h:=ad aW (h:=cD (ba (aG ?_)))))
    have h:=aN H;subst h
    exact du [.cell 8 34,.tmp 9] [0,2,1,4] ⟨Y,b9,I,K,M,O,J,L,rfl,rfl⟩ ⟨cV 10,cW,trivial⟩
   ·replace H:=lq (by rw [D]; decide) H
    replace H:=lr D H
    refine o' (bi y 0 10 (al (aJ.mk (bH.mk b.2.f0.f0 b.2.f0.f1 z.1.f16.f2) b.2.f1 b.2.f2 b.2.f3 b.2.f4 b.2.f5 b.2.f6 z.1.f7 b.2.f8 b.2.f9 b.2.f10 b.2.f11 b.2.f12 b.2.f13 b.2.f14 b.2.f15 b.2.f16 z.1.f17) N R I K Z c5 J L) (h:=ad aW (h:=cD (ba (aG ?_)))))
    have h:=aN H;subst h
    exact du [.cell 8 34,.tmp 9] [3,2,0,4] ⟨N,R,I,K,Z,c5,J,L,rfl,rfl⟩ ⟨cV 10,cW,trivial⟩
   replace H:=lq (by rw [D]; decide) H
   replace H:=lq (by rw [D]; decide) H
   replace H:=lr D H
   refine o' (bi y 0 9 (al (aJ.mk (bH.mk b.2.f0.f0 b.2.f0.f1 z.1.f0.f2) b.2.f1 b.2.f2 b.2.f3 b.2.f4 b.2.f5 b.2.f6 z.1.f7 b.2.f8 b.2.f9 b.2.f10 b.2.f11 b.2.f12 b.2.f13 b.2.f14 b.2.f15 (bH.mk b.2.f16.f0 b.2.f16.f1 z.1.f16.f2) z.1.f17) M O I K N R J L) (h:=ad aW (h:=cD (ba (aG ?_)))))
   have h:=aN H;subst h
   exact du [.cell 8 34,.tmp 9] [0,1,2,3] ⟨M,O,I,K,N,R,J,L,rfl,rfl⟩ ⟨cV 9,cW,trivial⟩
  refine aE rfl e9 (ap (aa (aR (ad aA (h:=bp (aP 0) (h:=bA ?_))))))
  rcases bE H with⟨U,H⟩|⟨U,H⟩
  ·refine aD rfl U (ao (bM 1 fun j2=>bM 2 fun j3=>bM 3 fun j4=>bM 4 fun j5=>ak (l' (cm 0) ?_)))
   obtain⟨l1,h9,H⟩:=ac H
   refine o' (ms [1,2,3,4] [0,5] (fz.ok h9) ?_)
   rintro _ _ (⟨E,j6,j8,rfl,rfl⟩ | ⟨E,j7,j9,rfl,rfl⟩ | ⟨E,rfl,rfl⟩)
   ·replace H:=lr E H
    obtain⟨i1,h6,H⟩:=ac H
    refine o' (ed [0,2,1,4] [3,5,6] (jf.ok h6) fun a4 c6 a5 c7 a6 c8 a7 c9=>?_)
    refine ad cr (h:=ad cr (h:=o' (bi y 0 10 (al i1.1 a4 c6 a5 c7 a6 c8 a7 c9) (h:=ad aW (h:=cC (ba (aG ?_)))))))
    have h:=aN H;subst h
    exact du [.cell 8 34,.tmp 9] [0,1,2,3] ⟨a4,c6,a5,c7,a6,c8,a7,c9,rfl,rfl⟩ ⟨cV 10,cW,trivial⟩
   ·replace H:=lq (by rw [E]; decide) H
    replace H:=lr E H
    obtain⟨i2,h7,H⟩:=ac H
    refine o' (ed [3,2,0,4] [1,5,6] (jf.ok h7) fun a8 d0 a9 d1 b0 d2 b1 d3=>?_)
    refine ad cr (h:=ad cr (h:=o' (bi y 0 10 (al i2.1 a8 d0 a9 d1 b0 d2 b1 d3) (h:=ad aW (h:=cC (ba (aG ?_)))))))
    have h:=aN H;subst h
    exact du [.cell 8 34,.tmp 9] [0,1,2,3] ⟨a8,d0,a9,d1,b0,d2,b1,d3,rfl,rfl⟩ ⟨cV 10,cW,trivial⟩
   replace H:=lq (by rw [E]; decide) H
   replace H:=lq (by rw [E]; decide) H
   replace H:=lr E H
   obtain⟨i3,h8,H⟩:=ac H
   refine o' (ed [0,1,2,3] [4,5] (jf.ok h8) fun b2 d4 b3 d5 b4 d6 b6 d7=>?_)
   refine ad cr (h:=ad cr (h:=o' (bi y 0 9 (al i3.1 b2 d4 b3 d5 b4 d6 b6 d7) (h:=ad aW (h:=cC (ba (aG ?_)))))))
   have h:=aN H;subst h
   exact du [.cell 8 34,.tmp 9] [0,1,2,3] ⟨b2,d4,b3,d5,b4,d6,b6,d7,rfl,rfl⟩ ⟨cV 9,cW,trivial⟩
  refine aE rfl U (ap (aF (aa (aR (bp (cm 0) (h:=o' (bi y 0 5 (al a.1 p s d m q u j o) (h:=ad aW (h:=cC ?_)))))))))
  have h:=aN H;subst h
  exact du [.cell 8 34,.tmp 9] [1,2,3,4] ⟨p,s,d,m,q,u,j,o,rfl,rfl⟩ ⟨cV 5,cW,trivial⟩
 refine aB rfl e8 (ap (aF (aa (aR (bp (cm 0) (h:=o' (bi y 0 5 (al a.1 p s d m q u j o) (h:=ad aW (h:=cC ?_)))))))))
 have h:=aN H;subst h
 exact du [.cell 8 34,.tmp 9] [1,2,3,4] ⟨p,s,d,m,q,u,j,o,rfl,rfl⟩ ⟨cV 5,cW,trivial⟩


theorem El.ok {a0 : aJ} {a1 : Int} {r : aJ × Int} (H : fV.f k a0 a1 = some r) : dk Tryz.prog 51 #[.agg (al a0 af ag ay az au av aw ax).toArray,ae a1] (cH a0 af ag ay az au av aw ax) (fun v B=>∃ aS aT bv bx bq br bw bz,v = .tuple #[.agg (al r.1 aS aT bv bx bq br bw bz).toArray,ae r.2]∧B = (bn r.1 aS aT bv bx bq br bw bz)):=by
 refine aj Tryz.func51 rfl rfl ?_
 unfold fV.f at H
 refine aR (o' (bO (h:=fun J=>o' (cw (h:=fun F=>ad aW (h:=cP (l' (cm 4) ?_)))))))
 obtain⟨b,e3,H⟩:=ac H
 refine o' (ed [0,1,2,3] [0,1,2,3,4,5] (rK.ok e3) fun d p u y l q o s=>?_)
 refine ad ar (h:=ad cr (h:=ad cr (h:=o' (bi J 0 8 (al b.1 d p u y l q o s) (h:=ad aW (h:=eD (ad ar (h:=ad (bX rfl) (h:=bA ?_)))))))))
 rcases bE H with⟨a7,H⟩|⟨a7,H⟩
 ·refine aD rfl a7 (aR (bp (cm 8) (h:=o' (bi F 0 9 (al b.1 d p u y l q o s) (h:=ad aW (h:=cD ?_))))))
  have h:=aN H;subst h
  exact du [.cell 4 34,.tmp 5] [0,1,2,3] ⟨d,p,u,y,l,q,o,s,rfl,rfl⟩ ⟨cV 9,cW,trivial⟩
 refine aE rfl a7 (ap (aa (ao (aR (ad ar (h:=ad (ce rfl rfl) (h:=S' ar ?_)))))))
 obtain⟨e5,b4,H⟩:=bj H
 refine cK 3 (St [(1,ae a1),(2,aH J),(4,aH F),(24,.bool e5)] (aK J 34 (al b.1 d p u y l q o s)::(bn b.1 d p u y l q o s++[aK F 34 (al cy none 0 none 0 none 0 none 0)]))) ?_ ?_
 ·by_cases O : a1 < 0
  ·refine cu 2 (ai O) (cd (ai O) (h:=ah ?_))
   have x_:=ji b4 ((ai O));exact bK [8,0,1,2,3,9]
  refine bf (am O) ar (h:=bf (am O) (eK rfl rfl) (h:=ck (am O) (h:=ah ?_)))
  have x_:=jh b4 ((am O));exact bK [8,0,1,2,3,9]
 rintro e ds As c5
 refine bA (SA.of_St c5 fun junk=>?_)
 rcases bE H with⟨a8,H⟩|⟨a8,H⟩
 ·refine aD rfl a8 (aR (bp (cm 0) (h:=o' (bi F 0 5 (al b.1 d p u y l q o s) (h:=ad aW (h:=cD ?_))))))
  have h:=aN H;subst h
  exact du [.cell 4 34,.tmp 5] [1,2,3,4] ⟨d,p,u,y,l,q,o,s,rfl,rfl⟩ ⟨cV 5,cW,trivial⟩
 refine aE rfl a8 (ap (aa (aR (ad aW (h:=eD (ad aW (h:=bA ?_)))))))
 obtain⟨Z,H,a3⟩:=ac H
 refine bI (fun e ds As=>∃ (R : Option Addr) (S : Nat),St [(2,aH J),(4,aH F),(7,.slice R Z.length S)] (gf 3 R S Z::(aK J 34 (al b.1 d p u y l q o s)::(bn b.1 d p u y l q o s++[aK F 34 (al cy none 0 none 0 none 0 none 0)]))) e ds As) ?_ ?_
 ·refine aQ (cj (fun k_ e ds As=>∃ (a : (List Int)) (z : Int),∃ (D : Option Addr) (E : Nat),fV.l0 a1 b k_ a z = some Z∧St [(1,ae a1),(2,aH J),(4,aH F),(7,.slice D a.length E),(8,ae z)] (aK J 34 (al b.1 d p u y l q o s)::(bn b.1 d p u y l q o s++[aK F 34 (al cy none 0 none 0 none 0 none 0),gf 3 D E a])) e ds As) (k:=k) ⟨_,_,none,0,H,St.mk1 (cB rfl (cB rfl (cB rfl (cB rfl (cB rfl dS))))) ((Gh.nilBuf (Kd.int .i64) 3).trans (eZ [0,1,2,3,4,5,6]))⟩ ?_)
  clear H
  rintro Y e ds As ⟨a,z,D,E,H,c6⟩
  obtain _ | Y:=Y
  ·cases H
  rw [fV.l0] at H
  refine SA.of_St c6 fun junk=>ao (aR (ad ar (h:=ad aA (h:=ad aA (h:=bp (aP 0) (h:=ad (ce rfl rfl) (h:=bA ?_)))))))
  rcases bE H with⟨a9,H⟩|⟨a9,H⟩
  ·refine aC rfl a9 (ap (aa (ao (aQ (aR (ad aW (h:=eD (ad aW (h:=bA ?_)))))))))
   obtain⟨b9,H,a4⟩:=ac H
   refine bI (St [(1,ae a1),(2,aH J),(4,aH F),(7,.slice D a.length E),(8,ae z),(9,.bool b9)] (aK J 34 (al b.1 d p u y l q o s)::(bn b.1 d p u y l q o s++[aK F 34 (al cy none 0 none 0 none 0 none 0),gf 3 D E a]))) ?_ ?_
   ·refine aQ (cj (fun k_ e ds As=>∃ (U : Bool) (I : Int),fV.l1 b z k_ U I = some b9∧St [(1,ae a1),(2,aH J),(4,aH F),(7,.slice D a.length E),(8,ae z),(9,.bool U),(10,ae I)] (aK J 34 (al b.1 d p u y l q o s)::(bn b.1 d p u y l q o s++[aK F 34 (al cy none 0 none 0 none 0 none 0),gf 3 D E a])) e ds As) (k:=Y) ⟨_,_,H,jV [0,1,2,3,4,5,6]⟩ ?_)
    clear H
    rintro b8 e ds As ⟨U,I,H,c7⟩
    obtain _ | b8:=b8
    ·cases H
    rw [fV.l1] at H
    refine SA.of_St c7 fun junk=>ao (aR (ad ar (h:=ad aA (h:=bp (aP 0) (h:=bP (ae (b.1.f7.length : Int)) (cO Tryz.underlying29 rfl) (h:=ad (ce rfl rfl) (h:=bA ?_)))))))
    rcases bE H with⟨b0,H⟩|⟨b0,H⟩
    ·refine aC rfl b0 (ap (aa (ao (aQ (ak (ad ar (h:=S' ar ?_)))))))
     obtain⟨e6,H,d7⟩:=ac H
     refine dy 8 [(1,ae a1),(2,aH J),(4,aH F),(7,.slice D a.length E),(8,ae z),(10,ae I),(49,.bool e6)] (aK J 34 (al b.1 d p u y l q o s)::(bn b.1 d p u y l q o s++[aK F 34 (al cy none 0 none 0 none 0 none 0),gf 3 D E a])) ?_ fun junk=>?_
     ·rcases bE H with⟨K,H⟩|⟨K,H⟩
      ·refine cu 7 K (gN K ?_)
       have h:=aN H;subst h
       exact dL [0,1,2,3,4,5,6]
      refine bf (aM K) aA (h:=cE (aM K) (aP 0) (h:=Y' (aM K) ar ?_))
      obtain⟨⟨d4,d5⟩,H⟩:=aO H
      refine cE (aM K) (bu (i:=I) Tryz.underlying29 jl rfl rfl (Src.buf (k:=2) rfl) d4 d5) (h:=cE (aM K) (bJ (enc:=(fun x_ : Int=>[Value.int .i64 x_])) (i:=I) (j:=I.toNat * 1) (m:=0) (sz:=1) Tryz.underlying3 rfl rfl rfl rfl (Src.buf (k:=2) rfl) d4 d5 (fun _ _ h=>h) rfl) (h:=bf (aM K) ar (h:=bf (aM K) (bk rfl rfl) (h:=fZ (aM K) ?_))))
      have h:=aN H;subst h
      exact dL [0,1,2,3,4,5,6]
     replace H:=d7
     refine ad aW (h:=ah (aF (aa (ak (ad ar (h:=S' (bW rfl rfl) ?_))))))
     obtain⟨n47,d8,H⟩:=bj H
     refine bP (ae n47) (bo (v:=ae n47) (congrArg (Value.int .i64) d8.symm)) (h:=ah ?_)
     exact aa ⟨b8,Nat.lt_succ_self _,_,_,H,dZ [0,1,2,3,4,5,6]⟩
    refine aB rfl b0 (cf (aX (aX (cg ?_))))
    have h:=aN H;subst h
    exact bK [0,1,2,3,4,5,6]
   rintro e ds As c8
   clear H
   have H:=a4
   clear a4
   refine aa (SA.of_St c8 fun junk=>ao (aR (ad ar (h:=ad (bk rfl rfl) (h:=S' ar ?_)))))
   obtain⟨e7,H,a2⟩:=ac H
   refine cK 9 (St [(1,ae a1),(2,aH J),(4,aH F),(7,.slice D a.length E),(8,ae z),(9,.bool b9),(61,.bool e7)] (aK J 34 (al b.1 d p u y l q o s)::(bn b.1 d p u y l q o s++[aK F 34 (al cy none 0 none 0 none 0 none 0),gf 3 D E a]))) ?_ ?_
   ·rcases bE H with⟨L,H⟩|⟨L,H⟩
    ·refine cu 3 (ai L) (fY (fY (fY (fY (cu 1 (ai L) (gN (ai L) ?_))))))
     have h:=aN H;subst h
     exact dL [0,1,2,3,4,5,6]
    refine bf (am L) ar (h:=bf (am L) (bk rfl rfl) (h:=Y' (am L) ar ?_))
    rcases bE H with⟨N,H⟩|⟨N,H⟩
    ·refine bf (ai N) ar (h:=bf (ai N) aA (h:=cE (ai N) (aP 0) (h:=bf (ai N) (bk rfl rfl) (h:=fT (am L) (dr rfl (bS rfl (ai N) rfl) (fZ (am L) ?_))))))
     have h:=aN H;subst h
     exact dL [0,1,2,3,4,5,6]
    refine cu 4 (am N) (fT (am L) (dr rfl (bR rfl (am N) rfl) (fZ (am L) ?_)))
    have h:=aN H;subst h
    exact dL [0,1,2,3,4,5,6]
   rintro e ds As c9
   clear H
   have H:=a2
   clear a2
   refine bA (SA.of_St c9 fun junk=>?_)
   obtain⟨d6,H,a5⟩:=ac H
   refine bI (St [(1,ae a1),(2,aH J),(4,aH F),(7,.slice D a.length E),(8,ae z),(9,.bool d6)] (aK J 34 (al b.1 d p u y l q o s)::(bn b.1 d p u y l q o s++[aK F 34 (al cy none 0 none 0 none 0 none 0),gf 3 D E a]))) ?_ ?_
   ·rcases bE H with⟨b1,H⟩|⟨b1,H⟩
    ·refine aD rfl b1 (ak (ad aW (h:=ah ?_)))
     have h:=aN H;subst h
     exact bK [0,1,2,3,4,5,6]
    refine aE rfl b1 (ap ?_)
    have h:=aN H;subst h
    exact bK [0,1,2,3,4,5,6]
   rintro e ds As d0
   clear H
   have H:=a5
   clear a5
   refine aa (SA.of_St d0 fun junk=>ao (aR (ad ar (h:=ad (bk rfl rfl) (h:=S' ar ?_)))))
   obtain⟨e8,b6,H⟩:=bj H
   refine cK 5 (St [(1,ae a1),(2,aH J),(4,aH F),(7,.slice D a.length E),(8,ae z),(9,.bool d6),(69,.bool e8)] (aK J 34 (al b.1 d p u y l q o s)::(bn b.1 d p u y l q o s++[aK F 34 (al cy none 0 none 0 none 0 none 0),gf 3 D E a]))) ?_ ?_
   ·by_cases M : a1 = 0
    ·refine bf (ai M) ar (h:=bf (ai M) aA (h:=cE (ai M) (aP 0) (h:=bf (ai M) (bk rfl rfl) (h:=cd (ai M) (h:=ah ?_)))))
     have x_:=fD b6 ((ai M));exact bK [0,1,2,3,4,5,6]
    refine cu 4 (am M) (ck (am M) (h:=ah ?_))
    have x_:=fC b6 ((am M));exact bK [0,1,2,3,4,5,6]
   rintro e ds As d1
   refine bA (SA.of_St d1 fun junk=>?_)
   obtain⟨e9,H,a6⟩:=ac H
   refine bI (St [(1,ae a1),(2,aH J),(4,aH F),(7,.slice D a.length E),(8,ae z),(9,.bool e9)] (aK J 34 (al b.1 d p u y l q o s)::(bn b.1 d p u y l q o s++[aK F 34 (al cy none 0 none 0 none 0 none 0),gf 3 D E a]))) ?_ ?_
   ·rcases bE H with⟨b2,H⟩|⟨b2,H⟩
    ·refine aD rfl b2 (ak (ad aW (h:=ah ?_)))
     have h:=aN H;subst h
     exact bK [0,1,2,3,4,5,6]
    refine aE rfl b2 (ap ?_)
    have h:=aN H;subst h
    exact bK [0,1,2,3,4,5,6]
   rintro e ds As d2
   clear H
   have H:=a6
   clear a6
   refine aa (SA.of_St d2 fun junk=>aR (ad ar (h:=bA ?_)))
   rcases bE H with⟨b3,H⟩|⟨b3,H⟩
   ·refine aD rfl b3 (ak (ad ar (h:=ad ar (h:=o' (gE (kd:=(Kd.int .i64)) (zv:=(ae 0)) (sz:=1) (cells:=[ae z]) (xs:=([z] : (List Int))) rfl Tryz.underlying29 np jl rfl rfl rfl (by kernel_rfl) rfl rfl (dO (fun x_ : Int=>[Value.int .i64 x_]) (fun _ _=>rfl) (by kernel_rfl)) fun g0=>?_)))))
    obtain⟨g1,H⟩:=aO H
    obtain⟨n69,d9,H⟩:=bj H
    refine o' (gl (k:=6) (A:=D) (c:=E) (xs:=a) (ys:=([z] : (List Int))) n69 d9 rfl Tryz.underlying29 pf rfl rfl rfl rfl rfl (ng.slice Tryz.underlying29 (Src.buf (k:=7) rfl)) (by omega) (by omega) fun e2 e4=>ad aW (h:=ah (aF (aa (ak (ad ar (h:=S' (bW rfl rfl) ?_)))))))
    obtain⟨n70,e0,H⟩:=bj H
    refine bP (ae n70) (bo (v:=ae n70) (congrArg (Value.int .i64) e0.symm)) (h:=ah ?_)
    exact aa ⟨Y,Nat.lt_succ_self _,_,_,e2,e4,H,dZ [0,1,2,3,4,5,6]⟩
   refine aE rfl b3 (ap (aF (aa (ak (ad ar (h:=S' (bW rfl rfl) ?_))))))
   obtain⟨n71,e1,H⟩:=bj H
   refine bP (ae n71) (bo (v:=ae n71) (congrArg (Value.int .i64) e1.symm)) (h:=ah ?_)
   exact aa ⟨Y,Nat.lt_succ_self _,_,_,D,E,H,dZ [0,1,2,3,4,5,6]⟩
  refine aB rfl a9 (cf (aX (aX (cg ?_))))
  have h:=aN H;subst h
  exact aa ⟨D,E,dZ [6,0,1,2,3,4,5]⟩
 rintro e ds As ⟨R,S,d3⟩
 clear H
 have H:=a3
 clear a3
 refine aa (SA.of_St d3 fun junk=>aR (ad ar (h:=ad aA (h:=o' (cF 1 [.slice R Z.length S] (h:=(cP (bp (cm 1) (h:=o' (bi F 0 6 (al (aJ.mk b.1.f0 b.1.f1 b.1.f2 b.1.f3 b.1.f4 b.1.f5 b.1.f6 Z b.1.f8 b.1.f9 b.1.f10 b.1.f11 b.1.f12 b.1.f13 b.1.f14 b.1.f15 b.1.f16 b.1.f17) d p R S l q o s) (h:=S' aW ?_)))))))))))
 refine cC ?_
 have h:=aN H;subst h
 exact du [.cell 4 34,.tmp 5] [2,0,4,5] ⟨d,p,R,S,l,q,o,s,rfl,rfl⟩ ⟨cV 6,cW,trivial⟩


theorem Em.ok {a0 : aJ} {a1 : Int} {r : aJ × Int} (H : pY.f k a0 a1 = some r) : dk Tryz.prog 52 #[.agg (al a0 af ag ay az au av aw ax).toArray,ae a1] (cH a0 af ag ay az au av aw ax) (fun v B=>∃ aS aT bv bx bq br bw bz,v = .tuple #[.agg (al r.1 aS aT bv bx bq br bw bz).toArray,ae r.2]∧B = (bn r.1 aS aT bv bx bq br bw bz)):=by
 refine aj Tryz.func52 rfl rfl ?_
 unfold pY.f at H
 refine aR (o' (bO (h:=fun u=>o' (cw (h:=fun y=>ad aW (h:=cP (l' (cm 4) ?_)))))))
 obtain⟨a,I,H⟩:=ac H
 refine o' (ed [0,1,2,3] [0,1,2,3,4,5] (rK.ok I) fun z D j p m q o s=>?_)
 refine ad ar (h:=ad cr (h:=ad cr (h:=o' (bi u 0 8 (al a.1 z D j p m q o s) (h:=ad aW (h:=eD (ad ar (h:=ad (bX rfl) (h:=bA ?_)))))))))
 rcases bE H with⟨E,H⟩|⟨E,H⟩
 ·refine aD rfl E (aR (bp (cm 8) (h:=o' (bi y 0 9 (al a.1 z D j p m q o s) (h:=ad aW (h:=cD ?_))))))
  have h:=aN H;subst h
  exact du [.cell 4 34,.tmp 5] [0,1,2,3] ⟨z,D,j,p,m,q,o,s,rfl,rfl⟩ ⟨cV 9,cW,trivial⟩
 refine aE rfl E (ap (aa (ao (bM 0 fun K=>bM 1 fun L=>bM 2 fun M=>bM 3 fun N=>?_))))
 refine fj (0::1::2::3::4::5::6::7::8::9::10::11::12::13::14::16::17::19::[]) (dt 4 5) [0,1,2,3,4,5,6,7,9] fun _ _ _ _ _ sH dd pk=>?_
 refine bc 0 rfl sH aA (h:=bQ 1 rfl sH (cz u 0 4 [ae a.1.f0.f0,ae a.1.f0.f1,.slice z a.1.f0.f2.length D]) (h:=bc 2 rfl sH aA (h:=bQ 3 rfl sH (aP 4) (h:=bc 4 rfl sH aA (h:=bQ 5 rfl sH (aP 4) (h:=bc 6 rfl sH aA (h:=bQ 7 rfl sH (aP 4) (h:=bc 8 rfl sH ar (h:=t' (ae (fk 0 a1)) 9 rfl sH (nJ rfl rfl) ?_)))))))))
 refine bc 10 rfl sH aA (h:=bQ 11 rfl sH (aP 4) (h:=bc 12 rfl sH aA (h:=bc 13 rfl sH aA (h:=bQ 14 rfl sH (aP 4) (h:=bc 16 rfl sH aA (h:=r' 17 rfl sH (cz u 6 4 (bF a.1.f4)) ?_))))))
 obtain⟨O,J,H⟩:=ac H
 refine dU 15 rfl dd (dc [] [0,1,2,3,4,5,6,7,8] (kz.ok J) ?_)
 obtain⟨b,F,H⟩:=ac H
 refine dU 18 rfl dd (gy [0] [1,2,3,4,5,6,7,8] (fy.ok F) fun c d=>?_)
 refine T' 19 rfl sH ar ?_
 refine iE (rs:=[20,21]) dd (by kernel_rfl) (by decide) (bG ⟨_,rfl,(.no rfl),?_⟩ (bG ⟨_,rfl,(.no rfl),?_⟩ df))
 ·refine id (dr (v:=.agg #[ae b.1.f0,ae b.1.f1,.slice c b.1.f2.length d]) rfl cr ?_)
  refine iE (rs:=[21,22]) dd (by kernel_rfl) (by decide) (bG ⟨_,rfl,(.no rfl),?_⟩ (bG ⟨_,rfl,(.no rfl),?_⟩ df))
  ·refine id (dr (v:=ae b.2) rfl cr (dU 22 rfl dd (dr (v:=aH u) rfl (kv u 0 0) (aV dd sH (eC 23 rfl (cF 4 [ae b.1.f0,ae b.1.f1,.slice c b.1.f2.length d] (h:=(aI (by kernel_rfl) (aa (SA.of_St (l:=[(2,aH u),(4,aH y)]) (B:=[aK u 34 (al (aJ.mk b.1 a.1.f1 a.1.f2 a.1.f3 a.1.f4 a.1.f5 a.1.f6 a.1.f7 a.1.f8 a.1.f9 a.1.f10 a.1.f11 a.1.f12 a.1.f13 a.1.f14 a.1.f15 a.1.f16 a.1.f17) c d j p m q o s),Buf bD 55 c d b.1.f2,gf 3 j p a.1.f7,Buf bD 55 m q a.1.f16.f2,kU 21 o s a.1.f17,aK y 34 (al cy none 0 none 0 none 0 none 0)]) (St.mk1 (cB rfl (cB rfl dS)) (Gh.sel [4,5,7,8,9,14] (by kernel_rfl) (by kernel_rfl))) fun junk=>aR (ad aA (h:=o' (cF 0 [.bool false] (h:=?_))))))))))))))
   refine cP (bp (cm 0) (h:=o' (bi y 0 5 (al (aJ.mk b.1 a.1.f1 a.1.f2 false a.1.f4 a.1.f5 a.1.f6 a.1.f7 a.1.f8 a.1.f9 a.1.f10 a.1.f11 a.1.f12 a.1.f13 a.1.f14 a.1.f15 a.1.f16 a.1.f17) c d j p m q o s) (h:=ad aW (h:=cC ?_)))))
   have h:=aN H;subst h
   exact du [.cell 4 34,.tmp 5] [1,2,3,4] ⟨c,d,j,p,m,q,o,s,rfl,rfl⟩ ⟨cV 5,cW,trivial⟩
  refine id (dr (v:=aH u) rfl (kv u 0 0) (aV dd sH ?_))
  refine eI (rs:=[21,23]) (by kernel_rfl) (by decide) (bG ⟨rfl,_,rfl,(.no rfl),?_⟩ (bG ⟨rfl,_,rfl,(.no rfl),?_⟩ df))
  ·refine id (dr (v:=ae b.2) rfl cr (eC 23 rfl (cF 4 [ae b.1.f0,ae b.1.f1,.slice c b.1.f2.length d] (h:=(aI (by kernel_rfl) (aa (SA.of_St (l:=[(2,aH u),(4,aH y)]) (B:=[aK u 34 (al (aJ.mk b.1 a.1.f1 a.1.f2 a.1.f3 a.1.f4 a.1.f5 a.1.f6 a.1.f7 a.1.f8 a.1.f9 a.1.f10 a.1.f11 a.1.f12 a.1.f13 a.1.f14 a.1.f15 a.1.f16 a.1.f17) c d j p m q o s),Buf bD 55 c d b.1.f2,gf 3 j p a.1.f7,Buf bD 55 m q a.1.f16.f2,kU 21 o s a.1.f17,aK y 34 (al cy none 0 none 0 none 0 none 0)]) (St.mk1 (cB rfl (cB rfl dS)) (Gh.sel [4,5,7,8,9,14] (by kernel_rfl) (by kernel_rfl))) fun junk=>aR (ad aA (h:=o' (cF 0 [.bool false] (h:=(cP (l' (cm 0) ?_)))))))))))))
   refine o' (bi y 0 5 (al (aJ.mk b.1 a.1.f1 a.1.f2 false a.1.f4 a.1.f5 a.1.f6 a.1.f7 a.1.f8 a.1.f9 a.1.f10 a.1.f11 a.1.f12 a.1.f13 a.1.f14 a.1.f15 a.1.f16 a.1.f17) c d j p m q o s) (h:=ad aW (h:=cC ?_)))
   have h:=aN H;subst h
   exact du [.cell 4 34,.tmp 5] [1,2,3,4] ⟨c,d,j,p,m,q,o,s,rfl,rfl⟩ ⟨cV 5,cW,trivial⟩
  refine id (cF 4 [ae b.1.f0,ae b.1.f1,.slice c b.1.f2.length d] (h:=(eC 21 rfl (dr (v:=ae b.2) rfl cr (aI (by kernel_rfl) (aa (SA.of_St (l:=[(2,aH u),(4,aH y)]) (B:=[aK u 34 (al (aJ.mk b.1 a.1.f1 a.1.f2 a.1.f3 a.1.f4 a.1.f5 a.1.f6 a.1.f7 a.1.f8 a.1.f9 a.1.f10 a.1.f11 a.1.f12 a.1.f13 a.1.f14 a.1.f15 a.1.f16 a.1.f17) c d j p m q o s),Buf bD 55 c d b.1.f2,gf 3 j p a.1.f7,Buf bD 55 m q a.1.f16.f2,kU 21 o s a.1.f17,aK y 34 (al cy none 0 none 0 none 0 none 0)]) (St.mk1 (cB rfl (cB rfl dS)) (Gh.sel [4,5,7,8,9,14] (by kernel_rfl) (by kernel_rfl))) fun junk=>aR (ad aA (h:=o' (cF 0 [.bool false] (h:=(cP (l' (cm 0) ?_)))))))))))))
  refine o' (bi y 0 5 (al (aJ.mk b.1 a.1.f1 a.1.f2 false a.1.f4 a.1.f5 a.1.f6 a.1.f7 a.1.f8 a.1.f9 a.1.f10 a.1.f11 a.1.f12 a.1.f13 a.1.f14 a.1.f15 a.1.f16 a.1.f17) c d j p m q o s) (h:=ad aW (h:=cC ?_)))
  have h:=aN H;subst h
  exact du [.cell 4 34,.tmp 5] [1,2,3,4] ⟨c,d,j,p,m,q,o,s,rfl,rfl⟩ ⟨cV 5,cW,trivial⟩
 refine id (dr (v:=ae b.2) rfl cr (dU 20 rfl dd (dr (v:=.agg #[ae b.1.f0,ae b.1.f1,.slice c b.1.f2.length d]) rfl cr (dU 22 rfl dd (dr (v:=aH u) rfl (kv u 0 0) (aV dd sH (eC 23 rfl (cF 4 [ae b.1.f0,ae b.1.f1,.slice c b.1.f2.length d] (h:=(aI (by kernel_rfl) (aa (SA.of_St (l:=[(2,aH u),(4,aH y)]) (B:=[aK u 34 (al (aJ.mk b.1 a.1.f1 a.1.f2 a.1.f3 a.1.f4 a.1.f5 a.1.f6 a.1.f7 a.1.f8 a.1.f9 a.1.f10 a.1.f11 a.1.f12 a.1.f13 a.1.f14 a.1.f15 a.1.f16 a.1.f17) c d j p m q o s),Buf bD 55 c d b.1.f2,gf 3 j p a.1.f7,Buf bD 55 m q a.1.f16.f2,kU 21 o s a.1.f17,aK y 34 (al cy none 0 none 0 none 0 none 0)]) (St.mk1 (cB rfl (cB rfl dS)) (Gh.sel [4,5,7,8,9,14] (by kernel_rfl) (by kernel_rfl))) fun junk=>aR (S' aA ?_)))))))))))))
 refine o' (cF 0 [.bool false] (h:=(cP (bp (cm 0) (h:=o' (bi y 0 5 (al (aJ.mk b.1 a.1.f1 a.1.f2 false a.1.f4 a.1.f5 a.1.f6 a.1.f7 a.1.f8 a.1.f9 a.1.f10 a.1.f11 a.1.f12 a.1.f13 a.1.f14 a.1.f15 a.1.f16 a.1.f17) c d j p m q o s) (h:=ad aW (h:=cC ?_))))))))
 have h:=aN H;subst h
 exact du [.cell 4 34,.tmp 5] [1,2,3,4] ⟨c,d,j,p,m,q,o,s,rfl,rfl⟩ ⟨cV 5,cW,trivial⟩


theorem En.ok {a0 : aJ} {a1 : Int} {a2 : Int} {r : aJ × Int} (H : pZ.f k a0 a1 a2 = some r) : dk Tryz.prog 53 #[.agg (al a0 af ag ay az au av aw ax).toArray,ae a1,ae a2] (cH a0 af ag ay az au av aw ax) (fun v B=>∃ aS aT bv bx bq br bw bz,v = .tuple #[.agg (al r.1 aS aT bv bx bq br bw bz).toArray,ae r.2]∧B = (bn r.1 aS aT bv bx bq br bw bz)):=by
 refine aj Tryz.func53 rfl rfl ?_
 unfold pZ.f at H
 refine aR (o' (bO (h:=fun L=>o' (cw (h:=fun M=>ad aW (h:=cP (l' (cm 4) ?_)))))))
 obtain⟨c,b4,H⟩:=ac H
 refine o' (ed [0,1,2,3] [0,1,2,3,4,5] (rK.ok b4) fun J K d u j y m z=>?_)
 refine ad ar (h:=ad cr (h:=ad cr (h:=o' (bi L 0 8 (al c.1 J K d u j y m z) (h:=ad aW (h:=eD (ad ar (h:=ad (bX rfl) (h:=bA ?_)))))))))
 rcases bE H with⟨a3,H⟩|⟨a3,H⟩
 ·refine aD rfl a3 (aR (bp (cm 8) (h:=o' (bi M 0 9 (al c.1 J K d u j y m z) (h:=ad aW (h:=cD ?_))))))
  have h:=aN H;subst h
  exact du [.cell 6 34,.tmp 7] [0,1,2,3] ⟨J,K,d,u,j,y,m,z,rfl,rfl⟩ ⟨cV 9,cW,trivial⟩
 refine aE rfl a3 (ap (aa (ao (bM 0 fun b6=>bM 1 fun b8=>bM 2 fun b9=>bM 3 fun c5=>ak (ad aA (h:=bp (cz L 0 8 [ae c.1.f0.f0,ae c.1.f0.f1,.slice J c.1.f0.f2.length K]) (h:=S' ar ?_)))))))
 refine ad ar (h:=ad aA (h:=l' (cz L 6 8 (bF c.1.f4)) ?_))
 obtain⟨b,b3,H⟩:=ac H
 refine o' (gy [0] [1,2,3,4,5,6,7,8,9] (fQ.ok b3) fun o D=>?_)
 refine ad ar (h:=ad cr (h:=ad cr (h:=o' (cw (h:=fun S=>o' (bi S 0 11 [ae b.1.f0,ae b.1.f1,.slice o b.1.f2.length D] (h:=ad aW (h:=bA (SA.of_St (l:=[(1,ae a1),(2,ae a2),(3,aH L),(6,aH M),(9,aH S),(10,ae b.2)]) (B:=(aK L 34 (al c.1 J K d u j y m z)::(bn c.1 J K d u j y m z++[aK M 34 (al cy none 0 none 0 none 0 none 0),aK S 26 [ae b.1.f0,ae b.1.f1,.slice o b.1.f2.length D],Buf bD 55 o D b.1.f2]))) (St.mk1 (cB rfl (cB rfl (cB rfl (cB rfl (cB rfl (cB rfl dS)))))) (Gh.sel [9,1,2,3,4,10,11,0] (by kernel_rfl) (by kernel_rfl))) fun junk=>ao (aR (S' ar ?_)))))))))))
 refine ad (dK rfl rfl) (h:=bA ?_)
 rcases bE H with⟨a4,H⟩|⟨a4,H⟩
 ·refine aC rfl a4 (aR (bP (.agg (al cy none 0 none 0 none 0 none 0).toArray) dP (h:=ad ar (h:=o' (bi M 0 5 (al cy none 0 none 0 none 0 none 0) (h:=ad aW (h:=cD ?_)))))))
  have h:=aN H;subst h
  exact ma [.cell 6 34,.tmp 7] ((Gh.nilBuf bD 55).trans ((Gh.nilBuf (Kd.int .i64) 3).trans ((Gh.nilBuf bD 55).trans ((Gh.nilBuf (Kd.int .i32) 21).trans (eZ [8,9,10,11]))))) ⟨none,0,none,0,none,0,none,0,rfl,rfl⟩ ⟨cV 5,cW,trivial⟩
 refine aB rfl a4 (ap (aa (aR (bp (cz S 0 6 [ae b.1.f0,ae b.1.f1,.slice o b.1.f2.length D]) (h:=ad aA (h:=o' (cF 0 [ae b.1.f0,ae b.1.f1,.slice o b.1.f2.length D] (h:=(eD (ad aA (h:=bp (aP 0) (h:=bA ?_))))))))))))
 obtain⟨a,H,Y⟩:=ac H
 refine bI (fun e ds As=>∃ (O : Nat),∃ (p : Option Addr) (E : Nat),∃ (N : Option Addr) (R : Nat),∃ (q : Option Addr) (F : Nat),∃ (s : Option Addr) (I : Nat),St [(1,ae a1),(2,ae a2),(3,aH O),(6,aH M)] (aK O 34 (al a p E N R q F s I)::(bn a p E N R q F s I++[aK M 34 (al cy none 0 none 0 none 0 none 0)])) e ds As) ?_ ?_
 ·rcases bE H with⟨a5,H⟩|⟨a5,H⟩
  ·refine aD rfl a5 (bM 7 fun c6=>ak (ad aA (h:=bp (cz L 40 0 [ae c.1.f16.f0,ae c.1.f16.f1,.slice j c.1.f16.f2.length y]) (h:=ad ar (h:=ad ar (h:=ad aA (h:=l' (cz L 6 0 (bF c.1.f4)) ?_)))))))
   obtain⟨a6,b1,H⟩:=ac H
   refine o' (gy [3] [0,1,2,4,5,6,7] (fQ.ok b1) fun a8 a9=>?_)
   refine ad ar (h:=ad cr (h:=ad cr (h:=ad aA (h:=o' (cF 2 [ae a6.1.f0,ae a6.1.f1,.slice a8 a6.1.f2.length a9] (h:=(ah ?_)))))))
   have h:=aN H;subst h
   exact aa ⟨L,o,D,d,u,a8,a9,m,z,dZ [2,8,4,0,5,6]⟩
  refine aE rfl a5 (ap ?_)
  have h:=aN H;subst h
  exact aa ⟨L,o,D,d,u,j,y,m,z,dZ [0,7,2,3,4,5]⟩
 rintro e ds As ⟨O,p,E,N,R,q,F,s,I,a7⟩
 clear H
 have H:=Y
 clear Y
 refine aa (SA.of_St a7 fun junk=>aR (ad aA (h:=bp (aP 0) (h:=ad ar (h:=ad (cT rfl rfl) (h:=bP (ae (da a.f1 (i64.wrap (a2 - 1)))) (jK rfl rfl) (h:=ad aA (h:=l' (aP 0) ?_))))))))
 refine ad ar (h:=ad (cT rfl rfl) (h:=bP (ae (da a.f2 (i64.wrap (a1 - 1)))) (jK rfl rfl) (h:=ad aA (h:=o' (cF 0 [ae (da a.f1 (i64.wrap (a2 - 1)))] (h:=(ad aA (h:=o' (cF 0 [ae (da a.f2 (i64.wrap (a1 - 1)))] (h:=(ad aA (h:=o' (cF 0 [.bool false] (h:=(cP ?_)))))))))))))))
 refine ad aA (h:=ad aA (h:=bp (aP 0) (h:=ad ar (h:=ad (cT rfl rfl) (h:=bP (ae (da a.f14.f0 (i64.wrap (a2 - 1)))) (jK rfl rfl) (h:=ad aA (h:=ad aA (h:=bp (aP 0) (h:=S' ar ?_)))))))))
 refine ad (cT rfl rfl) (h:=bP (ae (da a.f14.f1 (i64.wrap (a1 - 1)))) (jK rfl rfl) (h:=ad aA (h:=ad aA (h:=o' (cF 0 [ae (da a.f14.f0 (i64.wrap (a2 - 1)))] (h:=(ad aA (h:=ad aA (h:=o' (cF 0 [ae (da a.f14.f1 (i64.wrap (a1 - 1)))] (h:=(ad aA (h:=S' aA ?_)))))))))))))
 refine o' (cF 0 [.bool false] (h:=(bA (SA.of_St (l:=[(1,ae a1),(2,ae a2),(3,aH O),(6,aH M)]) (B:=(aK O 34 (al ({ a with f1:=(da a.f1 (i64.wrap (a2 - 1))),f2:=(da a.f2 (i64.wrap (a1 - 1))),f3:=false,f14:=(dz.mk (da a.f14.f0 (i64.wrap (a2 - 1))) (da a.f14.f1 (i64.wrap (a1 - 1))) false a.f14.f3 a.f14.f4) }) p E N R q F s I)::(bn a p E N R q F s I++[aK M 34 (al cy none 0 none 0 none 0 none 0)]))) (St.mk1 (cB rfl (cB rfl (cB rfl (cB rfl dS)))) (Gh.sel [0,1,2,3,4,5] (by kernel_rfl) (by kernel_rfl))) fun junk=>aR (ad ar (h:=ad (cT rfl rfl) (h:=S' ar ?_)))))))
 obtain⟨b0,b2,H⟩:=ac H
 refine o' (gy [] [0,1,2,3,4,5] (qE.ok b2) fun U Z=>?_)
 refine ad aA (h:=o' (cF 1 [ae 0] (h:=(ad aA (h:=o' (cF 1 [ae (i64.wrap (a2 - 1))] (h:=(ad aA (h:=o' (cF 1 [.slice U b0.length Z] (h:=(cP (bp (cm 1) (h:=o' (bi M 0 6 (al ({ a with f1:=(da a.f1 (i64.wrap (a2 - 1))),f2:=(da a.f2 (i64.wrap (a1 - 1))),f3:=false,f5:=0,f6:=(i64.wrap (a2 - 1)),f7:=b0,f14:=(dz.mk (da a.f14.f0 (i64.wrap (a2 - 1))) (da a.f14.f1 (i64.wrap (a1 - 1))) false a.f14.f3 a.f14.f4) }) p E U Z q F s I) (h:=S' aW ?_))))))))))))))))
 refine cC ?_
 have h:=aN H;subst h
 exact du [.cell 6 34,.tmp 7] [2,0,4,5] ⟨p,E,U,Z,q,F,s,I,rfl,rfl⟩ ⟨cV 6,cW,trivial⟩

end Go.Proofs.YtckilbegmbaeeaaGreat.Z6

/- Walks. -/
import Derived.Test.YtckilbegmbaeeaaGreatZ711
namespace Go.Proofs.YtckilbegmbaeeaaGreat.Z7
open Go Go.RowKit Go.Proofs.YtckilbegmbaeeaaGreat.SL
set_option linter.unusedVariables false
set_option maxHeartbeats 20000000
set_option maxRecDepth 100000
set_option linter.unusedSimpArgs false
attribute [local irreducible] IntKind.wrap dm fE iD md lW rn lM fG ma rd sub bytesOf jD dv
variable {ag az av ax cF di dc dj k : Nat}
variable {af ay au aw cE df db dh : Option Addr}
def wt.f (k : Nat) (a0 : aJ) (a1 : aJ) : Option (Bool):=(mm.f k a0.f0 a1.f0).bind (fun z=>(if (!z) = true then (some true) else ((mm.f k a0.f16 a1.f16).bind (fun B=>some (!B))) : Option Bool).bind (fun a=>(if a = true then (some true) else ((qF.f k a0.f7 a1.f7).bind (fun gf=>some (!gf))) : Option Bool).bind (fun b=>(if b = true then (some true) else ((qG.f k a0.f17 a1.f17).bind (fun D=>some (!D))) : Option Bool).bind (fun c=>if c = true then (some (false)) else (lt ((decide (a0.f1 ≠ a1.f1)) || (decide (a0.f2 ≠ a1.f2))) fun d=>lt (d || (decide (a0.f3 ≠ a1.f3))) fun h=>lt (h || (decide (a0.f4 ≠ a1.f4))) fun j=>lt (j || (decide (a0.f5 ≠ a1.f5))) fun l=>lt (l || (decide (a0.f6 ≠ a1.f6))) fun m=>lt (m || (decide (a0.f14 ≠ a1.f14))) fun o=>lt (o || (decide (a0.f15 ≠ a1.f15))) fun p=>if p = true then (some (false)) else (lt ((decide (a0.f8 = a1.f8)) && (decide (a0.f9 = a1.f9))) fun q=>lt (q && (decide (a0.f10 = a1.f10))) fun r=>lt (r && (decide (a0.f11 = a1.f11))) fun s=>lt (s && (decide (a0.f12 = a1.f12))) fun u=>lt (u && (decide (a0.f13 = a1.f13))) fun y=>some (y)))))))
theorem wt.ok {a0 : aJ} {a1 : aJ} {r : Bool} (H : wt.f k a0 a1 = some r) : dp Tryz.prog 20 #[.agg (am a0 af ag ay az au av aw ax).toArray,.agg (am a1 cE cF df di db dc dh dj).toArray] (co a0 af ag ay az au av aw ax++co a1 cE cF df di db dc dh dj) (fun v B=>v = .bool r∧B = []):=by
 refine aj Tryz.func20 rfl rfl ?_
 unfold wt.f at H
 refine aP (o' (bO (h:=fun b=>o' (bO (h:=fun a=>ad aW (h:=eA (ad aA (h:=bq (cx b 0 8 [ae a0.f0.f0,ae a0.f0.f1,.slice af a0.f0.f2.length ag]) (h:=ad aA (h:=l' (cx a 0 9 [ae a1.f0.f0,ae a1.f0.f1,.slice cE a1.f0.f2.length cF]) ?_))))))))))
 obtain⟨d6,d0,H⟩:=ac H
 refine o' (da [0,4] [0,1,2,3,4,5,6,7,8,9] (zZ.ok d0) ?_)
 refine ad (bU rfl) (h:=S' ar ?_)
 obtain⟨d1,H,c5⟩:=ac H
 refine dy 7 [(2,aI b),(3,aI a),(18,.bool d1)] (aL b 34 (am a0 af ag ay az au av aw ax)::(co a0 af ag ay az au av aw ax++(eD a a1 cE cF df di db dc dh dj))) ?_ fun junk=>?_
 ·rcases bD H with⟨c,H⟩|⟨c,H⟩
  ·refine ct 6 c (gJ c ?_)
   have h:=aN H;subst h
   exact dQ [8,0,1,2,3,9,4,5,6,7]
  refine aZ (aK c) aA (h:=cn (aK c) (cx b 40 8 [ae a0.f16.f0,ae a0.f16.f1,.slice au a0.f16.f2.length av]) (h:=aZ (aK c) aA (h:=z' (aK c) (cx a 40 9 [ae a1.f16.f0,ae a1.f16.f1,.slice db a1.f16.f2.length dc]) ?_)))
  obtain⟨d7,c7,H⟩:=ac H
  refine fR (aK c) (da [2,6] [0,1,2,3,4,5,6,7,8,9] (zZ.ok c7) ?_)
  refine aZ (aK c) (bU rfl) (h:=fZ (aK c) ?_)
  have h:=aN H;subst h
  exact dQ [8,0,1,2,3,9,4,5,6,7]
 replace H:=c5
 refine S' ar ?_
 obtain⟨d2,H,c6⟩:=ac H
 refine dy 7 [(2,aI b),(3,aI a),(26,.bool d2)] (aL b 34 (am a0 af ag ay az au av aw ax)::(co a0 af ag ay az au av aw ax++(eD a a1 cE cF df di db dc dh dj))) ?_ fun junk=>?_
 ·rcases bD H with⟨d,H⟩|⟨d,H⟩
  ·refine ct 6 d (gJ d ?_)
   have h:=aN H;subst h
   exact dQ [0,1,2,3,4,5,6,7,8,9]
  refine aZ (aK d) aA (h:=cn (aK d) (aO 0) (h:=aZ (aK d) aA (h:=z' (aK d) (aO 5) ?_)))
  obtain⟨gf,c8,H⟩:=ac H
  refine fR (aK d) (da [2,7] [0,1,2,3,4,5,6,7,8,9] (qF.ok (A0:=ay) (c0:=az) (A1:=df) (c1:=di) c8) ?_)
  refine aZ (aK d) (bU rfl) (h:=fZ (aK d) ?_)
  have h:=aN H;subst h
  exact dQ [0,1,2,3,4,5,6,7,8,9]
 replace H:=c6
 refine S' ar ?_
 obtain⟨d3,H,K⟩:=ac H
 refine cI 7 (St [(2,aI b),(3,aI a),(34,.bool d3)] (aL b 34 (am a0 af ag ay az au av aw ax)::(co a0 af ag ay az au av aw ax++(eD a a1 cE cF df di db dc dh dj)))) ?_ ?_
 ·rcases bD H with⟨j,H⟩|⟨j,H⟩
  ·refine ct 6 j (gJ j ?_)
   have h:=aN H;subst h
   exact dQ [0,1,2,3,4,5,6,7,8,9]
  refine aZ (aK j) aA (h:=cn (aK j) (aO 0) (h:=aZ (aK j) aA (h:=z' (aK j) (aO 5) ?_)))
  obtain⟨d8,c9,H⟩:=ac H
  refine fR (aK j) (da [4,9] [0,1,2,3,4,5,6,7,8,9] (qG.ok (A0:=aw) (c0:=ax) (A1:=dh) (c1:=dj) c9) ?_)
  refine aZ (aK j) (bU rfl) (h:=fZ (aK j) ?_)
  have h:=aN H;subst h
  exact dQ [0,1,2,3,4,5,6,7,8,9]
 rintro e ds As a7
 clear H
 have H:=K
 clear K
 refine bA (SA.of_St a7 fun junk=>?_)
 rcases bD H with⟨L,H⟩|⟨L,H⟩
 ·refine aD rfl L (aP (ad aW (h:=cA ?_)))
  have h:=aN H;subst h
  exact dJ [] ⟨rfl,rfl⟩
 refine aE rfl L (ao (aa (ap (aP (ad aA (h:=bq (aO 0) (h:=ad aA (h:=bq (aO 5) (h:=ad (dt rfl rfl) (h:=S' ar ?_))))))))))
 obtain⟨a9,N,H⟩:=bi H
 refine dy 6 [(2,aI b),(3,aI a),(46,.bool a9)] (aL b 34 (am a0 af ag ay az au av aw ax)::(co a0 af ag ay az au av aw ax++(eD a a1 cE cF df di db dc dh dj))) ?_ fun junk=>?_
 ·by_cases l : a0.f1 ≠ a1.f1
  ·refine ct 5 (ai l) (bY (ai l) (h:=ah ?_))
   have x_:=ik N ((ai l));exact bH [0,1,2,3,4,5,6,7,8,9]
  refine aZ (al l) aA (h:=cn (al l) (aO 0) (h:=aZ (al l) aA (h:=cn (al l) (aO 5) (h:=aZ (al l) (dt rfl rfl) (h:=ca (al l) (h:=ah ?_))))))
  have x_:=ij N ((al l));exact bH [0,1,2,3,4,5,6,7,8,9]
 refine S' ar ?_
 obtain⟨b0,O,H⟩:=bi H
 refine dy 6 [(2,aI b),(3,aI a),(53,.bool b0)] (aL b 34 (am a0 af ag ay az au av aw ax)::(co a0 af ag ay az au av aw ax++(eD a a1 cE cF df di db dc dh dj))) ?_ fun junk=>?_
 ·by_cases m : a9 = true
  ·refine ct 5 m (bY m (h:=ah ?_))
   have x_:=ik O m;exact bH [0,1,2,3,4,5,6,7,8,9]
  refine aZ (aK m) aA (h:=cn (aK m) (aO 0) (h:=aZ (aK m) aA (h:=cn (aK m) (aO 5) (h:=gS (aK m) (.bool (decide (a0.f3 ≠ a1.f3))) (mR Tryz.underlying4 rfl rfl) (h:=ca (aK m) (h:=ah ?_))))))
  have x_:=ij O ((aK m));exact bH [0,1,2,3,4,5,6,7,8,9]
 refine S' ar ?_
 obtain⟨b1,R,H⟩:=bi H
 refine dy 6 [(2,aI b),(3,aI a),(60,.bool b1)] (aL b 34 (am a0 af ag ay az au av aw ax)::(co a0 af ag ay az au av aw ax++(eD a a1 cE cF df di db dc dh dj))) ?_ fun junk=>?_
 ·by_cases o : b0 = true
  ·refine ct 5 o (bY o (h:=ah ?_))
   have x_:=ik R o;exact bH [0,1,2,3,4,5,6,7,8,9]
  refine aZ (aK o) aA (h:=cn (aK o) (cx b 6 0 (bF a0.f4)) (h:=aZ (aK o) aA (h:=cn (aK o) (cx a 6 5 (bF a1.f4)) (h:=gS (aK o) (.bool (decide (a0.f4 ≠ a1.f4))) (jU (xs:=(bF a0.f4)) (ys:=(bF a1.f4)) (r:=((a0.f4.f0 == a1.f4.f0) && ((a0.f4.f1 == a1.f4.f1) && ((a0.f4.f2 == a1.f4.f2) && ((a0.f4.f3 == a1.f4.f3) && ((a0.f4.f4 == a1.f4.f4) && ((a0.f4.f5 == a1.f4.f5) && ((a0.f4.f6 == a1.f4.f6) && ((a0.f4.f7 == a1.f4.f7) && ((a0.f4.f8 == a1.f4.f8) && ((a0.f4.f9 == a1.f4.f9) && true))))))))))) (p:=a0.f4 = a1.f4) lh rfl rfl (by kernel_rfl) (lj (x:=a0.f4) (y:=a1.f4))) (h:=ca (aK o) (h:=ah ?_))))))
  have x_:=ij R ((aK o));exact bH [0,1,2,3,4,5,6,7,8,9]
 refine S' ar ?_
 obtain⟨b2,S,H⟩:=bi H
 refine dy 6 [(2,aI b),(3,aI a),(67,.bool b2)] (aL b 34 (am a0 af ag ay az au av aw ax)::(co a0 af ag ay az au av aw ax++(eD a a1 cE cF df di db dc dh dj))) ?_ fun junk=>?_
 ·by_cases q : b1 = true
  ·refine ct 5 q (bY q (h:=ah ?_))
   have x_:=ik S q;exact bH [0,1,2,3,4,5,6,7,8,9]
  refine aZ (aK q) aA (h:=cn (aK q) (aO 0) (h:=aZ (aK q) aA (h:=cn (aK q) (aO 5) (h:=aZ (aK q) (dt rfl rfl) (h:=ca (aK q) (h:=ah ?_))))))
  have x_:=ij S ((aK q));exact bH [0,1,2,3,4,5,6,7,8,9]
 refine S' ar ?_
 obtain⟨b3,U,H⟩:=bi H
 refine dy 6 [(2,aI b),(3,aI a),(74,.bool b3)] (aL b 34 (am a0 af ag ay az au av aw ax)::(co a0 af ag ay az au av aw ax++(eD a a1 cE cF df di db dc dh dj))) ?_ fun junk=>?_
 ·by_cases s : b2 = true
  ·refine ct 5 s (bY s (h:=ah ?_))
   have x_:=ik U s;exact bH [0,1,2,3,4,5,6,7,8,9]
  refine aZ (aK s) aA (h:=cn (aK s) (aO 0) (h:=aZ (aK s) aA (h:=cn (aK s) (aO 5) (h:=aZ (aK s) (dt rfl rfl) (h:=ca (aK s) (h:=ah ?_))))))
  have x_:=ij U ((aK s));exact bH [0,1,2,3,4,5,6,7,8,9]
 refine S' ar ?_
 obtain⟨b4,Y,H⟩:=bi H
 refine dy 6 [(2,aI b),(3,aI a),(81,.bool b4)] (aL b 34 (am a0 af ag ay az au av aw ax)::(co a0 af ag ay az au av aw ax++(eD a a1 cE cF df di db dc dh dj))) ?_ fun junk=>?_
 ·by_cases u : b3 = true
  ·refine ct 5 u (bY u (h:=ah ?_))
   have x_:=ik Y u;exact bH [0,1,2,3,4,5,6,7,8,9]
  refine aZ (aK u) aA (h:=cn (aK u) (cx b 25 0 (gM a0.f14)) (h:=aZ (aK u) aA (h:=cn (aK u) (cx a 25 5 (gM a1.f14)) (h:=gS (aK u) (.bool (decide (a0.f14 ≠ a1.f14))) (jU (xs:=(gM a0.f14)) (ys:=(gM a1.f14)) (r:=((a0.f14.f0 == a1.f14.f0) && ((a0.f14.f1 == a1.f14.f1) && ((a0.f14.f2 == a1.f14.f2) && ((a0.f14.f3 == a1.f14.f3) && (((a0.f14.f4.f0 == a1.f14.f4.f0) && ((a0.f14.f4.f1 == a1.f14.f4.f1) && ((a0.f14.f4.f2 == a1.f14.f4.f2) && ((a0.f14.f4.f3 == a1.f14.f4.f3) && ((a0.f14.f4.f4 == a1.f14.f4.f4) && ((a0.f14.f4.f5 == a1.f14.f4.f5) && ((a0.f14.f4.f6 == a1.f14.f4.f6) && ((a0.f14.f4.f7 == a1.f14.f4.f7) && ((a0.f14.f4.f8 == a1.f14.f4.f8) && ((a0.f14.f4.f9 == a1.f14.f4.f9) && true)))))))))) && true)))))) (p:=a0.f14 = a1.f14) tB rfl rfl (by kernel_rfl) (tD (x:=a0.f14) (y:=a1.f14))) (h:=ca (aK u) (h:=ah ?_))))))
  have x_:=ij Y ((aK u));exact bH [0,1,2,3,4,5,6,7,8,9]
 refine S' ar ?_
 obtain⟨d4,Z,H⟩:=bi H
 refine cI 6 (St [(2,aI b),(3,aI a),(88,.bool d4)] (aL b 34 (am a0 af ag ay az au av aw ax)::(co a0 af ag ay az au av aw ax++(eD a a1 cE cF df di db dc dh dj)))) ?_ ?_
 ·by_cases z : b4 = true
  ·refine ct 5 z (bY z (h:=ah ?_))
   have x_:=ik Z z;exact bH [0,1,2,3,4,5,6,7,8,9]
  refine aZ (aK z) aA (h:=cn (aK z) (aO 0) (h:=aZ (aK z) aA (h:=cn (aK z) (aO 5) (h:=gS (aK z) (.bool (decide (a0.f15 ≠ a1.f15))) (mR Tryz.underlying4 rfl rfl) (h:=ca (aK z) (h:=ah ?_))))))
  have x_:=ij Z ((aK z));exact bH [0,1,2,3,4,5,6,7,8,9]
 rintro e ds As a8
 refine bA (SA.of_St a8 fun junk=>?_)
 rcases bD H with⟨M,H⟩|⟨M,H⟩
 ·refine aD rfl M (aP (ad aW (h:=cA ?_)))
  have h:=aN H;subst h
  exact dJ [] ⟨rfl,rfl⟩
 refine aE rfl M (ao (aa (aP (ad aA (h:=bq (aO 0) (h:=ad aA (h:=bq (aO 5) (h:=bT (.bool (decide (a0.f8 = a1.f8))) (eV Tryz.underlying4 rfl rfl) (h:=S' ar ?_)))))))))
 obtain⟨b5,a2,H⟩:=bi H
 refine dy 6 [(2,aI b),(3,aI a),(100,.bool b5)] (aL b 34 (am a0 af ag ay az au av aw ax)::(co a0 af ag ay az au av aw ax++(eD a a1 cE cF df di db dc dh dj))) ?_ fun junk=>?_
 ·by_cases D : a0.f8 = a1.f8
  ·refine aZ (ai D) aA (h:=cn (ai D) (aO 0) (h:=aZ (ai D) aA (h:=cn (ai D) (aO 5) (h:=gS (ai D) (.bool (decide (a0.f9 = a1.f9))) (eV Tryz.underlying4 rfl rfl) (h:=bY (ai D) (h:=ah ?_))))))
   have x_:=fq a2 ((ai D));exact bH [0,1,2,3,4,5,6,7,8,9]
  refine ct 5 (al D) (ca (al D) (h:=ah ?_))
  have x_:=fp a2 ((al D));exact bH [0,1,2,3,4,5,6,7,8,9]
 refine S' ar ?_
 obtain⟨b6,a3,H⟩:=bi H
 refine dy 6 [(2,aI b),(3,aI a),(107,.bool b6)] (aL b 34 (am a0 af ag ay az au av aw ax)::(co a0 af ag ay az au av aw ax++(eD a a1 cE cF df di db dc dh dj))) ?_ fun junk=>?_
 ·by_cases E : b5 = true
  ·refine aZ E aA (h:=cn E (aO 0) (h:=aZ E aA (h:=cn E (aO 5) (h:=gS E (.bool (decide (a0.f10 = a1.f10))) (eV Tryz.underlying4 rfl rfl) (h:=bY E (h:=ah ?_))))))
   have x_:=fq a3 E;exact bH [0,1,2,3,4,5,6,7,8,9]
  refine ct 5 (aK E) (ca (aK E) (h:=ah ?_))
  have x_:=fp a3 ((aK E));exact bH [0,1,2,3,4,5,6,7,8,9]
 refine S' ar ?_
 obtain⟨b7,a4,H⟩:=bi H
 refine dy 6 [(2,aI b),(3,aI a),(114,.bool b7)] (aL b 34 (am a0 af ag ay az au av aw ax)::(co a0 af ag ay az au av aw ax++(eD a a1 cE cF df di db dc dh dj))) ?_ fun junk=>?_
 ·by_cases F : b6 = true
  ·refine aZ F aA (h:=cn F (aO 0) (h:=aZ F aA (h:=cn F (aO 5) (h:=gS F (.bool (decide (a0.f11 = a1.f11))) (eV Tryz.underlying4 rfl rfl) (h:=bY F (h:=ah ?_))))))
   have x_:=fq a4 F;exact bH [0,1,2,3,4,5,6,7,8,9]
  refine ct 5 (aK F) (ca (aK F) (h:=ah ?_))
  have x_:=fp a4 ((aK F));exact bH [0,1,2,3,4,5,6,7,8,9]
 refine S' ar ?_
 obtain⟨b8,a5,H⟩:=bi H
 refine dy 6 [(2,aI b),(3,aI a),(121,.bool b8)] (aL b 34 (am a0 af ag ay az au av aw ax)::(co a0 af ag ay az au av aw ax++(eD a a1 cE cF df di db dc dh dj))) ?_ fun junk=>?_
 ·by_cases I : b7 = true
  ·refine aZ I aA (h:=cn I (aO 0) (h:=aZ I aA (h:=cn I (aO 5) (h:=gS I (.bool (decide (a0.f12 = a1.f12))) (eV Tryz.underlying4 rfl rfl) (h:=bY I (h:=ah ?_))))))
   have x_:=fq a5 I;exact bH [0,1,2,3,4,5,6,7,8,9]
  refine ct 5 (aK I) (ca (aK I) (h:=ah ?_))
  have x_:=fp a5 ((aK I));exact bH [0,1,2,3,4,5,6,7,8,9]
 refine S' ar ?_
 obtain⟨d5,a6,H⟩:=bi H
 refine dy 6 [(128,.bool d5)] [] ?_ fun junk=>?_
 ·by_cases J : b8 = true
  ·refine aZ J aA (h:=cn J (aO 0) (h:=aZ J aA (h:=cn J (aO 5) (h:=gS J (.bool (decide (a0.f13 = a1.f13))) (eV Tryz.underlying4 rfl rfl) (h:=bY J (h:=ah ?_))))))
   have x_:=fq a6 J;exact bH []
  refine ct 5 (aK J) (ca (aK J) (h:=ah ?_))
  have x_:=fp a6 ((aK J));exact bH []
 refine ad aW (h:=cD ?_)
 have h:=aN H;subst h
 exact dJ [] ⟨rfl,rfl⟩

end Go.Proofs.YtckilbegmbaeeaaGreat.Z7

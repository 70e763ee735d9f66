/- Walks. -/
import Derived.Test.YtckilbegmbaeeaaGreatZ63
namespace Go.Proofs.YtckilbegmbaeeaaGreat.Z6
open Go Go.RowKit Go.Proofs.YtckilbegmbaeeaaGreat.SL
open Go.IntKind (i64)
set_option linter.unusedVariables false
set_option maxHeartbeats 20000000
set_option maxRecDepth 100000
set_option linter.unusedSimpArgs false
attribute [local irreducible] IntKind.wrap da fk gR kN kD po ky eS kF rd sub bytesOf ib dj
variable {bg bN ag az av ax cR k : Nat}
variable {af ay au aw cQ : Option Addr}
theorem zL.ok {a0 : bH} {r : Bool} (H : fL.f k a0 = some r) : dk Tryz.prog 57 #[.agg #[ae a0.f0,ae a0.f1,.slice af a0.f2.length ag]] [Ro bD af ag a0.f2] (fun v B=>v = .bool r∧B = []):=by
 refine aj Tryz.func57 rfl rfl ?_
 unfold fL.f at H
 refine aR (o' (bO (h:=fun s=>ad aW (h:=eD (ad aA (h:=bp (aP 1) (h:=ad aA (h:=l' (aP 1) ?_))))))))
 obtain⟨r4,b1,H⟩:=ac H
 refine o' (dc [] [0,1] (qF.ok b1) ?_)
 refine ad (bX rfl) (h:=S' ar ?_)
 obtain⟨q5,a6,H⟩:=bj H
 refine cK 10 (St [(1,aH s),(23,.bool q5)] [aK s 26 [ae a0.f0,ae a0.f1,.slice af a0.f2.length ag],Ro bD af ag a0.f2]) ?_ ?_
 ·by_cases z : (!r4) = true
  ·refine cu 9 z (cd z (h:=ah ?_))
   have x_:=ji a6 z;exact bK [1,0]
  refine bf (aM z) aA (h:=cE (aM z) (aP 1) (h:=iI (aM z) (ae (a0.f2.length : Int)) (cO Tryz.underlying24 rfl) (h:=bf (aM z) aA (h:=cE (aM z) (aP 1) (h:=bf (aM z) aA (h:=cE (aM z) (aP 1) (h:=bf (aM z) (jt rfl rfl) (h:=bf (aM z) (dK rfl rfl) (h:=fZ (aM z) ?_)))))))))
  refine ah ?_
  have x_:=jh a6 ((aM z));exact bK [1,0]
 rintro e ds As a9
 refine bA (SA.of_St a9 fun junk=>?_)
 rcases bE H with⟨h8,H⟩|⟨h8,H⟩
 ·refine aD rfl h8 (aR (ad aW (h:=cD ?_)))
  have h:=aN H;subst h
  exact dX [] ⟨rfl,rfl⟩
 refine aE rfl h8 (ap (aa (aR (bP (.agg (bV (aY.mk 0 (fX.mk 0 0 0) 1 fU)).toArray) dP (h:=o' (cw (h:=fun b9=>o' (bi b9 0 2 (bV (aY.mk 0 (fX.mk 0 0 0) 1 fU)) (h:=eD (ad aA (h:=bp (aP 0) (h:=bP (ae (a0.f2.length : Int)) (cO Tryz.underlying24 rfl) (h:=S' ar ?_)))))))))))))
 refine bA ?_
 obtain⟨a7,H,D⟩:=ac H
 refine bI (fun e ds As=>∃ (Y : aY),a7 = Out.go Y∧∃ (J : Nat),St [(3,aH J)] [aK J 55 (bV Y)] e ds As) ?_ ?_
 ·refine aQ (cj (fun k_ e ds As=>∃ (b : aY) (a : Int),∃ (c : Nat),fL.l0 a0 k_ b a = some a7∧St [(1,aH s),(3,aH c),(26,.slice af a0.f2.length ag),(27,ae (a0.f2.length : Int)),(28,ae a)] [aK s 26 [ae a0.f0,ae a0.f1,.slice af a0.f2.length ag],Ro bD af ag a0.f2,aK c 55 (bV b)] e ds As) (k:=k) ⟨_,_,b9,H,jV [0,1,2]⟩ ?_)
  clear H
  rintro S e ds As ⟨b,a,c,H,Z⟩
  obtain _ | S:=S
  ·cases H
  rw [fL.l0] at H
  refine SA.of_St Z fun junk=>aR (ad (ce rfl rfl) (h:=bA (ao ?_)))
  rcases bE H with⟨K,H⟩|⟨K,H⟩
  ·refine aC rfl K (ap (aa (ao (aQ (aR (S' ar ?_))))))
   obtain⟨⟨a4,a5⟩,H⟩:=aO H
   refine bp (bu (i:=a) Tryz.underlying24 cl rfl rfl (Src.ro (k:=1) rfl) a4 a5) (h:=bp (ci (enc:=cZ) (i:=a) (j:=a.toNat * 15) (m:=0) (sz:=15) (vs:=(bV (aY.mk ((rd a0.f2 a).f0) ((rd a0.f2 a).f1) ((rd a0.f2 a).f2) ((rd a0.f2 a).f3)))) Tryz.underlying55 rfl cl rfl rfl rfl (Src.ro (k:=1) rfl) a4 a5 (fun _ _ h=>h) rfl) (h:=o' (cw (h:=fun d=>ad aW (h:=o' (bi d 0 3 (bV (aY.mk ((rd a0.f2 a).f0) ((rd a0.f2 a).f1) ((rd a0.f2 a).f2) ((rd a0.f2 a).f3))) (h:=eD (ad ar (h:=ad aA (h:=l' (aP 0) ?_))))))))))
   obtain⟨b3,H⟩:=aO H
   refine bP (ae (a.tmod a0.f0)) (nf rfl rfl b3) (h:=ad (bk rfl rfl) (h:=S' ar ?_))
   obtain⟨b5,N,H⟩:=bj H
   refine cK 4 (St [(1,aH s),(3,aH c),(4,ae a),(5,aH d),(26,.slice af a0.f2.length ag),(27,ae (a0.f2.length : Int)),(28,ae a),(42,.bool b5)] [aK s 26 [ae a0.f0,ae a0.f1,.slice af a0.f2.length ag],Ro bD af ag a0.f2,aK c 55 (bV b),aK d 55 (bV (aY.mk ((rd a0.f2 a).f0) ((rd a0.f2 a).f1) ((rd a0.f2 a).f2) ((rd a0.f2 a).f3)))]) ?_ ?_
   ·by_cases E : (a.tmod a0.f0) = 0
    ·refine bf (ai E) aA (h:=cE (ai E) (aP 2) (h:=bf (ai E) (bk rfl rfl) (h:=cd (ai E) (h:=ah ?_))))
     have x_:=fD N ((ai E));exact bK [0,1,2,3]
    refine cu 3 (am E) (ck (am E) (h:=ah ?_))
    have x_:=fC N ((am E));exact bK [0,1,2,3]
   rintro e ds As a1
   refine bA (SA.of_St a1 fun junk=>?_)
   rcases bE H with⟨L,H⟩|⟨L,H⟩
   ·refine aD rfl L (aR (ad aW (h:=cD (ba (aG (aG (ba (aG (aG ?_)))))))))
    have h:=aN H;subst h
    have hb_:=dw D
    have hr_:=Option.some.inj hb_
    clear hb_
    subst hr_
    exact dX [] ⟨rfl,rfl⟩
   refine aE rfl L (ap (aa (aR (ad aA (h:=bp (aP 3) (h:=ad (bk rfl rfl) (h:=S' ar ?_)))))))
   obtain⟨b6,O,H⟩:=bj H
   refine dy 6 [(1,aH s),(3,aH c),(4,ae a),(5,aH d),(26,.slice af a0.f2.length ag),(27,ae (a0.f2.length : Int)),(28,ae a),(52,.bool b6)] [aK s 26 [ae a0.f0,ae a0.f1,.slice af a0.f2.length ag],Ro bD af ag a0.f2,aK c 55 (bV b),aK d 55 (bV (aY.mk ((rd a0.f2 a).f0) ((rd a0.f2 a).f1) ((rd a0.f2 a).f2) ((rd a0.f2 a).f3)))] ?_ fun junk=>?_
   ·by_cases o : ((rd a0.f2 a).f2) = 0
    ·refine bf (ai o) aA (h:=cE (ai o) (cz d 5 3 (bF ((rd a0.f2 a).f3))) (h:=bf (ai o) aA (h:=cE (ai o) (cz c 5 2 (bF b.f3)) (h:=iI (ai o) (.bool (decide (((rd a0.f2 a).f3) = b.f3))) (kC (xs:=(bF ((rd a0.f2 a).f3))) (ys:=(bF b.f3)) (r:=(((((rd a0.f2 a).f3).f0) == b.f3.f0) && (((((rd a0.f2 a).f3).f1) == b.f3.f1) && (((((rd a0.f2 a).f3).f2) == b.f3.f2) && (((((rd a0.f2 a).f3).f3) == b.f3.f3) && (((((rd a0.f2 a).f3).f4) == b.f3.f4) && (((((rd a0.f2 a).f3).f5) == b.f3.f5) && (((((rd a0.f2 a).f3).f6) == b.f3.f6) && (((((rd a0.f2 a).f3).f7) == b.f3.f7) && (((((rd a0.f2 a).f3).f8) == b.f3.f8) && (((((rd a0.f2 a).f3).f9) == b.f3.f9) && true))))))))))) (p:=((rd a0.f2 a).f3) = b.f3) lR rfl rfl (by kernel_rfl) (lS (x:=((rd a0.f2 a).f3)) (y:=b.f3))) (h:=cd (ai o) (h:=ah ?_))))))
     have x_:=fD O ((ai o));exact bK [0,1,2,3]
    refine cu 5 (am o) (ck (am o) (h:=ah ?_))
    have x_:=fC O ((am o));exact bK [0,1,2,3]
   refine S' ar ?_
   obtain⟨U,H,a8⟩:=ac H
   refine dy 6 [(1,aH s),(3,aH c),(5,aH d),(26,.slice af a0.f2.length ag),(27,ae (a0.f2.length : Int)),(28,ae a),(59,.bool U)] [aK s 26 [ae a0.f0,ae a0.f1,.slice af a0.f2.length ag],Ro bD af ag a0.f2,aK c 55 (bV b),aK d 55 (bV (aY.mk ((rd a0.f2 a).f0) ((rd a0.f2 a).f1) ((rd a0.f2 a).f2) ((rd a0.f2 a).f3)))] ?_ fun junk=>?_
   ·rcases bE H with⟨u,H⟩|⟨u,H⟩
    ·refine bf u ar (h:=bf u aA (h:=z' u (aP 0) ?_))
     obtain⟨b4,H⟩:=aO H
     refine iI u (ae (a.tmod a0.f0)) (nf rfl rfl b4) (h:=bf u (eK rfl rfl) (h:=gN u ?_))
     have h:=aN H;subst h
     exact dL [0,1,2,3]
    refine cu 5 (aM u) (fZ (aM u) ?_)
    have h:=aN H;subst h
    exact dL [0,1,2,3]
   replace H:=a8
   refine ad aW (h:=eD (l' (cm 3) ?_))
   obtain⟨c5,b0,H⟩:=ac H
   refine o' (dc [] [0,1,2,3] (kZ.ok b0) ?_)
   refine ad (bX rfl) (h:=S' ar ?_)
   obtain⟨b7,R,H⟩:=bj H
   refine dy 6 [(1,aH s),(3,aH c),(5,aH d),(6,.bool U),(26,.slice af a0.f2.length ag),(27,ae (a0.f2.length : Int)),(28,ae a),(69,.bool b7)] [aK s 26 [ae a0.f0,ae a0.f1,.slice af a0.f2.length ag],Ro bD af ag a0.f2,aK c 55 (bV b),aK d 55 (bV (aY.mk ((rd a0.f2 a).f0) ((rd a0.f2 a).f1) ((rd a0.f2 a).f2) ((rd a0.f2 a).f3)))] ?_ fun junk=>?_
   ·by_cases q : (!c5) = true
    ·refine cu 5 q (cd q (h:=ah ?_))
     have x_:=ji R q;exact bK [0,1,2,3]
    refine bf (aM q) aA (h:=cE (aM q) (aP 2) (h:=bf (aM q) (bk rfl rfl) (h:=bf (aM q) ar (h:=iI (aM q) (.bool (decide ((decide (b.f2 = 2)) ≠ U))) (oX Tryz.underlying4 rfl rfl) (h:=ck (aM q) (h:=ah ?_))))))
    have x_:=jh R ((aM q));exact bK [0,1,2,3]
   refine S' ar ?_
   obtain⟨b8,H,I⟩:=ac H
   refine cK 8 (St [(1,aH s),(3,aH c),(5,aH d),(26,.slice af a0.f2.length ag),(27,ae (a0.f2.length : Int)),(28,ae a),(78,.bool b8)] [aK s 26 [ae a0.f0,ae a0.f1,.slice af a0.f2.length ag],Ro bD af ag a0.f2,aK c 55 (bV b),aK d 55 (bV (aY.mk ((rd a0.f2 a).f0) ((rd a0.f2 a).f1) ((rd a0.f2 a).f2) ((rd a0.f2 a).f3)))]) ?_ ?_
   ·rcases bE H with⟨l,H⟩|⟨l,H⟩
    ·refine cu 4 l (fY (fY (cu 1 l (gN l ?_))))
     have h:=aN H;subst h
     exact dL [0,1,2,3]
    refine bf (aM l) aA (h:=cE (aM l) (aP 3) (h:=bf (aM l) (bk rfl rfl) (h:=Y' (aM l) ar ?_)))
    rcases bE H with⟨F,H⟩|⟨F,H⟩
    ·refine bf (ai F) ar (h:=bf (ai F) (bX rfl) (h:=fT (aM l) (dr rfl (bS rfl (ai F) rfl) (fZ (aM l) ?_))))
     have h:=aN H;subst h
     exact dL [0,1,2,3]
    refine cu 2 (am F) (fT (aM l) (dr rfl (bR rfl (am F) rfl) (fZ (aM l) ?_)))
    have h:=aN H;subst h
    exact dL [0,1,2,3]
   rintro e ds As a2
   clear H
   have H:=I
   clear I
   refine bA (SA.of_St a2 fun junk=>?_)
   rcases bE H with⟨M,H⟩|⟨M,H⟩
   ·refine aD rfl M (aR (ad aW (h:=cD (ba (aG (aG (ba (aG (aG ?_)))))))))
    have h:=aN H;subst h
    have hb_:=dw D
    have hr_:=Option.some.inj hb_
    clear hb_
    subst hr_
    exact dX [] ⟨rfl,rfl⟩
   refine aE rfl M (ap (aa (ak (bp (cm 3) (h:=o' (bi c 0 2 (bV (aY.mk ((rd a0.f2 a).f0) ((rd a0.f2 a).f1) ((rd a0.f2 a).f2) ((rd a0.f2 a).f3))) (h:=ah (aF (aa (ak (ad (bW rfl rfl) (h:=ad ar (h:=ah ?_)))))))))))))
   exact aa ⟨S,Nat.lt_succ_self _,_,_,c,H,dZ [0,1,2]⟩
  refine aB rfl K (cf (aX (aX (cg ?_))))
  have h:=aN H;subst h
  exact aa ⟨b,rfl,c,dZ [2]⟩
 rintro e ds As ⟨Y,ht,J,a3⟩
 clear H
 subst ht
 replace D:=fw D
 have H:=D
 clear D
 refine aa (SA.of_St a3 fun junk=>aR (ad aA (h:=bp (aP 0) (h:=ad (dK rfl rfl) (h:=ad aW (h:=cC ?_))))))
 have h:=aN H;subst h
 exact dX [] ⟨rfl,rfl⟩


theorem zJ.ok {l0 : (List aY)} {l1 : (List aY)} {A0 : Option Addr} {c0 : Nat} {A1 : Option Addr} {c1 : Nat} {r : Bool} (H : jq.f k l0 l1 = some r) : dk Tryz.prog 114 #[.slice A0 l0.length c0,.slice A1 l1.length c1] [Ro bD A0 c0 l0,Ro bD A1 c1 l1] (fun v B=>v = .bool r∧B = []):=by
 refine aj Tryz.func114 rfl rfl ?_
 unfold jq.f at H
 refine aR (ad aW (h:=eD (ad ar (h:=bP (ae (l0.length : Int)) (cO Tryz.underlying24 rfl) (h:=ad ar (h:=bP (ae (l1.length : Int)) (cO Tryz.underlying24 rfl) (h:=ad (dK rfl rfl) (h:=bA ?_))))))))
 rcases bE H with⟨u,H⟩|⟨u,H⟩
 ·refine aC rfl u (aR (ad aW (h:=cD ?_)))
  have h:=aN H;subst h
  exact dX [] ⟨rfl,rfl⟩
 refine aB rfl u (ap (aa (ao (aR (ad ar (h:=bP (ae (l0.length : Int)) (cO Tryz.underlying24 rfl) (h:=ad ar (h:=bA ?_))))))))
 obtain⟨I,H,b⟩:=ac H
 refine bI (fun e ds As=>∃ (F : Unit),I = Out.go F∧St [] [] e ds As) ?_ ?_
 ·refine aQ (cj (fun k_ e ds As=>∃ (a : Int),jq.l0 l0 l1 k_ a = some I∧St [(0,.slice A0 l0.length c0),(1,.slice A1 l1.length c1),(12,ae (l0.length : Int)),(13,ae a)] [Ro bD A0 c0 l0,Ro bD A1 c1 l1] e ds As) (k:=k) ⟨_,H,jV [0,1]⟩ ?_)
  clear H
  rintro E e ds As ⟨a,H,D⟩
  obtain _ | E:=E
  ·cases H
  rw [jq.l0] at H
  refine SA.of_St D fun junk=>aR (ad (ce rfl rfl) (h:=bA (ao ?_)))
  rcases bE H with⟨z,H⟩|⟨z,H⟩
  ·refine aC rfl z (ap (aa (ao (aQ (aR (ad ar (h:=ad aW (h:=bA (ao ?_)))))))))
   refine fj (dt 0 9) [0,1] [0,1] fun _ _ _ _ _ sH dd pk=>?_
   refine bc 0 rfl sH ar (h:=T' 1 rfl sH ar ?_)
   obtain⟨⟨d,l⟩,H⟩:=aO H
   refine bQ 2 rfl sH (bu (i:=a) Tryz.underlying24 cl rfl rfl (Src.ro (k:=0) rfl) d l) (h:=bQ 3 rfl sH (ci (enc:=cZ) (i:=a) (j:=a.toNat * 15) (m:=0) (sz:=15) (vs:=(bV (aY.mk ((rd l0 a).f0) ((rd l0 a).f1) ((rd l0 a).f2) ((rd l0 a).f3)))) Tryz.underlying55 rfl cl rfl rfl rfl (Src.ro (k:=0) rfl) d l (fun _ _ h=>h) rfl) (h:=bc 4 rfl sH ar (h:=T' 5 rfl sH ar ?_)))
   obtain⟨⟨o,q⟩,H⟩:=aO H
   refine bQ 6 rfl sH (bu (i:=a) Tryz.underlying24 cl rfl rfl (Src.ro (k:=1) rfl) o q) (h:=bQ 7 rfl sH (ci (enc:=cZ) (i:=a) (j:=a.toNat * 15) (m:=0) (sz:=15) (vs:=(bV (aY.mk ((rd l1 a).f0) ((rd l1 a).f1) ((rd l1 a).f2) ((rd l1 a).f3)))) Tryz.underlying55 rfl cl rfl rfl rfl (Src.ro (k:=1) rfl) o q (fun _ _ h=>h) rfl) (h:=kV (.bool (decide ((rd l0 a) ≠ (rd l1 a)))) 8 rfl sH (lg (xs:=(bV (aY.mk ((rd l0 a).f0) ((rd l0 a).f1) ((rd l0 a).f2) ((rd l0 a).f3)))) (ys:=(bV (aY.mk ((rd l1 a).f0) ((rd l1 a).f1) ((rd l1 a).f2) ((rd l1 a).f3)))) (r:=((((rd l0 a).f0) == ((rd l1 a).f0)) && ((((((rd l0 a).f1).f0) == (((rd l1 a).f1).f0)) && (((((rd l0 a).f1).f1) == (((rd l1 a).f1).f1)) && (((((rd l0 a).f1).f2) == (((rd l1 a).f1).f2)) && true))) && ((((rd l0 a).f2) == ((rd l1 a).f2)) && ((((((rd l0 a).f3).f0) == (((rd l1 a).f3).f0)) && (((((rd l0 a).f3).f1) == (((rd l1 a).f3).f1)) && (((((rd l0 a).f3).f2) == (((rd l1 a).f3).f2)) && (((((rd l0 a).f3).f3) == (((rd l1 a).f3).f3)) && (((((rd l0 a).f3).f4) == (((rd l1 a).f3).f4)) && (((((rd l0 a).f3).f5) == (((rd l1 a).f3).f5)) && (((((rd l0 a).f3).f6) == (((rd l1 a).f3).f6)) && (((((rd l0 a).f3).f7) == (((rd l1 a).f3).f7)) && (((((rd l0 a).f3).f8) == (((rd l1 a).f3).f8)) && (((((rd l0 a).f3).f9) == (((rd l1 a).f3).f9)) && true)))))))))) && true))))) (p:=(rd l0 a) = (rd l1 a)) tw rfl rfl (by kernel_rfl) (tz (x:=rd l0 a) (y:=rd l1 a))) (h:=aV dd sH (aI (by kernel_rfl) (aa ?_)))))
   rcases bE H with⟨c,H⟩|⟨c,H⟩
   ·refine aC rfl c (aR (ad aW (h:=cC (ba (aG (aG (ba (aG (aG ?_)))))))))
    have h:=aN H;subst h
    have hb_:=dw b
    have hr_:=Option.some.inj hb_
    clear hb_
    subst hr_
    exact dX [] ⟨rfl,rfl⟩
   refine aB rfl c (ap (aF (aa (ak (ad (bW rfl rfl) (h:=ad ar (h:=ah ?_)))))))
   exact aa ⟨E,Nat.lt_succ_self _,_,H,dZ [0,1]⟩
  refine aB rfl z (cf (aX (aX (cg ?_))))
  have h:=aN H;subst h
  exact aa ⟨(),rfl,dZ []⟩
 rintro e ds As ⟨F,ht,s⟩
 clear H
 subst ht
 replace b:=fw b
 have H:=b
 clear b
 refine aa (SA.of_St s fun junk=>aR (ad aW (h:=cC ?_)))
 have h:=aN H;subst h
 exact dX [] ⟨rfl,rfl⟩


theorem Eo.ok {a0 : bH} {a1 : bH} {r : Bool} (H : qc.f k a0 a1 = some r) : dk Tryz.prog 59 #[.agg #[ae a0.f0,ae a0.f1,.slice af a0.f2.length ag],.agg #[ae a1.f0,ae a1.f1,.slice cQ a1.f2.length cR]] [Ro bD af ag a0.f2,Ro bD cQ cR a1.f2] (fun v B=>v = .bool r∧B = []):=by
 refine aj Tryz.func59 rfl rfl ?_
 unfold qc.f at H
 refine aR (o' (bO (h:=fun l=>o' (bO (h:=fun m=>ad aW (h:=cP (ad aA (h:=bp (aP 2) (h:=ad aA (h:=bp (aP 3) (h:=S' (bk rfl rfl) ?_)))))))))))
 refine S' ar ?_
 obtain⟨p,c,H⟩:=bj H
 refine dy 6 [(2,aH l),(3,aH m),(16,.bool p)] [aK l 26 [ae a0.f0,ae a0.f1,.slice af a0.f2.length ag],Ro bD af ag a0.f2,aK m 26 [ae a1.f0,ae a1.f1,.slice cQ a1.f2.length cR],Ro bD cQ cR a1.f2] ?_ fun junk=>?_
 ·by_cases b : a0.f0 = a1.f0
  ·refine bf (ai b) aA (h:=cE (ai b) (aP 2) (h:=bf (ai b) aA (h:=cE (ai b) (aP 3) (h:=bf (ai b) (bk rfl rfl) (h:=cd (ai b) (h:=ah ?_))))))
   have x_:=fD c ((ai b));exact bK [2,0,3,1]
  refine cu 5 (am b) (ck (am b) (h:=ah ?_))
  have x_:=fC c ((am b));exact bK [2,0,3,1]
 refine S' ar ?_
 obtain⟨o,H,d⟩:=ac H
 refine dy 6 [(23,.bool o)] [] ?_ fun junk=>?_
 ·rcases bE H with⟨a,H⟩|⟨a,H⟩
  ·refine bf a aA (h:=cE a (aP 0) (h:=bf a aA (h:=z' a (aP 2) ?_)))
   obtain⟨q,j,H⟩:=ac H
   refine fT a (dc [1,3] [0,1,2,3] (zJ.ok (A0:=af) (c0:=ag) (A1:=cQ) (c1:=cR) j) ?_)
   refine gN a ?_
   have h:=aN H;subst h
   exact dL []
  refine cu 5 (aM a) (fZ (aM a) ?_)
  have h:=aN H;subst h
  exact dL []
 replace H:=d
 refine ad aW (h:=cC ?_)
 have h:=aN H;subst h
 exact dX [] ⟨rfl,rfl⟩


theorem zK.ok {l0 : (List Int)} {g1 : Int → Option (Bool)} {A0 : Option Addr} {c0 : Nat} {fv1 : Value} {Fr1 : bC} (hg1 : ∀ {x0_ : Int} {r_ : Bool},g1 x0_ = some r_ → FC Tryz.prog fv1 [aL x0_] [Fr1] (fun v B=>∃ B0,(v = .bool r_∧B0 = [])∧B = B0 ++ [Fr1])) {r : Int} (H : iZ.f k l0 g1 = some r) : dk Tryz.prog 115 #[.slice A0 l0.length c0,fv1] [nZ A0 c0 l0,Fr1] (fun v B=>v = ae r∧B = [Fr1]):=by
 refine aj Tryz.func115 rfl rfl ?_
 unfold iZ.f at H
 refine aR (ad aW (h:=eD (ad ar (h:=bP (ae (l0.length : Int)) (cO Tryz.underlying32 rfl) (h:=ad ar (h:=bA ?_))))))
 obtain⟨z,H,b⟩:=ac H
 refine bI (fun e ds As=>∃ (y : Unit),z = Out.go y∧St [] [Fr1] e ds As) ?_ ?_
 ·refine aQ (cj (fun k_ e ds As=>∃ (a : Int),iZ.l0 l0 g1 k_ a = some z∧St [(0,.slice A0 l0.length c0),(1,fv1),(7,ae (l0.length : Int)),(8,ae a)] [Fr1,nZ A0 c0 l0] e ds As) (k:=k) ⟨_,H,jV [1,0]⟩ ?_)
  clear H
  rintro p e ds As ⟨a,H,o⟩
  obtain _ | p:=p
  ·cases H
  rw [iZ.l0] at H
  refine SA.of_St o fun junk=>aR (ad (ce rfl rfl) (h:=bA (ao ?_)))
  rcases bE H with⟨l,H⟩|⟨l,H⟩
  ·refine aC rfl l (ap (aa (ao (aQ (aR (ad ar (h:=ad aW (h:=cP (ad ar (h:=ad ar (h:=S' ar ?_)))))))))))
   obtain⟨⟨s,u⟩,H⟩:=aO H
   refine bp (bu (i:=a) Tryz.underlying32 iB rfl rfl (Src.ro (k:=1) rfl) s u) (h:=l' (bJ (enc:=(fun x_ : Int=>[Value.int .i32 x_])) (i:=a) (j:=a.toNat * 1) (m:=0) (sz:=1) Tryz.underlying21 rfl rfl rfl rfl (Src.ro (k:=1) rfl) s u (fun _ _ h=>h) rfl) ?_)
   obtain⟨D,q,H⟩:=ac H
   refine o' (te (vs:=[aL (rd l0 a)]) [0] [1] rfl rfl rfl rfl (hg1 (x0_:=rd l0 a) q) rfl ?_)
   rintro _ _⟨_,⟨rfl,rfl⟩,rfl⟩
   refine bA ?_
   rcases bE H with⟨c,H⟩|⟨c,H⟩
   ·refine aD rfl c (aR (ad ar (h:=ad aW (h:=cC (ba (aG (aG (ba (aG (aG ?_))))))))))
    have h:=aN H;subst h
    have hb_:=dw b
    have hr_:=Option.some.inj hb_
    clear hb_
    subst hr_
    exact dX [0] ⟨rfl,rfl⟩
   refine aE rfl c (ap (aF (aa (ak (ad (bW rfl rfl) (h:=ad ar (h:=ah ?_)))))))
   exact aa ⟨p,Nat.lt_succ_self _,_,H,dZ [0,1]⟩
  refine aB rfl l (cf (aX (aX (cg ?_))))
  have h:=aN H;subst h
  exact aa ⟨(),rfl,dZ [0]⟩
 rintro e ds As ⟨y,ht,d⟩
 clear H
 subst ht
 replace b:=fw b
 have H:=b
 clear b
 refine aa (SA.of_St d fun junk=>aR (ad aW (h:=cC ?_)))
 have h:=aN H;subst h
 exact dX [0] ⟨rfl,rfl⟩


theorem Ep.ok {l0 : (List Int)} {g1 : Int → Option (Bool)} {A0 : Option Addr} {c0 : Nat} {fv1 : Value} {Fr1 : bC} (hg1 : ∀ {x0_ : Int} {r_ : Bool},g1 x0_ = some r_ → FC Tryz.prog fv1 [aL x0_] [Fr1] (fun v B=>∃ B0,(v = .bool r_∧B0 = [])∧B = B0 ++ [Fr1])) {r : Bool} (H : qd.f k l0 g1 = some r) : dk Tryz.prog 60 #[.slice A0 l0.length c0,fv1] [nZ A0 c0 l0,Fr1] (fun v B=>v = .bool r∧B = [Fr1]):=by
 refine aj Tryz.func60 rfl rfl ?_
 unfold qd.f at H
 refine aR (ad aW (h:=cP (ad ar (h:=S' ar ?_))))
 obtain⟨b,a,H⟩:=ac H
 refine o' (dc [0,1] [0] (zK.ok (A0:=A0) (c0:=c0) (g1:=g1) (fv1:=fv1) (Fr1:=Fr1) (hg1:=hg1) a) ?_)
 refine ad (dT rfl rfl) (h:=ad aW (h:=cC ?_))
 have h:=aN H;subst h
 exact dX [0] ⟨rfl,rfl⟩


theorem rJ.ok {a0 : aJ} {r : Bool} (H : eF.f k a0 = some r) : dk Tryz.prog 16 #[.agg (al a0 af ag ay az au av aw ax).toArray] (cH a0 af ag ay az au av aw ax) (fun v B=>v = .bool r∧B = []):=by
 refine aj Tryz.func16 rfl rfl ?_
 unfold eF.f at H
 refine aR (o' (bO (h:=fun b=>ad aW (h:=cP (ad aA (h:=bp (cz b 0 4 [ae a0.f0.f0,ae a0.f0.f1,.slice af a0.f0.f2.length ag]) (h:=o' (cw (h:=fun d=>o' (bi d 0 5 [ae a0.f0.f0,ae a0.f0.f1,.slice af a0.f0.f2.length ag] (h:=eD (l' (cz d 0 5 [ae a0.f0.f0,ae a0.f0.f1,.slice af a0.f0.f2.length ag]) ?_))))))))))))
 obtain⟨r9,g5,H⟩:=ac H
 refine o' (dc [0] [0,1,2,3,4,5] (zL.ok g5) ?_)
 refine ad (bX rfl) (h:=S' ar ?_)
 obtain⟨g8,H,e4⟩:=ac H
 refine dy 5 [(1,aH b),(3,aH d),(19,.bool g8)] (aK b 34 (al a0 af ag ay az au av aw ax)::(cH a0 af ag ay az au av aw ax++[aK d 26 [ae a0.f0.f0,ae a0.f0.f1,.slice af a0.f0.f2.length ag]])) ?_ fun junk=>?_
 ·rcases bE H with⟨K,H⟩|⟨K,H⟩
  ·refine cu 4 K (gN K ?_)
   have h:=aN H;subst h
   exact dL [4,0,1,2,3,5]
  refine bf (aM K) aA (h:=z' (aM K) (cz b 6 4 (bF a0.f4)) ?_)
  obtain⟨h8,e9,H⟩:=ac H
  refine fT (aM K) (dc [] [0,1,2,3,4,5] (qb.ok e9) ?_)
  refine bf (aM K) (bX rfl) (h:=fZ (aM K) ?_)
  have h:=aN H;subst h
  exact dL [4,0,1,2,3,5]
 replace H:=e4
 refine S' ar ?_
 obtain⟨d5,H,e5⟩:=ac H
 refine dy 6 [(1,aH b),(3,aH d),(26,.bool d5)] (aK b 34 (al a0 af ag ay az au av aw ax)::(cH a0 af ag ay az au av aw ax++[aK d 26 [ae a0.f0.f0,ae a0.f0.f1,.slice af a0.f0.f2.length ag]])) ?_ fun junk=>?_
 ·rcases bE H with⟨F,H⟩|⟨F,H⟩
  ·refine cu 5 F (gN F ?_)
   have h:=aN H;subst h
   exact dL [0,1,2,3,4,5]
  refine bf (aM F) aA (h:=bf (aM F) aA (h:=z' (aM F) (cz b 29 0 (bF a0.f14.f4)) ?_))
  obtain⟨h9,g0,H⟩:=ac H
  refine fT (aM F) (dc [] [0,1,2,3,4,5] (qb.ok g0) ?_)
  refine bf (aM F) (bX rfl) (h:=fZ (aM F) ?_)
  have h:=aN H;subst h
  exact dL [0,1,2,3,4,5]
 replace H:=e5
 refine S' ar ?_
 obtain⟨d6,a7,H⟩:=bj H
 refine dy 4 [(1,aH b),(3,aH d),(31,.bool d6)] (aK b 34 (al a0 af ag ay az au av aw ax)::(cH a0 af ag ay az au av aw ax++[aK d 26 [ae a0.f0.f0,ae a0.f0.f1,.slice af a0.f0.f2.length ag]])) ?_ fun junk=>?_
 ·by_cases L : d5 = true
  ·refine cu 3 L (cd L (h:=ah ?_))
   have x_:=ji a7 L;exact bK [0,1,2,3,4,5]
  refine bf (aM L) aA (h:=cE (aM L) (aP 0) (h:=bf (aM L) (ce rfl rfl) (h:=ck (aM L) (h:=ah ?_))))
  have x_:=jh a7 ((aM L));exact bK [0,1,2,3,4,5]
 refine S' ar ?_
 obtain⟨d7,a8,H⟩:=bj H
 refine dy 6 [(1,aH b),(3,aH d),(38,.bool d7)] (aK b 34 (al a0 af ag ay az au av aw ax)::(cH a0 af ag ay az au av aw ax++[aK d 26 [ae a0.f0.f0,ae a0.f0.f1,.slice af a0.f0.f2.length ag]])) ?_ fun junk=>?_
 ·by_cases q : d6 = true
  ·refine cu 5 q (cd q (h:=ah ?_))
   have x_:=ji a8 q;exact bK [0,1,2,3,4,5]
  refine bf (aM q) aA (h:=cE (aM q) (aP 0) (h:=bf (aM q) aA (h:=cE (aM q) (aP 0) (h:=bf (aM q) (eK rfl rfl) (h:=ck (aM q) (h:=ah ?_))))))
  have x_:=jh a8 ((aM q));exact bK [0,1,2,3,4,5]
 refine S' ar ?_
 obtain⟨g9,a9,H⟩:=bj H
 refine cK 6 (St [(1,aH b),(3,aH d),(45,.bool g9)] (aK b 34 (al a0 af ag ay az au av aw ax)::(cH a0 af ag ay az au av aw ax++[aK d 26 [ae a0.f0.f0,ae a0.f0.f1,.slice af a0.f0.f2.length ag]]))) ?_ ?_
 ·by_cases s : d7 = true
  ·refine cu 5 s (cd s (h:=ah ?_))
   have x_:=ji a9 s;exact bK [0,1,2,3,4,5]
  refine bf (aM s) aA (h:=cE (aM s) (aP 0) (h:=bf (aM s) aA (h:=cE (aM s) (aP 5) (h:=bf (aM s) (dT rfl rfl) (h:=ck (aM s) (h:=ah ?_))))))
  have x_:=jh a9 ((aM s));exact bK [0,1,2,3,4,5]
 rintro e ds As b9
 refine bA (SA.of_St b9 fun junk=>?_)
 rcases bE H with⟨a1,H⟩|⟨a1,H⟩
 ·refine aD rfl a1 (aR (ad aW (h:=cD ?_)))
  have h:=aN H;subst h
  exact dX [] ⟨rfl,rfl⟩
 refine aE rfl a1 (ap (aa (ao (aR (ad aA (h:=bp (aP 0) (h:=ad aA (h:=bp (aP 0) (h:=ad aA (h:=bp (aP 0) (h:=bP (.agg (ii (dz.mk a0.f1 a0.f2 a0.f3 false fU)).toArray) dP (h:=S' aA ?_))))))))))))
 refine bp (cz b 25 0 (ii a0.f14)) (h:=bP (.agg (List.toArray (ae a0.f1::ae a0.f2::.bool a0.f3::.bool false::ae 0::ae 0::.bool false::.bool false::.bool false::.bool false::.bool false::.bool false::.bool false::.bool false::ae a0.f14.f0::ae a0.f14.f1::.bool a0.f14.f2::.bool a0.f14.f3::ae a0.f14.f4.f0::ae a0.f14.f4.f1::.bool a0.f14.f4.f2::.bool a0.f14.f4.f3::.bool a0.f14.f4.f4::.bool a0.f14.f4.f5::.bool a0.f14.f4.f6::.bool a0.f14.f4.f7::.bool a0.f14.f4.f8::.bool a0.f14.f4.f9::[]))) gH (h:=ad ar (h:=bA ?_)))
 obtain⟨e2,H,R⟩:=ac H
 refine bI (fun e ds As=>∃ (e0 : Unit),e2 = Out.go e0∧St [(1,aH b),(3,aH d)] (aK b 34 (al a0 af ag ay az au av aw ax)::(cH a0 af ag ay az au av aw ax++[aK d 26 [ae a0.f0.f0,ae a0.f0.f1,.slice af a0.f0.f2.length ag]])) e ds As) ?_ ?_
 ·refine aQ (cj (fun k_ e ds As=>∃ (a : Int),eF.l0 a0 k_ a = some e2∧St [(1,aH b),(3,aH d),(55,.agg (List.toArray (ae a0.f1::ae a0.f2::.bool a0.f3::.bool false::ae 0::ae 0::.bool false::.bool false::.bool false::.bool false::.bool false::.bool false::.bool false::.bool false::ae a0.f14.f0::ae a0.f14.f1::.bool a0.f14.f2::.bool a0.f14.f3::ae a0.f14.f4.f0::ae a0.f14.f4.f1::.bool a0.f14.f4.f2::.bool a0.f14.f4.f3::.bool a0.f14.f4.f4::.bool a0.f14.f4.f5::.bool a0.f14.f4.f6::.bool a0.f14.f4.f7::.bool a0.f14.f4.f8::.bool a0.f14.f4.f9::[]))),(56,ae a)] (aK b 34 (al a0 af ag ay az au av aw ax)::(cH a0 af ag ay az au av aw ax++[aK d 26 [ae a0.f0.f0,ae a0.f0.f1,.slice af a0.f0.f2.length ag]])) e ds As) (k:=k) ⟨_,H,jV [0,1,2,3,4,5]⟩ ?_)
  clear H
  rintro b4 e ds As ⟨a,H,c5⟩
  obtain _ | b4:=b4
  ·cases H
  rw [eF.l0] at H
  refine SA.of_St c5 fun junk=>aR (ad (ce rfl rfl) (h:=bA (ao ?_)))
  rcases bE H with⟨a2,H⟩|⟨a2,H⟩
  ·refine aC rfl a2 (ap (aa (ao (aQ (aR ?_)))))
   obtain⟨⟨g6,g7⟩,H⟩:=aO H
   refine s' (.agg (ii (dz.mk ((rd ([(dz.mk a0.f1 a0.f2 a0.f3 false fU),a0.f14] : List dz) a).f0) ((rd ([(dz.mk a0.f1 a0.f2 a0.f3 false fU),a0.f14] : List dz) a).f1) ((rd ([(dz.mk a0.f1 a0.f2 a0.f3 false fU),a0.f14] : List dz) a).f2) ((rd ([(dz.mk a0.f1 a0.f2 a0.f3 false fU),a0.f14] : List dz) a).f3) ((rd ([(dz.mk a0.f1 a0.f2 a0.f3 false fU),a0.f14] : List dz) a).f4))).toArray) (sC (kd:=xE) (i:=a) (cs:=(ae a0.f1::ae a0.f2::.bool a0.f3::.bool false::ae 0::ae 0::.bool false::.bool false::.bool false::.bool false::.bool false::.bool false::.bool false::.bool false::ae a0.f14.f0::ae a0.f14.f1::.bool a0.f14.f2::.bool a0.f14.f3::ae a0.f14.f4.f0::ae a0.f14.f4.f1::.bool a0.f14.f4.f2::.bool a0.f14.f4.f3::.bool a0.f14.f4.f4::.bool a0.f14.f4.f5::.bool a0.f14.f4.f6::.bool a0.f14.f4.f7::.bool a0.f14.f4.f8::.bool a0.f14.f4.f9::[])) (xs:=([(dz.mk a0.f1 a0.f2 a0.f3 false fU),a0.f14] : List dz)) (vs:=(ii (dz.mk ((rd ([(dz.mk a0.f1 a0.f2 a0.f3 false fU),a0.f14] : List dz) a).f0) ((rd ([(dz.mk a0.f1 a0.f2 a0.f3 false fU),a0.f14] : List dz) a).f1) ((rd ([(dz.mk a0.f1 a0.f2 a0.f3 false fU),a0.f14] : List dz) a).f2) ((rd ([(dz.mk a0.f1 a0.f2 a0.f3 false fU),a0.f14] : List dz) a).f3) ((rd ([(dz.mk a0.f1 a0.f2 a0.f3 false fU),a0.f14] : List dz) a).f4)))) Tryz.underlying78 yY Tryz.underlying31 rfl rfl rfl (dO tv (fun _ _=>rfl) (by kernel_rfl) _) rfl rfl g6 g7 (fun _ h_=>by rw [h_]; rfl)) ?_
   refine o' (cw (h:=fun U=>o' (bi U 0 6 (ii (dz.mk ((rd ([(dz.mk a0.f1 a0.f2 a0.f3 false fU),a0.f14] : List dz) a).f0) ((rd ([(dz.mk a0.f1 a0.f2 a0.f3 false fU),a0.f14] : List dz) a).f1) ((rd ([(dz.mk a0.f1 a0.f2 a0.f3 false fU),a0.f14] : List dz) a).f2) ((rd ([(dz.mk a0.f1 a0.f2 a0.f3 false fU),a0.f14] : List dz) a).f3) ((rd ([(dz.mk a0.f1 a0.f2 a0.f3 false fU),a0.f14] : List dz) a).f4))) (h:=cP (ad aA (h:=bp (aP 6) (h:=ad (ce rfl rfl) (h:=S' ar ?_))))))))
   obtain⟨d8,b0,H⟩:=bj H
   refine dy 6 [(1,aH b),(3,aH d),(5,aH U),(55,.agg (List.toArray (ae a0.f1::ae a0.f2::.bool a0.f3::.bool false::ae 0::ae 0::.bool false::.bool false::.bool false::.bool false::.bool false::.bool false::.bool false::.bool false::ae a0.f14.f0::ae a0.f14.f1::.bool a0.f14.f2::.bool a0.f14.f3::ae a0.f14.f4.f0::ae a0.f14.f4.f1::.bool a0.f14.f4.f2::.bool a0.f14.f4.f3::.bool a0.f14.f4.f4::.bool a0.f14.f4.f5::.bool a0.f14.f4.f6::.bool a0.f14.f4.f7::.bool a0.f14.f4.f8::.bool a0.f14.f4.f9::[]))),(56,ae a),(68,.bool d8)] (aK b 34 (al a0 af ag ay az au av aw ax)::(cH a0 af ag ay az au av aw ax++[aK d 26 [ae a0.f0.f0,ae a0.f0.f1,.slice af a0.f0.f2.length ag],aK U 31 (ii (dz.mk ((rd ([(dz.mk a0.f1 a0.f2 a0.f3 false fU),a0.f14] : List dz) a).f0) ((rd ([(dz.mk a0.f1 a0.f2 a0.f3 false fU),a0.f14] : List dz) a).f1) ((rd ([(dz.mk a0.f1 a0.f2 a0.f3 false fU),a0.f14] : List dz) a).f2) ((rd ([(dz.mk a0.f1 a0.f2 a0.f3 false fU),a0.f14] : List dz) a).f3) ((rd ([(dz.mk a0.f1 a0.f2 a0.f3 false fU),a0.f14] : List dz) a).f4)))])) ?_ fun junk=>?_
   ·by_cases u : ((rd ([(dz.mk a0.f1 a0.f2 a0.f3 false fU),a0.f14] : List dz) a).f0) < 0
    ·refine cu 5 (ai u) (cd (ai u) (h:=ah ?_))
     have x_:=ji b0 ((ai u));exact bK [0,1,2,3,4,5,6]
    refine bf (am u) aA (h:=cE (am u) (aP 6) (h:=bf (am u) aA (h:=cE (am u) (aP 5) (h:=bf (am u) (dT rfl rfl) (h:=ck (am u) (h:=ah ?_))))))
    have x_:=jh b0 ((am u));exact bK [0,1,2,3,4,5,6]
   refine S' ar ?_
   obtain⟨d9,b1,H⟩:=bj H
   refine dy 4 [(1,aH b),(3,aH d),(5,aH U),(55,.agg (List.toArray (ae a0.f1::ae a0.f2::.bool a0.f3::.bool false::ae 0::ae 0::.bool false::.bool false::.bool false::.bool false::.bool false::.bool false::.bool false::.bool false::ae a0.f14.f0::ae a0.f14.f1::.bool a0.f14.f2::.bool a0.f14.f3::ae a0.f14.f4.f0::ae a0.f14.f4.f1::.bool a0.f14.f4.f2::.bool a0.f14.f4.f3::.bool a0.f14.f4.f4::.bool a0.f14.f4.f5::.bool a0.f14.f4.f6::.bool a0.f14.f4.f7::.bool a0.f14.f4.f8::.bool a0.f14.f4.f9::[]))),(56,ae a),(73,.bool d9)] (aK b 34 (al a0 af ag ay az au av aw ax)::(cH a0 af ag ay az au av aw ax++[aK d 26 [ae a0.f0.f0,ae a0.f0.f1,.slice af a0.f0.f2.length ag],aK U 31 (ii (dz.mk ((rd ([(dz.mk a0.f1 a0.f2 a0.f3 false fU),a0.f14] : List dz) a).f0) ((rd ([(dz.mk a0.f1 a0.f2 a0.f3 false fU),a0.f14] : List dz) a).f1) ((rd ([(dz.mk a0.f1 a0.f2 a0.f3 false fU),a0.f14] : List dz) a).f2) ((rd ([(dz.mk a0.f1 a0.f2 a0.f3 false fU),a0.f14] : List dz) a).f3) ((rd ([(dz.mk a0.f1 a0.f2 a0.f3 false fU),a0.f14] : List dz) a).f4)))])) ?_ fun junk=>?_
   ·by_cases M : d8 = true
    ·refine cu 3 M (cd M (h:=ah ?_))
     have x_:=ji b1 M;exact bK [0,1,2,3,4,5,6]
    refine bf (aM M) aA (h:=cE (aM M) (aP 6) (h:=bf (aM M) (ce rfl rfl) (h:=ck (aM M) (h:=ah ?_))))
    have x_:=jh b1 ((aM M));exact bK [0,1,2,3,4,5,6]
   refine S' ar ?_
   obtain⟨h0,b2,H⟩:=bj H
   refine dy 6 [(1,aH b),(3,aH d),(5,aH U),(55,.agg (List.toArray (ae a0.f1::ae a0.f2::.bool a0.f3::.bool false::ae 0::ae 0::.bool false::.bool false::.bool false::.bool false::.bool false::.bool false::.bool false::.bool false::ae a0.f14.f0::ae a0.f14.f1::.bool a0.f14.f2::.bool a0.f14.f3::ae a0.f14.f4.f0::ae a0.f14.f4.f1::.bool a0.f14.f4.f2::.bool a0.f14.f4.f3::.bool a0.f14.f4.f4::.bool a0.f14.f4.f5::.bool a0.f14.f4.f6::.bool a0.f14.f4.f7::.bool a0.f14.f4.f8::.bool a0.f14.f4.f9::[]))),(56,ae a),(80,.bool h0)] (aK b 34 (al a0 af ag ay az au av aw ax)::(cH a0 af ag ay az au av aw ax++[aK d 26 [ae a0.f0.f0,ae a0.f0.f1,.slice af a0.f0.f2.length ag],aK U 31 (ii (dz.mk ((rd ([(dz.mk a0.f1 a0.f2 a0.f3 false fU),a0.f14] : List dz) a).f0) ((rd ([(dz.mk a0.f1 a0.f2 a0.f3 false fU),a0.f14] : List dz) a).f1) ((rd ([(dz.mk a0.f1 a0.f2 a0.f3 false fU),a0.f14] : List dz) a).f2) ((rd ([(dz.mk a0.f1 a0.f2 a0.f3 false fU),a0.f14] : List dz) a).f3) ((rd ([(dz.mk a0.f1 a0.f2 a0.f3 false fU),a0.f14] : List dz) a).f4)))])) ?_ fun junk=>?_
   ·by_cases y : d9 = true
    ·refine cu 5 y (cd y (h:=ah ?_))
     have x_:=ji b2 y;exact bK [0,1,2,3,4,5,6]
    refine bf (aM y) aA (h:=cE (aM y) (aP 6) (h:=bf (aM y) aA (h:=cE (aM y) (aP 5) (h:=bf (aM y) (dT rfl rfl) (h:=ck (aM y) (h:=ah ?_))))))
    have x_:=jh b2 ((aM y));exact bK [0,1,2,3,4,5,6]
   refine S' ar ?_
   obtain⟨h1,H,Y⟩:=ac H
   refine cK 11 (St [(1,aH b),(3,aH d),(55,.agg (List.toArray (ae a0.f1::ae a0.f2::.bool a0.f3::.bool false::ae 0::ae 0::.bool false::.bool false::.bool false::.bool false::.bool false::.bool false::.bool false::.bool false::ae a0.f14.f0::ae a0.f14.f1::.bool a0.f14.f2::.bool a0.f14.f3::ae a0.f14.f4.f0::ae a0.f14.f4.f1::.bool a0.f14.f4.f2::.bool a0.f14.f4.f3::.bool a0.f14.f4.f4::.bool a0.f14.f4.f5::.bool a0.f14.f4.f6::.bool a0.f14.f4.f7::.bool a0.f14.f4.f8::.bool a0.f14.f4.f9::[]))),(56,ae a),(92,.bool h1)] (aK b 34 (al a0 af ag ay az au av aw ax)::(cH a0 af ag ay az au av aw ax++[aK d 26 [ae a0.f0.f0,ae a0.f0.f1,.slice af a0.f0.f2.length ag]]))) ?_ ?_
   ·rcases bE H with⟨p,H⟩|⟨p,H⟩
    ·refine cu 3 p (fY (fY (fY (fY (fY (fY (cu 1 p (gN p ?_))))))))
     have h:=aN H;subst h
     exact dL [0,1,2,3,4,5]
    refine bf (aM p) aA (h:=cE (aM p) (aP 6) (h:=Y' (aM p) ar ?_))
    rcases bE H with⟨z,H⟩|⟨z,H⟩
    ·refine bf z aA (h:=cE z (aP 6) (h:=bf z aA (h:=cE z (aP 5) (h:=bf z (cT rfl rfl) (h:=bf z (dK rfl rfl) (h:=fT (aM p) (dr rfl (bS rfl (z) rfl) (fZ (aM p) ?_))))))))
     have h:=aN H;subst h
     exact dL [0,1,2,3,4,5]
    refine cu 6 (aM z) (fT (aM p) (dr rfl (bR rfl (aM z) rfl) (fZ (aM p) ?_)))
    have h:=aN H;subst h
    exact dL [0,1,2,3,4,5]
   rintro e ds As c6
   clear H
   have H:=Y
   clear Y
   refine bA (SA.of_St c6 fun junk=>?_)
   rcases bE H with⟨a3,H⟩|⟨a3,H⟩
   ·refine aD rfl a3 (aR (ad aW (h:=cC (ba (aG (aG (ba (aG (aG ?_)))))))))
    have h:=aN H;subst h
    have hb_:=dw R
    have hr_:=Option.some.inj hb_
    clear hb_
    subst hr_
    exact dX [] ⟨rfl,rfl⟩
   refine aE rfl a3 (ap (aF (aa (ak (ad (bW rfl rfl) (h:=ad ar (h:=ah ?_)))))))
   exact aa ⟨b4,Nat.lt_succ_self _,_,H,dZ [0,1,2,3,4,5]⟩
  refine aB rfl a2 (cf (aX (aX (cg ?_))))
  have h:=aN H;subst h
  exact aa ⟨(),rfl,dZ [0,1,2,3,4,5]⟩
 rintro e ds As ⟨e0,ht,c7⟩
 clear H
 subst ht
 replace R:=fw R
 have H:=R
 clear R
 refine aa (SA.of_St c7 fun junk=>aR (ad aW (h:=eD (ad aA (h:=bp (aP 0) (h:=bP (ae (a0.f7.length : Int)) (cO Tryz.underlying29 rfl) (h:=ad ar (h:=bA ?_))))))))
 obtain⟨e3,H,S⟩:=ac H
 refine bI (fun e ds As=>∃ (e1 : Unit),e3 = Out.go e1∧St [(1,aH b),(3,aH d)] (aK b 34 (al a0 af ag ay az au av aw ax)::(cH a0 af ag ay az au av aw ax++[aK d 26 [ae a0.f0.f0,ae a0.f0.f1,.slice af a0.f0.f2.length ag]])) e ds As) ?_ ?_
 ·refine aQ (cj (fun k_ e ds As=>∃ (O : Int) (l : Int),eF.l1 a0 k_ O l = some e3∧St [(1,aH b),(3,aH d),(6,ae O),(95,.slice ay a0.f7.length az),(96,ae (a0.f7.length : Int)),(97,ae l)] (aK b 34 (al a0 af ag ay az au av aw ax)::(cH a0 af ag ay az au av aw ax++[aK d 26 [ae a0.f0.f0,ae a0.f0.f1,.slice af a0.f0.f2.length ag]])) e ds As) (k:=k) ⟨_,_,H,jV [0,1,2,3,4,5]⟩ ?_)
  clear H
  rintro b6 e ds As ⟨O,l,H,c8⟩
  obtain _ | b6:=b6
  ·cases H
  rw [eF.l1] at H
  refine SA.of_St c8 fun junk=>aR (ad (ce rfl rfl) (h:=bA (ao ?_)))
  rcases bE H with⟨a4,H⟩|⟨a4,H⟩
  ·refine aC rfl a4 (ap (aa (ao (aQ (aR ?_)))))
   obtain⟨⟨d3,d4⟩,H⟩:=aO H
   refine bp (bu (i:=l) Tryz.underlying29 jl rfl rfl (Src.ro (k:=2) rfl) d3 d4) (h:=l' (bJ (enc:=(fun x_ : Int=>[Value.int .i64 x_])) (i:=l) (j:=l.toNat * 1) (m:=0) (sz:=1) Tryz.underlying3 rfl rfl rfl rfl (Src.ro (k:=2) rfl) d3 d4 (fun _ _ h=>h) rfl) ?_)
   obtain⟨n61,e8,H⟩:=bj H
   refine bP (ae n61) (bo (v:=ae n61) (congrArg (Value.int .i64) e8.symm)) (h:=eD (ad ar (h:=ad ar (h:=ad (gG rfl rfl) (h:=S' ar ?_)))))
   obtain⟨h3,b3,H⟩:=bj H
   refine cK 5 (St [(1,aH b),(3,aH d),(8,ae n61),(95,.slice ay a0.f7.length az),(96,ae (a0.f7.length : Int)),(97,ae l),(109,.bool h3)] (aK b 34 (al a0 af ag ay az au av aw ax)::(cH a0 af ag ay az au av aw ax++[aK d 26 [ae a0.f0.f0,ae a0.f0.f1,.slice af a0.f0.f2.length ag]]))) ?_ ?_
   ·by_cases I : n61 ≤ O
    ·refine cu 4 (ai I) (cd (ai I) (h:=ah ?_))
     have x_:=ji b3 ((ai I));exact bK [0,1,2,3,4,5]
    refine bf (am I) ar (h:=bf (am I) aA (h:=cE (am I) (aP 5) (h:=bf (am I) (dT rfl rfl) (h:=ck (am I) (h:=ah ?_)))))
    have x_:=jh b3 ((am I));exact bK [0,1,2,3,4,5]
   rintro e ds As c9
   refine bA (SA.of_St c9 fun junk=>?_)
   rcases bE H with⟨a5,H⟩|⟨a5,H⟩
   ·refine aD rfl a5 (aR (ad aW (h:=cD (ba (aG (aG (ba (aG (aG ?_)))))))))
    have h:=aN H;subst h
    have hb_:=dw S
    have hr_:=Option.some.inj hb_
    clear hb_
    subst hr_
    exact dX [] ⟨rfl,rfl⟩
   refine aE rfl a5 (ap (aa (ak (ad ar (h:=ad aW (h:=ah (aF (aa (ak (ad (bW rfl rfl) (h:=ad ar (h:=ah ?_))))))))))))
   exact aa ⟨b6,Nat.lt_succ_self _,_,_,H,dZ [0,1,2,3,4,5]⟩
  refine aB rfl a4 (cf (aX (aX (cg ?_))))
  have h:=aN H;subst h
  exact aa ⟨(),rfl,dZ [0,1,2,3,4,5]⟩
 rintro e ds As ⟨e1,ht,d0⟩
 clear H
 subst ht
 replace S:=fw S
 have H:=S
 clear S
 refine aa (SA.of_St d0 fun junk=>ao (aR (ad aA (h:=bp (aP 0) (h:=S' ar ?_)))))
 obtain⟨h4,H,e6⟩:=ac H
 refine dy 21 [(1,aH b),(135,.bool h4)] (fc b a0 af ag ay az au av aw ax) ?_ fun junk=>?_
 ·rcases bE H with⟨c,H⟩|⟨c,H⟩
  ·refine bf c aA (h:=z' c (cz b 40 0 [ae a0.f16.f0,ae a0.f16.f1,.slice au a0.f16.f2.length av]) ?_)
   obtain⟨i0,g2,H⟩:=ac H
   refine fT c (dc [3] [0,1,2,3,4,5] (zL.ok g2) ?_)
   refine bf c (bX rfl) (h:=Y' c ar ?_)
   rcases bE H with⟨D,H⟩|⟨D,H⟩
   ·refine cu 6 D (fT c (dr rfl (bS rfl (D) rfl) (bf c ar (h:=cu 6 rfl (fT c (dr rfl (bS rfl (rfl) rfl) (gN c ?_)))))))
    have h:=aN H;subst h
    exact dL [0,1,2,3,4]
   refine bf (aM D) aA (h:=bf (aM D) aA (h:=cE (aM D) (aP 0) (h:=bf (aM D) aA (h:=cE (aM D) (aP 5) (h:=bf (aM D) (dK rfl rfl) (h:=fT c (dr rfl (bR rfl (aM D) rfl) (Y' c ar ?_))))))))
   rcases bE H with⟨E,H⟩|⟨E,H⟩
   ·refine cu 6 (ai E) (fT c (dr rfl (bS rfl (ai E) rfl) (gN c ?_)))
    have h:=aN H;subst h
    exact dL [0,1,2,3,4]
   refine bf (am E) aA (h:=bf (am E) aA (h:=cE (am E) (aP 0) (h:=bf (am E) aA (h:=cE (am E) (aP 5) (h:=bf (am E) (dK rfl rfl) (h:=fT c (dr rfl (bR rfl (am E) rfl) (gN c ?_))))))))
   have h:=aN H;subst h
   exact dL [0,1,2,3,4]
  refine cu 5 (aM c) (fY (fY (fY (fY (fY (fY (cu 2 (aM c) (fY (fY ?_)))))))))
  refine fY (fY (fY (fY (cu 1 (aM c) (fZ (aM c) ?_)))))
  have h:=aN H;subst h
  exact dL [0,1,2,3,4]
 replace H:=e6
 refine S' ar ?_
 obtain⟨h5,H,Z⟩:=ac H
 refine cK 11 (St [(1,aH b),(147,.bool h5)] (fc b a0 af ag ay az au av aw ax)) ?_ ?_
 ·rcases bE H with⟨o,H⟩|⟨o,H⟩
  ·refine cu 4 o (fY (fY (fY (fY (fY (cu 1 o (gN o ?_)))))))
   have h:=aN H;subst h
   exact dL [0,1,2,3,4]
  refine bf (aM o) aA (h:=cE (aM o) (aP 0) (h:=bf (aM o) (bX rfl) (h:=Y' (aM o) ar ?_)))
  rcases bE H with⟨J,H⟩|⟨J,H⟩
  ·refine bf J aA (h:=cE J (cz b 40 0 [ae a0.f16.f0,ae a0.f16.f1,.slice au a0.f16.f2.length av]) (h:=y' J (.agg #[ae 0,ae 0,.slice none 0 0]) dP ?_))
   obtain⟨i1,g3,H⟩:=ac H
   refine fT J (OA.ghost (Gh.nilRo bD none 0) (dc [3,5] [0,1,2,3,4,5] (Eo.ok g3) ?_))
   refine bf J (bX rfl) (h:=fT (aM o) (dr rfl (bS rfl (J) rfl) (fZ (aM o) ?_)))
   have h:=aN H;subst h
   exact dL [0,1,2,3,4]
  refine cu 5 (aM J) (fT (aM o) (dr rfl (bR rfl (aM J) rfl) (fZ (aM o) ?_)))
  have h:=aN H;subst h
  exact dL [0,1,2,3,4]
 rintro e ds As d1
 clear H
 have H:=Z
 clear Z
 refine bA (SA.of_St d1 fun junk=>?_)
 rcases bE H with⟨a6,H⟩|⟨a6,H⟩
 ·refine aD rfl a6 (aR (ad aW (h:=cD ?_)))
  have h:=aN H;subst h
  exact dX [] ⟨rfl,rfl⟩
 refine aE rfl a6 (ap (aa (aR (ad aA (h:=bp (aP 0) (h:=bP (ae (a0.f17.length : Int)) (cO Tryz.underlying32 rfl) (h:=ad (gG rfl rfl) (h:=S' ar ?_))))))))
 obtain⟨h6,H,e7⟩:=ac H
 refine dy 5 [(157,.bool h6)] [] ?_ fun junk=>?_
 ·rcases bE H with⟨N,H⟩|⟨N,H⟩
  ·refine bf (ai N) aA (h:=z' (ai N) (aP 0) ?_)
   obtain⟨h7,g4,H⟩:=ac H
   refine fT (ai N) (ms [4] [0,1,2,3,4] (dk.unpk (pre0:=[nZ aw ax a0.f17]) (Bs:=[]) ((Ep.ok (A0:=aw) (c0:=ax) (g1:=(fun (b8 : Int)=>uI.f b8)) (fv1:=.func (.func 61) #[] #[]) (Fr1:=Pk []) (hg1:=(fun {b8} {r_} C_=>FC.of (pre0:=[]) (Bs:=[]) (cap:=[]) Tryz.func61 AO rfl ((uI.ok (a0:=b8) C_).mono (fun _ _ ⟨hv_,hB_⟩=>⟨_,⟨hv_,rfl⟩,hB_⟩)))) g4).mono (fun (v_ : Value) (B_ : List bC) ⟨hv_,hB_⟩=>(⟨[],⟨hv_,rfl⟩,hB_⟩ : ∃ d2 : List bC,(v_ = (.bool h7 : Value)∧d2 = [])∧B_ = d2 ++ [Pk []])))) ?_)
   rintro _ _⟨_,⟨rfl,rfl⟩,rfl⟩
   refine bf (ai N) (bX rfl) (h:=gN (ai N) ?_)
   have h:=aN H;subst h
   exact dL []
  refine cu 4 (am N) (fZ (am N) ?_)
  have h:=aN H;subst h
  exact dL []
 replace H:=e7
 refine ad aW (h:=cC ?_)
 have h:=aN H;subst h
 exact dX [] ⟨rfl,rfl⟩


def iu.f (k : Nat) (a0 : aJ) (p2000 : Int) : Option (aJ × Int):=(eF.f k a0).bind (fun a=>if (!a) = true then (some (((aJ.mk (bH.mk 0 0 ([] : (List aY))) 0 0 false (cM.mk 0 0 false false false false false false false false) 0 0 ([] : (List Int)) false false false false false false (dz.mk 0 0 false false (cM.mk 0 0 false false false false false false false false)) false (bH.mk 0 0 ([] : (List aY))) ([] : (List Int))),2))) else ((lE.f a0).bind (fun b=>(jY.f k b p2000).bind (fun c=>some ((c,0))))))
theorem iu.ok {a0 : aJ} {p2000 : Int} {r : aJ × Int} (H : iu.f k a0 p2000 = some r) : dk Tryz.prog 62 #[.agg (al a0 af ag ay az au av aw ax).toArray,.func (.func 72) #[] #[.pointer (some ⟨bN,0,none⟩)]] (cH a0 af ag ay az au av aw ax++[aK bN 21 [aL p2000]]) (fun v B=>∃ aS aT bv bx bq br bw bz,v = .tuple #[.agg (al r.1 aS aT bv bx bq br bw bz).toArray,ae r.2]∧B = (bn r.1 aS aT bv bx bq br bw bz++[aK bN 21 [aL p2000]])):=by
 refine aj Tryz.func62 rfl rfl ?_
 unfold iu.f at H
 refine aR (o' (bO (h:=fun b=>o' (cw (h:=fun I=>ad aW (h:=eD (l' (cm 5) ?_)))))))
 obtain⟨R,F,H⟩:=ac H
 refine o' (dc [0,1,2,3] [0,1,2,3,4,5,6] (rJ.ok F) ?_)
 refine ad (bX rfl) (h:=bA ?_)
 rcases bE H with⟨a,H⟩|⟨a,H⟩
 ·refine aD rfl a (aR (bP (.agg (al cy none 0 none 0 none 0 none 0).toArray) dP (h:=o' (bi I 0 6 (al cy none 0 none 0 none 0 none 0) (h:=ad aW (h:=cD ?_))))))
  have h:=aN H;subst h
  exact ma [.cell 4 34,.tmp 5] ((Gh.nilBuf bD 55).trans ((Gh.nilBuf (Kd.int .i64) 3).trans ((Gh.nilBuf bD 55).trans ((Gh.nilBuf (Kd.int .i32) 21).trans (eZ [7,8,9,10,4]))))) ⟨none,0,none,0,none,0,none,0,rfl,rfl⟩ ⟨cV 6,cW,trivial⟩
 refine aE rfl a (ap (aa (aR (l' (cm 5) ?_))))
 obtain⟨N,E,H⟩:=ac H
 refine o' (ed [0,1,2,3] [0,1,2,3,4,5,6] (lE.ok E) fun s J u K y L z M=>?_)
 refine o' (bi b 0 9 (al N s J u K y L z M) (h:=cP (ad ar (h:=s' (.agg #[aH b]) dP ?_))))
 obtain⟨O,D,H⟩:=ac H
 refine o' (ra [9,0,1,2,3,8] [4,5,6,7,10] (jg (vs:=[.agg #[aH b]]) (cap:=[aH bN]) rfl Tryz.func72 AQ rfl rfl) (jY.ok (bg:=b) (hM:=bN) D) ?_)
 rintro _ _⟨c,m,d,o,j,p,l,q,rfl,rfl⟩
 refine cP (bp (cm 0) (h:=o' (bi I 0 10 (al O c m d o j p l q) (h:=ad aW (h:=cC ?_)))))
 have h:=aN H;subst h
 exact du [.cell 4 34,.tmp 5] [1,2,3,4,5] ⟨c,m,d,o,j,p,l,q,rfl,rfl⟩ ⟨cV 10,cW,trivial⟩


def uH.f (k : Nat) (a0 : aJ) (a1 : Int) : Option (aJ × Int):=(iu.f k a0 a1).bind (fun a=>some ((a.1,a.2)))
theorem uH.ok {a0 : aJ} {a1 : Int} {r : aJ × Int} (H : uH.f k a0 a1 = some r) : dk Tryz.prog 27 #[.agg (al a0 af ag ay az au av aw ax).toArray,aL a1] (cH a0 af ag ay az au av aw ax) (fun v B=>∃ aS aT bv bx bq br bw bz,v = .tuple #[.agg (al r.1 aS aT bv bx bq br bw bz).toArray,ae r.2]∧B = (bn r.1 aS aT bv bx bq br bw bz)):=by
 refine aj Tryz.func27 rfl rfl ?_
 unfold uH.f at H
 refine aR (o' (bO (h:=fun y=>o' (bO (h:=fun p=>o' (cw (h:=fun u=>ad aW (h:=cP (bp (cm 4) (h:=s' (.func (.func 72) #[] #[aH p]) (dJ (us:=[aH p]) rfl) ?_))))))))))
 obtain⟨s,q,H⟩:=ac H
 refine o' (ed [0,1,2,3,5] [0,1,2,3,4,6] (iu.ok (bN:=p) q) fun a j b l c m d o=>?_)
 refine ad cr (h:=ad cr (h:=o' (bi u 0 10 (al s.1 a j b l c m d o) (h:=ad aW (h:=cC ?_)))))
 have h:=aN H;subst h
 exact du [.cell 4 34,.tmp 5] [0,1,2,3] ⟨a,j,b,l,c,m,d,o,rfl,rfl⟩ ⟨cV 10,cW,trivial⟩


def pP.f (a0 : Int) : Option (Bool):=some (decide (a0 ≠ a0))
theorem pP.ok {a0 : Int} {r : Bool} (H : pP.f a0 = some r) : fS Tryz.prog 159 #[ae a0] [] (.bool r):=by
 refine aj Tryz.func159 rfl rfl ?_
 unfold pP.f at H
 refine aR (ad aW (h:=cP (ad ar (h:=ad ar (h:=ad (dK rfl rfl) (h:=ad aW (h:=cC ?_)))))))
 have h:=aN H;subst h
 exact dX [] ⟨rfl,rfl⟩


def qO.f (a0 : Int) (a1 : Int) : Option (Bool):=(pP.f a0).bind (fun c=>(if c = true then ((pP.f a1).bind (fun d=>some (!d))) else (some false) : Option Bool).bind (fun a=>lt (a || (decide (a0 < a1))) fun b=>some (b)))
theorem qO.ok {a0 : Int} {a1 : Int} {r : Bool} (H : qO.f a0 a1 = some r) : fS Tryz.prog 153 #[ae a0,ae a1] [] (.bool r):=by
 refine aj Tryz.func153 rfl rfl ?_
 unfold qO.f at H
 refine aR (ad aW (h:=cP (S' ar ?_)))
 obtain⟨p,j,H⟩:=ac H
 refine o' (dc [] [] (pP.ok j) ?_)
 refine S' ar ?_
 obtain⟨l,H,d⟩:=ac H
 refine dy 4 [(0,ae a0),(1,ae a1),(11,.bool l)] [] ?_ fun junk=>?_
 ·rcases bE H with⟨b,H⟩|⟨b,H⟩
  ·refine Y' b ar ?_
   obtain⟨q,m,H⟩:=ac H
   refine fT b (dc [] [] (pP.ok m) ?_)
   refine bf b (bX rfl) (h:=gN b ?_)
   have h:=aN H;subst h
   exact dL []
  refine cu 3 (aM b) (fZ (aM b) ?_)
  have h:=aN H;subst h
  exact dL []
 replace H:=d
 refine S' ar ?_
 obtain⟨o,c,H⟩:=bj H
 refine dy 4 [(16,.bool o)] [] ?_ fun junk=>?_
 ·by_cases a : l = true
  ·refine cu 3 a (cd a (h:=ah ?_))
   have x_:=ji c a;exact bK []
  refine bf (aM a) ar (h:=bf (aM a) ar (h:=bf (aM a) (ce rfl rfl) (h:=ck (aM a) (h:=ah ?_))))
  have x_:=jh c ((aM a));exact bK []
 refine ad aW (h:=cC ?_)
 have h:=aN H;subst h
 exact dX [] ⟨rfl,rfl⟩


def pO.f (a0 : Int) : Option (Bool):=some (decide (a0 ≠ a0))
theorem pO.ok {a0 : Int} {r : Bool} (H : pO.f a0 = some r) : fS Tryz.prog 154 #[ae a0] [] (.bool r):=by
 refine aj Tryz.func154 rfl rfl ?_
 unfold pO.f at H
 refine aR (ad aW (h:=cP (ad ar (h:=ad ar (h:=ad (dK rfl rfl) (h:=ad aW (h:=cC ?_)))))))
 have h:=aN H;subst h
 exact dX [] ⟨rfl,rfl⟩


def fR.l0 (l0 : (List Int)) (a1 : Int) : Nat → Int → Int → Option (Int)
  | 0,_,_=>none
  | k + 1,a,b=>if a < b then (lt (i64.wrap (gR .u64 (IntKind.u64.wrap (i64.wrap (a + b))) 1)) fun n7=>if 0 ≤ n7∧n7 < (l0.length : Int) then ((qO.f (rd l0 n7) a1).bind (fun c=>if c = true then (lt (i64.wrap (n7 + 1)) fun n12=>fR.l0 l0 a1 k n12 b) else (fR.l0 l0 a1 k a n7))) else none) else (some a)
def fR.f (k : Nat) (l0 : (List Int)) (a1 : Int) : Option (Int × Bool):=lt ((l0.length : Int)) fun b=>(fR.l0 l0 a1 k 0 b : Option (Int)).bind (fun a=>(if a < b then (if 0 ≤ a∧a < (l0.length : Int) then (if (rd l0 a) = a1 then (some true) else (if 0 ≤ a∧a < (l0.length : Int) then ((pO.f (rd l0 a)).bind (fun d=>if d = true then ((pO.f a1).bind (fun h=>some h)) else (some false))) else none)) else none) else (some false) : Option Bool).bind (fun c=>some ((a,c))))
theorem fR.ok {l0 : (List Int)} {a1 : Int} {A0 : Option Addr} {c0 : Nat} {r : Int × Bool} (H : fR.f k l0 a1 = some r) : fS Tryz.prog 125 #[.slice A0 l0.length c0,ae a1] [gf 3 A0 c0 l0] (.tuple #[ae r.1,.bool r.2]):=by
 refine aj Tryz.func125 rfl rfl ?_
 unfold fR.f at H
 refine aR (ad aW (h:=ad aW (h:=cP (ad ar (h:=s' (ae (l0.length : Int)) (cO Tryz.underlying29 rfl) ?_)))))
 obtain⟨u,S,H⟩:=bj H
 refine bP (ae u) (bo (v:=ae u) (congrArg (Value.int .i64) S.symm)) (h:=cP (ad ar (h:=ad aW (h:=ad aW (h:=bA (ao ?_))))))
 obtain⟨o,H,y⟩:=ac H
 refine bI (St [(0,.slice A0 l0.length c0),(1,ae a1),(6,ae u),(7,ae o)] [gf 3 A0 c0 l0]) ?_ ?_
 ·refine aQ (cj (fun k_ e ds As=>∃ (c : Int) (d : Int),fR.l0 l0 a1 k_ c d = some o∧St [(0,.slice A0 l0.length c0),(1,ae a1),(6,ae u),(7,ae c),(8,ae d)] [gf 3 A0 c0 l0] e ds As) (k:=k) ⟨_,_,H,jV [0]⟩ ?_)
  clear H
  rintro s e ds As ⟨c,d,H,K⟩
  obtain _ | s:=s
  ·cases H
  rw [fR.l0] at H
  refine SA.of_St K fun junk=>ao (aR (ad ar (h:=ad ar (h:=ad (ce rfl rfl) (h:=bA ?_)))))
  rcases bE H with⟨I,H⟩|⟨I,H⟩
  ·refine aC rfl I (ap (aa (aQ (aR (ad ar (h:=ad ar (h:=ad (bW rfl rfl) (h:=bP (.int .u64 (IntKind.u64.wrap (i64.wrap (c + d)))) (jQ (T:=3) (by kernel_rfl) Tryz.underlying146 rfl) (h:=bP (.int .u64 (gR .u64 (IntKind.u64.wrap (i64.wrap (c + d))) 1)) (vG rfl rfl (by decide)) (h:=s' (ae (i64.wrap (gR .u64 (IntKind.u64.wrap (i64.wrap (c + d))) 1))) (jQ (T:=146) (by kernel_rfl) Tryz.underlying3 rfl) ?_))))))))))
   obtain⟨n7,U,H⟩:=bj H
   refine bP (ae n7) (bo (v:=ae n7) (congrArg (Value.int .i64) U.symm)) (h:=cP (ad ar (h:=S' ar ?_)))
   obtain⟨⟨O,R⟩,H⟩:=aO H
   refine bp (bu (i:=n7) Tryz.underlying29 jl rfl rfl (Src.buf (k:=0) rfl) O R) (h:=bp (bJ (enc:=(fun x_ : Int=>[Value.int .i64 x_])) (i:=n7) (j:=n7.toNat * 1) (m:=0) (sz:=1) Tryz.underlying3 rfl rfl rfl rfl (Src.buf (k:=0) rfl) O R (fun _ _ h=>h) rfl) (h:=S' ar ?_))
   obtain⟨Z,L,H⟩:=ac H
   refine o' (dc [] [0] (qO.ok L) ?_)
   refine bA ?_
   rcases bE H with⟨p,H⟩|⟨p,H⟩
   ·refine aD rfl p (ak (ad ar (h:=S' (bW rfl rfl) ?_)))
    obtain⟨n12,J,H⟩:=bj H
    refine bP (ae n12) (bo (v:=ae n12) (congrArg (Value.int .i64) J.symm)) (h:=ah (aF ?_))
    exact aa ⟨s,Nat.lt_succ_self _,_,_,H,dZ [0]⟩
   refine aE rfl p (ak (ad ar (h:=ad aW (h:=ah (aF ?_)))))
   exact aa ⟨s,Nat.lt_succ_self _,_,_,H,dZ [0]⟩
  refine aB rfl I (cf (aX (aX (cg ?_))))
  have h:=aN H;subst h
  exact bK [0]
 rintro e ds As q
 clear H
 have H:=y
 clear y
 refine aa (SA.of_St q fun junk=>aR (ad ar (h:=ad ar (h:=ad ar (h:=ad (ce rfl rfl) (h:=S' ar ?_))))))
 obtain⟨Y,H,F⟩:=ac H
 refine dy 18 [(31,ae o),(53,.bool Y)] [gf 3 A0 c0 l0] ?_ fun junk=>?_
 ·rcases bE H with⟨a,H⟩|⟨a,H⟩
  ·refine bf (ai a) ar (h:=Y' (ai a) ar ?_)
   obtain⟨⟨z,B⟩,H⟩:=aO H
   refine cE (ai a) (bu (i:=o) Tryz.underlying29 jl rfl rfl (Src.buf (k:=0) rfl) z B) (h:=cE (ai a) (bJ (enc:=(fun x_ : Int=>[Value.int .i64 x_])) (i:=o) (j:=o.toNat * 1) (m:=0) (sz:=1) Tryz.underlying3 rfl rfl rfl rfl (Src.buf (k:=0) rfl) z B (fun _ _ h=>h) rfl) (h:=bf (ai a) ar (h:=bf (ai a) (bk rfl rfl) (h:=Y' (ai a) ar ?_))))
   rcases bE H with⟨b,H⟩|⟨b,H⟩
   ·refine cu 6 (ai b) (fY (fY (cu 1 (ai b) (fT (ai a) (dr rfl (bS rfl (ai b) rfl) (gN (ai a) ?_))))))
    have h:=aN H;subst h
    exact dL [0]
   refine bf (am b) ar (h:=Y' (am b) ar ?_)
   obtain⟨⟨D,E⟩,H⟩:=aO H
   refine cE (am b) (bu (i:=o) Tryz.underlying29 jl rfl rfl (Src.buf (k:=0) rfl) D E) (h:=z' (am b) (bJ (enc:=(fun x_ : Int=>[Value.int .i64 x_])) (i:=o) (j:=o.toNat * 1) (m:=0) (sz:=1) Tryz.underlying3 rfl rfl rfl rfl (Src.buf (k:=0) rfl) D E (fun _ _ h=>h) rfl) ?_)
   obtain⟨a0,N,H⟩:=ac H
   refine fT (am b) (dc [] [0] (pO.ok N) ?_)
   refine Y' (am b) ar ?_
   rcases bE H with⟨l,H⟩|⟨l,H⟩
   ·refine Y' l ar ?_
    obtain⟨a2,M,H⟩:=ac H
    refine fT l (dc [] [0] (pO.ok M) ?_)
    refine fT (am b) (dr rfl (bS rfl (l) rfl) (fT (ai a) (dr rfl (bR rfl (am b) rfl) (gN (ai a) ?_))))
    have h:=aN H;subst h
    exact dL [0]
   refine cu 2 (aM l) (fT (am b) (dr rfl (bR rfl (aM l) rfl) (fT (ai a) (dr rfl (bR rfl (am b) rfl) (gN (ai a) ?_)))))
   have h:=aN H;subst h
   exact dL [0]
  refine cu 7 (am a) (fY (fY (fY (fY (fY (fY (fY (fY (fY ?_)))))))))
  refine cu 1 (am a) (fZ (am a) ?_)
  have h:=aN H;subst h
  exact dL [0]
 replace H:=F
 refine ad aW (h:=ad aW (h:=cC ?_))
 have h:=aN H;subst h
 exact xF [gf 3 A0 c0 l0] rfl rfl rfl (eZ [0]) ⟨rfl,rfl⟩


def io.f (k : Nat) (p0 : aJ) : Option (aJ):=if p0.f1 = p0.f5 then ((de.f k p0 p0.f5 p0.f6 (-1) p0.f4).bind (fun a=>some (a))) else (if p0.f1 > 0 then (some (({ p0 with f1:=(i64.wrap (p0.f1 - 1)) }))) else (some (p0)))
theorem io.ok {p0 : aJ} {r : aJ} (H : io.f k p0 = some r) : dk Tryz.prog 126 #[.agg #[.pointer (some ⟨bg,0,none⟩)]] (cN bg p0 af ag ay az au av aw ax) (fun v B=>∃ P0_0_ q0_0_ P0_1_ q0_1_ P0_2_ q0_2_ P0_3_ q0_3_,v = .tuple #[]∧B = (cN bg r P0_0_ q0_0_ P0_1_ q0_1_ P0_2_ q0_2_ P0_3_ q0_3_)):=by
 refine aj Tryz.func126 rfl rfl ?_
 unfold io.f at H
 refine aR (o' (bO (h:=fun F=>bA (aQ (ao ?_)))))
 refine fj (dt 0 12) [0,5] (dt 1 4) fun _ _ _ _ _ sH dd pk=>?_
 refine bc 0 rfl sH aA (h:=bQ 1 rfl sH (aP 1) (h:=bc 2 rfl sH cI (h:=bc 3 rfl sH aA (h:=bQ 4 rfl sH (aP 0) (h:=bc 5 rfl sH aA (h:=bQ 6 rfl sH (aP 1) (h:=bc 7 rfl sH cI (h:=bc 8 rfl sH aA (h:=r' 9 rfl sH (aP 0) ?_)))))))))
 refine bc 10 rfl sH (bk rfl rfl) (h:=bc 11 rfl sH aW (h:=aV dd sH (aI (by kernel_rfl) (aa ?_))))
 rcases bE H with⟨b,H⟩|⟨b,H⟩
 ·refine aC rfl b (bM 2 fun u=>bM 3 fun y=>bM 4 fun z=>bM 5 fun D=>?_)
  refine fj (dt 0 19) [0,1] (dt 2 4) fun _ _ _ _ _ sH dd pk=>?_
  refine bc 0 rfl sH aA (h:=bQ 1 rfl sH (aP 1) (h:=bc 2 rfl sH cI (h:=bc 3 rfl sH aA (h:=bc 4 rfl sH aA (h:=bQ 5 rfl sH (aP 1) (h:=bc 6 rfl sH cI (h:=bc 7 rfl sH aA (h:=bQ 8 rfl sH (aP 0) (h:=T' 9 rfl sH aA ?_)))))))))
  refine bQ 10 rfl sH (aP 1) (h:=bc 11 rfl sH cI (h:=bc 12 rfl sH aA (h:=bQ 13 rfl sH (aP 0) (h:=bc 14 rfl sH aA (h:=bQ 15 rfl sH (aP 1) (h:=bc 16 rfl sH cI (h:=bc 17 rfl sH aA (h:=bQ 18 rfl sH (cz bg 6 0 (bF p0.f4)) (h:=aV dd sH ?_)))))))))
  obtain⟨E,m,H⟩:=ac H
  refine eC 19 rfl (ed [0,2,3,4,5] [1] (de.ok (bg:=bg) m) fun c o d p j q l s=>?_)
  refine aI (by kernel_rfl) (aF ?_)
  have h:=aN H;subst h
  exact fG [0,1,2,3,4] ⟨c,o,d,p,j,q,l,s,rfl,rfl⟩
 refine aB rfl b (aR (ad aA (h:=bp (aP 1) (h:=ad cI (h:=ad aA (h:=bp (aP 0) (h:=ad (eK rfl rfl) (h:=ad aW (h:=bA ?_)))))))))
 rcases bE H with⟨a,H⟩|⟨a,H⟩
 ·refine aC rfl a (ak (ad aA (h:=bp (aP 1) (h:=ad cI (h:=ad aA (h:=bp (aP 0) (h:=ad (cT rfl rfl) (h:=ad cI (h:=S' aA ?_)))))))))
  refine o' (cF 0 [ae (i64.wrap (p0.f1 - 1))] (h:=(ah (aF ?_))))
  have h:=aN H;subst h
  exact fG [0,2,3,4,5] ⟨af,ag,ay,az,au,av,aw,ax,rfl,rfl⟩
 refine aB rfl a (ap (aF ?_))
 have h:=aN H;subst h
 exact fG [0,2,3,4,5] ⟨af,ag,ay,az,au,av,aw,ax,rfl,rfl⟩

end Go.Proofs.YtckilbegmbaeeaaGreat.Z6

/- What functions compute, and that they do: 114, 57, 59, 72Lb_0_, 73Lb_0_. -/
import Derived.Test.YtckilbegmbaeeaaGreatZ36
namespace Go.Proofs.YtckilbegmbaeeaaGreat.Z3
open Go Go.RowKit Go.Proofs.YtckilbegmbaeeaaGreat.SL
open Go.IntKind (i64)
set_option linter.unusedVariables false
set_option maxHeartbeats 20000000
set_option maxRecDepth 100000
set_option linter.unusedSimpArgs false
attribute [local irreducible] IntKind.wrap cC dO eX gp gl lH fU cN gm rd sub bytesOf eG cL
variable {ba gV af ay ar au dU k : Nat}
variable {ag az aw av dT : Option Addr}
def iK.f (k : Nat) (p0 : aG) (a1 : Int) : Option (aG):=(lZ.f k a1).bind (fun h=>if h ≤ 0 then (if h = 0 then ((iz.f k p0 a1).bind (fun z=>some (z))) else (some (p0))) else (lt (p0.f3 && p0.f8) fun B=>(if B = true then ((eS.f k ({ p0 with f2:=0 })).bind (fun D=>some D)) else (some p0) : Option (aG)).bind (fun d=>(if h = 2 then ((de.f ({ d with f3:=false })).bind (fun q=>some (decide (d.f2 = q)))) else (some false) : Option (Bool)).bind (fun E=>(if E = true then ((if (!d.f8) = true then (some true) else ((de.f ({ d with f3:=false })).bind (fun r=>some (decide (r = 0)))) : Option Bool).bind (fun s=>if s = true then (some (Out.ret (({ d with f3:=false })))) else ((eS.f k ({ d with f2:=0,f3:=false })).bind (fun u=>some (Out.go u))))) else (some (Out.go ({ d with f3:=false }))) : Option (Out (aG) (aG))).bind (fun y=>Out.el y (fun r_=>some r_) (fun a=>(dP.f a).bind (fun b=>if (0 ≤ b.1∧0 ≤ b.2∧b.1 + b.2 ≤ (a.f0.f2.length : Int)) then ((if a.f10 = true then ((iY.f k a.f0.f2 b.1 b.2 a.f2 h a.f4).bind (fun l=>if l.length = a.f0.f2.length then (some l) else none)) else (some a.f0.f2) : Option ((List aZ))).bind (fun j=>if j.length = a.f0.f2.length then ((qq.f k a1 a.f4).bind (fun m=>(ib.f k j b.1 b.2 a.f2 m).bind (fun c=>if c.length = j.length then ((de.f ({ a with f0:=(bF.mk a.f0.f0 a.f0.f1 c),f2:=(i64.wrap (a.f2 + h)) })).bind (fun o=>if (i64.wrap (a.f2 + h)) > o then ((de.f ({ a with f0:=(bF.mk a.f0.f0 a.f0.f1 c),f2:=(i64.wrap (a.f2 + h)) })).bind (fun p=>some (({ a with f0:=(bF.mk a.f0.f0 a.f0.f1 c),f2:=p,f3:=true })))) else (some (({ a with f0:=(bF.mk a.f0.f0 a.f0.f1 c),f2:=(i64.wrap (a.f2 + h)) }))))) else none))) else none)) else none)))))))
theorem iK.ok {p0 : aG} {a1 : Int} {r : aG} (H : iK.f k p0 a1 = some r) : df Tryz.prog 73 #[.agg #[.pointer (some ⟨ba,0,none⟩)],aJ a1] (cK ba p0 ag af az ay aw ar av au) (fun v B=>∃ P0_0_ q0_0_ P0_1_ q0_1_ P0_2_ q0_2_ P0_3_ q0_3_,v = .tuple #[]∧B = (cK ba r P0_0_ q0_0_ P0_1_ q0_1_ P0_2_ q0_2_ P0_3_ q0_3_)):=by
 refine ai Tryz.func73 rfl rfl ?_
 unfold iK.f at H
 refine aQ (o' (bN (h:=fun c=>cV (S' ax ?_))))
 obtain⟨O,c7,H⟩:=ac H
 refine o' (da [] [0,1,2,3,4,5] (lZ.ok c7) ?_)
 refine ad aV (h:=eJ (ad ax (h:=ad (fV rfl rfl) (h:=bC ?_))))
 rcases bH H with⟨h9,H⟩|⟨h9,H⟩
 ·refine aB rfl h9 (ao (aQ (ad ax (h:=ad (bk rfl rfl) (h:=bC ?_)))))
  rcases bH H with⟨b2,H⟩|⟨b2,H⟩
  ·refine aB rfl b2 (bj 1 fun j6=>bj 2 fun j7=>bj 3 fun j8=>bj 4 fun j9=>ah (bD (cG c 0 5 [aK ba]) (h:=S' ax ?_)))
   obtain⟨g8,g9,H⟩:=ac H
   refine o' (dN [0,1,2,3,4] [5] (iz.ok (ba:=ba) g9) fun d9 e0 e1 e2 e3 e4 e5 e6=>?_)
   refine cE ?_
   have h:=aN H;subst h
   exact kT (cK ba g8 d9 e0 e1 e2 e3 e4 e5 e6) rfl (eY [0,1,2,3,4]) ⟨d9,e0,e1,e2,e3,e4,e5,e6,rfl,rfl⟩
  refine aA rfl b2 (ap (aa (fa (aI ?_))))
  have h:=aN H;subst h
  exact kT (cK ba p0 ag af az ay aw ar av au) rfl (eY [0,1,2,3,4]) ⟨ag,af,az,ay,aw,ar,av,au,rfl,rfl⟩
 refine aA rfl h9 (ap (aa (ao (aQ (ad aE (h:=bD (aT 5) (h:=ad cz (h:=ad aE (h:=bD (aT 0) (h:=S' ax ?_))))))))))
 obtain⟨h0,b3,H⟩:=br H
 refine cD 6 (St [(1,aJ a1),(2,aK c),(4,ae O),(26,.bool h0)] (aL ba 34 (al p0 ag af az ay aw ar av au)::(aS p0 ag af az ay aw ar av au++[aL c 84 [aK ba]]))) ?_ ?_
 ·by_cases M : p0.f3 = true
  ·refine bn M aE (h:=dc M (aT 5) (h:=bn M cz (h:=bn M aE (h:=dc M (aT 0) (h:=cq M (h:=aj ?_))))))
   have x_:=gD b3 M;exact bM [0,1,2,3,4,5]
  refine cI 5 (aX M) (cv (aX M) (h:=aj ?_))
  have x_:=gC b3 ((aX M));exact bM [0,1,2,3,4,5]
 rintro e ds As c8
 refine bC (SA.of_St c8 fun junk=>?_)
 obtain⟨L,H,b4⟩:=ac H
 refine bI (fun e ds As=>∃ (y : Option Addr) (z : Nat),∃ (D : Option Addr) (E : Nat),∃ (F : Option Addr) (I : Nat),∃ (J : Option Addr) (K : Nat),St [(1,aJ a1),(2,aK c),(4,ae O)] (aL ba 34 (al L y z D E F I J K)::(aS L y z D E F I J K++[aL c 84 [aK ba]])) e ds As) ?_ ?_
 ·rcases bH H with⟨b5,H⟩|⟨b5,H⟩
  ·refine aC rfl b5 (aQ (ad aE (h:=bD (aT 5) (h:=ad cz (h:=ad aE (h:=o' (cH 0 [ae 0] (h:=(bC (bj 1 fun k0=>bj 2 fun k1=>?_))))))))))
   refine bj 3 fun k2=>bj 4 fun k3=>ah (l' (cG c 0 5 [aK ba]) ?_)
   obtain⟨k9,h1,H⟩:=ac H
   refine o' (dN [0,1,2,3,4] [5] (eS.ok (ba:=ba) h1) fun h3 h4 h5 h6 h7 h8 i0 i1=>?_)
   refine aj ?_
   have h:=aN H;subst h
   exact aa ⟨h3,h4,h5,h6,h7,h8,i0,i1,ed [0,1,2,3,4,5]⟩
  refine aD rfl b5 (ap ?_)
  have h:=aN H;subst h
  exact aa ⟨ag,af,az,ay,aw,ar,av,au,ed [0,1,2,3,4,5]⟩
 rintro e ds As ⟨y,z,D,E,F,I,J,K,c9⟩
 clear H
 have H:=b4
 clear b4
 refine aa (SA.of_St c9 fun junk=>aQ (ad aE (h:=bD (aT 5) (h:=ad cz (h:=ad aE (h:=o' (cH 0 [.bool false] (h:=(bC (ao (ao ?_)))))))))))
 obtain⟨i2,H,b7⟩:=ac H
 refine bI (St [(1,aJ a1),(2,aK c),(4,ae O),(48,.bool i2)] (aL ba 34 (al ({ L with f3:=false }) y z D E F I J K)::(aS L y z D E F I J K++[aL c 84 [aK ba]]))) ?_ ?_
 ·refine bj 1 fun k4=>bj 2 fun k5=>bj 3 fun k6=>bj 4 fun k7=>?_
  refine fN (dG 0 12) #[[],[0],[0,1],[0,1,2],(dG 0 4),(dG 0 5),(dG 0 6),(dG 0 7),[0,1,2],[0,1,2,8],(dG 0 10),(dG 0 11)] [aL ba 34 (al ({ L with f3:=false }) y z D E F I J K),aL c 84 [aK ba]] jy (bP.thn (bP.thn (bP.thn bP.body))) fun I0 i3 w0 pk=>?_
  refine eb (ae O) 0 [0,5] rfl fM (h:=eb (.bool (decide (O = 2))) 1 [0,5] rfl (bk rfl rfl) (h:=vU (.bool (decide (O = 2))) 2 [0,5] rfl fM ?_))
  rcases bH H with⟨b,H⟩|⟨b,H⟩
  ·refine jj (v:=aK c) 3 [0,5] (by kernel_rfl) rfl rfl (.yes rfl rfl rfl rfl (ak b)) pk rfl rfl rfl (VR.ofV (kB c 0 0)) (jj 4 [0,5] (by kernel_rfl) rfl rfl (.yes rfl rfl rfl rfl (ak b)) pk rfl rfl rfl (ig c 0 1) (jj (v:=aK ba) 5 [0,5] (by kernel_rfl) rfl rfl (.yes rfl rfl rfl rfl (ak b)) pk rfl rfl rfl (VR.ofV cz) (jj (v:=qF ba 4) 6 [0,5] (by kernel_rfl) rfl rfl (.yes rfl rfl rfl rfl (ak b)) pk rfl rfl rfl (VR.ofV (kB ba 0 4)) (jj 7 [0,5] (by kernel_rfl) rfl rfl (.yes rfl rfl rfl rfl (ak b)) pk rfl rfl rfl (ig ba 4 0) (jj 8 [0,5] (by kernel_rfl) rfl rfl (.yes rfl rfl rfl rfl (ak b)) pk rfl rfl rfl (cG c 0 1 [aK ba]) ?_)))))
   obtain⟨e7,e8,H⟩:=ac H
   refine eU 9 (by kernel_rfl) rfl (.yes rfl rfl rfl rfl (ak b)) (da [0,1,2,3,4] [5] (de.ok (ba:=ba) e8) ?_)
   refine ⟨fun _=>⟨[0,5],rfl,rfl⟩,?_⟩
   refine jj (v:=.bool (decide (L.f2 = e7))) 10 [0,5] (by kernel_rfl) rfl rfl (.yes rfl rfl rfl rfl (ak b)) pk rfl rfl rfl (VR.ofV (bk rfl rfl)) (gY 11 [0,5] rfl (VR.ofV (bX rfl (ak b) rfl)) (h:=aH (by kernel_rfl) ?_))
   have h:=aN H;subst h
   exact bM [0,1,2,3,4,5]
  refine jK 3 [0,5] (by kernel_rfl) rfl rfl (.no rfl rfl rfl rfl (am b)) pk rfl rfl rfl (jK 4 [0,5] (by kernel_rfl) rfl rfl (.no rfl rfl rfl rfl (am b)) pk rfl rfl rfl (jK 5 [0,5] (by kernel_rfl) rfl rfl (.no rfl rfl rfl rfl (am b)) pk rfl rfl rfl (jK 6 [0,5] (by kernel_rfl) rfl rfl (.no rfl rfl rfl rfl (am b)) pk rfl rfl rfl (jK 7 [0,5] (by kernel_rfl) rfl rfl (.no rfl rfl rfl rfl (am b)) pk rfl rfl rfl (jK 8 [0,5] (by kernel_rfl) rfl rfl (.no rfl rfl rfl rfl (am b)) pk rfl rfl rfl (jK 9 [0,5] (by kernel_rfl) rfl rfl (.no rfl rfl rfl rfl (am b)) pk rfl rfl rfl (jK 10 [0,5] (by kernel_rfl) rfl rfl (.no rfl rfl rfl rfl (am b)) pk rfl rfl rfl (gY 11 [0,5] rfl (VR.ofV (bY rfl (am b) rfl)) (h:=aH (by kernel_rfl) ?_)))))))))
  have h:=aN H;subst h
  exact bM [0,1,2,3,4,5]
 rintro e ds As b8
 clear H
 have H:=b7
 clear b7
 refine aa (SA.of_St b8 fun junk=>?_)
 obtain⟨e9,H,R⟩:=ac H
 refine bI (fun e ds As=>∃ (a : aG),e9 = Out.go a∧∃ (d : Option Addr) (j : Nat),∃ (m : Option Addr) (o : Nat),∃ (p : Option Addr) (q : Nat),∃ (s : Option Addr) (u : Nat),St [(1,aJ a1),(2,aK c),(4,ae O)] (aL ba 34 (al a d j m o p q s u)::(aS a d j m o p q s u++[aL c 84 [aK ba]])) e ds As) ?_ ?_
 ·rcases bH H with⟨a2,H⟩|⟨a2,H⟩
  ·refine aC rfl a2 (ao (ao (bj 1 fun i6=>bj 2 fun i7=>bj 3 fun i8=>bj 4 fun i9=>ah (ad aE (h:=bD (aT 5) (h:=S' cz ?_))))))
   refine ad aE (h:=bD (aT 0) (h:=ad (ca rfl) (h:=S' ax ?_)))
   obtain⟨f5,H,a7⟩:=ac H
   refine cD 4 (St [(1,aJ a1),(2,aK c),(4,ae O),(59,.bool f5)] (aL ba 34 (al ({ L with f3:=false }) y z D E F I J K)::(aS L y z D E F I J K++[aL c 84 [aK ba]]))) ?_ ?_
   ·rcases bH H with⟨N,H⟩|⟨N,H⟩
    ·refine cI 3 N (ii N ?_)
     have h:=aN H;subst h
     exact dV [0,1,2,3,4,5]
    refine z' (aX N) (cG c 0 5 [aK ba]) ?_
    obtain⟨k8,f6,H⟩:=ac H
    refine gE (aX N) (da [0,1,2,3,4] [5] (de.ok (ba:=ba) f6) ?_)
    refine bn (aX N) (bk rfl rfl) (h:=gL (aX N) ?_)
    have h:=aN H;subst h
    exact dV [0,1,2,3,4,5]
   rintro e ds As b9
   clear H
   have H:=a7
   clear a7
   refine bC (SA.of_St b9 fun junk=>?_)
   rcases bH H with⟨a3,H⟩|⟨a3,H⟩
   ·refine aC rfl a3 (fa (aI (aI (aI ?_))))
    have h:=aN H;subst h
    have hb_:=dS R
    have hr_:=Option.some.inj hb_
    clear hb_
    subst hr_
    exact kT (aL ba 34 (al ({ L with f3:=false }) y z D E F I J K)::aS L y z D E F I J K) rfl (eY [0,1,2,3,4]) ⟨y,z,D,E,F,I,J,K,rfl,rfl⟩
   refine aD rfl a3 (ap (aa (aQ (ad aE (h:=bD (aT 5) (h:=ad cz (h:=ad aE (h:=o' (cH 0 [ae 0] (h:=(bC (ah (l' (cG c 0 5 [aK ba]) ?_)))))))))))))
   obtain⟨f8,f9,H⟩:=ac H
   refine o' (dN [0,1,2,3,4] [5] (eS.ok (ba:=ba) f9) fun g0 g1 g2 g3 g4 g5 g6 g7=>?_)
   refine aj ?_
   have h:=aN H;subst h
   exact aa ⟨f8,rfl,g0,g1,g2,g3,g4,g5,g6,g7,ed [0,1,2,3,4,5]⟩
  refine aD rfl a2 (ap ?_)
  have h:=aN H;subst h
  exact aa ⟨({ L with f3:=false }),rfl,y,z,D,E,F,I,J,K,ed [0,1,2,3,4,5]⟩
 rintro e ds As ⟨a,ht,d,j,m,o,p,q,s,u,c5⟩
 clear H
 subst ht
 replace R:=fW R
 have H:=R
 clear R
 refine aa (SA.of_St c5 fun junk=>ao (bj 1 fun j0=>bj 2 fun j1=>bj 3 fun j2=>bj 4 fun j3=>ah (l' (cG c 0 5 [aK ba]) ?_)))
 obtain⟨S,d0,H⟩:=ac H
 obtain⟨⟨hl841a,hl841b,hl841c⟩,H⟩:=aR H
 refine o' (mC [0,1,2,3,4] [5] (dP.ok (ba:=ba) d0) ?_)
 rintro _ _⟨a4,a5,a8,rfl,rfl⟩
 refine ad aV (h:=eJ (ad aE (h:=bD (aT 5) (h:=ad cz (h:=ad aE (h:=bD (aT 0) (h:=bC ?_)))))))
 obtain⟨c6,H,a9⟩:=ac H
 refine bI (St [(1,aJ a1),(2,aK c),(4,ae O),(5,.slice a4 S.2.toNat a5)] [aL ba 34 (al ({ a with f0:=(bF.mk a.f0.f0 a.f0.f1 c6) }) d j m o p q s u),Buf bE 55 d j c6,fm 3 m o a.f7,Buf bE 55 p q a.f16.f2,jf 21 s u a.f17,aL c 84 [aK ba]]) ?_ ?_
 ·rcases bH H with⟨a6,H⟩|⟨a6,H⟩
  ·refine aC rfl a6 ?_
   refine fk (dG 0 12) [0,5] (dG 1 4) fun _ _ _ _ _ sH dd pk=>?_
   refine bf 0 rfl sH ax (h:=bf 1 rfl sH aE (h:=bT 2 rfl sH (aT 1) (h:=bf 3 rfl sH cz (h:=bf 4 rfl sH aE (h:=bT 5 rfl sH (aT 0) (h:=bf 6 rfl sH ax (h:=bf 7 rfl sH aE (h:=bT 8 rfl sH (aT 1) (h:=T' 9 rfl sH cz ?_)))))))))
   refine bf 10 rfl sH aE (h:=r' 11 rfl sH (cG ba 6 0 (bG a.f4)) ?_)
   obtain⟨j4,d1,H⟩:=ac H
   obtain⟨Z,H⟩:=aR H
   refine dx 12 rfl dd (da [0] [1,2,3] (iY.ok (o0:=S.1) (n0:=S.2) (A0:=d) (c0:=j) (V0:=a4) (v0:=a5) (hw0:=a8) d1) ?_)
   try unfold cK
   try unfold kD
   try unfold al
   try rewrite [← Z]
   try unfold cK at sH
   try unfold kD at sH
   try unfold al at sH
   try rewrite [← Z] at sH
   refine aW dd sH (aH (by kernel_rfl) ?_)
   have h:=aN H;subst h
   exact bM [0,2,3,4,5,1]
  refine aD rfl a6 (ap ?_)
  have h:=aN H;subst h
  exact bM [0,1,2,3,4,5]
 rintro e ds As b1
 clear H
 have H:=a9
 clear a9
 obtain⟨i4,H⟩:=aR H
 refine aa (SA.of_St b1 fun junk=>ao ?_)
 refine fk (dG 0 12) [0,5] (dG 1 4) fun _ _ _ _ _ sH dd pk=>?_
 refine bf 0 rfl sH ax (h:=bf 1 rfl sH aE (h:=bT 2 rfl sH (aT 1) (h:=bf 3 rfl sH cz (h:=bf 4 rfl sH aE (h:=bT 5 rfl sH (aT 0) (h:=bf 6 rfl sH ax (h:=bf 7 rfl sH aE (h:=bT 8 rfl sH (aT 1) (h:=T' 9 rfl sH cz ?_)))))))))
 refine bf 10 rfl sH aE (h:=r' 11 rfl sH (cG ba 6 0 (bG a.f4)) ?_)
 obtain⟨j5,d2,H⟩:=ac H
 refine dx 12 rfl dd (gu [] [0,1,2,3] (qq.ok d2) fun d3 d4=>?_)
 obtain⟨U,d5,H⟩:=ac H
 obtain⟨a0,H⟩:=aR H
 refine dx 13 rfl dd (da [1,0] [2,3,4] (ib.ok (o0:=S.1) (n0:=S.2) (A0:=d) (c0:=j) (V0:=a4) (v0:=a5) (hw0:=a8) (A2:=d3) (c2:=d4) d5) ?_)
 try unfold cK
 try unfold kD
 try unfold al
 try rewrite [← a0]
 try unfold cK at sH
 try unfold kD at sH
 try unfold al at sH
 try rewrite [← a0] at sH
 refine aW dd sH (aH (by kernel_rfl) (aa (aQ (ad aE (h:=bD (aT 1) (h:=ad cz (h:=ad aE (h:=bD (aT 0) (h:=ad ax (h:=S' (bV rfl rfl) ?_))))))))))
 refine ad cz (h:=ad aE (h:=o' (cH 0 [ae (i64.wrap (a.f2 + O))] (h:=(bC (ao (bj 3 fun i5=>?_)))))))
 refine fN [0,1,2,3,4,5,7] #[[],[0],[0,1],[0,1,2],(dG 0 4),[],[5],(dG 0 6)] [aL ba 34 (al ({ a with f0:=(bF.mk a.f0.f0 a.f0.f1 U),f2:=(i64.wrap (a.f2 + O)) }) d j m o p q s u),aL c 84 [aK ba]] jy (bP.thn bP.body) fun I0 i3 w0 pk=>?_
 refine eb (aK c) 0 [0,1] rfl (kB c 0 0) (h:=gY 1 [0,1] rfl (ig c 0 1) (h:=eb (aK ba) 2 [0,1] rfl cz (h:=eb (qF ba 4) 3 [0,1] rfl (kB ba 0 4) (h:=gY 4 [0,1] rfl (ig ba 4 0) (h:=sA 5 [0,1] rfl (cG c 0 1 [aK ba]) ?_)))))
 obtain⟨b0,d6,H⟩:=ac H
 refine eU 6 (by kernel_rfl) rfl (.no rfl) (da [0,2,4,5,6] [1,3] (de.ok (ba:=ba) d6) ?_)
 refine ⟨fun _=>⟨[0,5],rfl,rfl⟩,?_⟩
 refine eb (.bool (decide ((i64.wrap (a.f2 + O)) > b0))) 7 [0,5] rfl (eR rfl rfl) (h:=aH (by kernel_rfl) (aa (SA.of_St (l:=[(2,aK c),(116,.bool (decide ((i64.wrap (a.f2 + O)) > b0)))]) (B:=[aL ba 34 (al ({ a with f0:=(bF.mk a.f0.f0 a.f0.f1 U),f2:=(i64.wrap (a.f2 + O)) }) d j m o p q s u),Buf bE 55 d j U,fm 3 m o a.f7,Buf bE 55 p q a.f16.f2,jf 21 s u a.f17,aL c 84 [aK ba]]) (St.mk1 (cJ rfl (cJ rfl dQ)) (Gh.sel [0,1,2,3,4,5] (by kernel_rfl) (by kernel_rfl))) fun junk=>?_)))
 rcases bH H with⟨Y,H⟩|⟨Y,H⟩
 ·refine aB rfl Y ?_
  refine fk [0,1,2,3,4,6,7,9,10] [5] (dG 0 5) fun _ _ _ _ _ sH dd pk=>?_
  refine bf 0 rfl sH aE (h:=bT 1 rfl sH (aT 0) (h:=bf 2 rfl sH aE (h:=bT 3 rfl sH (aT 0) (h:=r' 4 rfl sH (cG c 0 0 [aK ba]) ?_))))
  obtain⟨d7,d8,H⟩:=ac H
  refine dx 5 rfl dd (da [0,1,2,3,4] [] (de.ok (ba:=ba) d8) ?_)
  refine bf 6 rfl sH cz (h:=bf 7 rfl sH aE (h:=dx 8 rfl dd (cH 0 [ae d7] (h:=(bf 9 rfl sH cz (h:=bf 10 rfl sH aE (h:=dx 11 rfl dd (cH 0 [.bool true] (h:=(aW dd sH (aH (by kernel_rfl) ?_)))))))))))
  have h:=aN H;subst h
  exact fD [1,2,3,4,5] ⟨d,j,m,o,p,q,s,u,rfl,rfl⟩
 refine aA rfl Y (ap ?_)
 have h:=aN H;subst h
 exact fD [0,1,2,3,4] ⟨d,j,m,o,p,q,s,u,rfl,rfl⟩


def kx.f (k : Nat) (p0 : aG) (p1 : Int) : Option (aG):=(iK.f k p0 p1).bind (fun a=>some (a))
theorem kx.ok {p0 : aG} {p1 : Int} {r : aG} (H : kx.f k p0 p1 = some r) : df Tryz.prog 72 #[.agg #[.pointer (some ⟨ba,0,none⟩)],.pointer (some ⟨gV,0,none⟩)] (aL ba 34 (al p0 ag af az ay aw ar av au)::(aS p0 ag af az ay aw ar av au++[aL gV 21 [aJ p1]])) (fun v B=>∃ P0_0_ q0_0_ P0_1_ q0_1_ P0_2_ q0_2_ P0_3_ q0_3_,v = .tuple #[]∧B = (aL ba 34 (al r P0_0_ q0_0_ P0_1_ q0_1_ P0_2_ q0_2_ P0_3_ q0_3_)::(aS r P0_0_ q0_0_ P0_1_ q0_1_ P0_2_ q0_2_ P0_3_ q0_3_++[aL gV 21 [aJ p1]]))):=by
 refine ai Tryz.func72 rfl rfl ?_
 unfold kx.f at H
 refine aQ (o' (bN (h:=fun q=>bC (bj 1 fun z=>bj 2 fun s=>bj 3 fun u=>bj 4 fun y=>ah (bD (cG q 0 6 [aK ba]) (h:=l' (aT 5) ?_))))))
 obtain⟨D,a,H⟩:=ac H
 refine o' (dN [0,1,2,3,4] [5,6] (iK.ok (ba:=ba) a) fun b c d j l m o p=>?_)
 refine aj ?_
 have h:=aN H;subst h
 exact fD [0,1,2,3,4,5] ⟨b,c,d,j,l,m,o,p,rfl,rfl⟩


theorem zR.ok {a0 : bF} {r : Bool} (H : fJ.f k a0 = some r) : df Tryz.prog 57 #[.agg #[ae a0.f0,ae a0.f1,.slice ag a0.f2.length af]] [Ro bE ag af a0.f2] (fun v B=>v = .bool r∧B = []):=by
 refine ai Tryz.func57 rfl rfl ?_
 unfold fJ.f at H
 refine aQ (o' (bN (h:=fun s=>ad aV (h:=eJ (ad aE (h:=bD (aT 1) (h:=ad aE (h:=l' (aT 1) ?_))))))))
 obtain⟨r4,b0,H⟩:=ac H
 refine o' (da [] [0,1] (qH.ok b0) ?_)
 refine ad (ca rfl) (h:=S' ax ?_)
 obtain⟨q5,a4,H⟩:=br H
 refine cD 10 (St [(1,aK s),(23,.bool q5)] [aL s 26 [ae a0.f0,ae a0.f1,.slice ag a0.f2.length af],Ro bE ag af a0.f2]) ?_ ?_
 ·by_cases u : (!r4) = true
  ·refine cI 9 u (cq u (h:=aj ?_))
   have x_:=jL a4 u;exact bM [1,0]
  refine bn (aX u) aE (h:=dc (aX u) (aT 1) (h:=kQ (aX u) (ae (a0.f2.length : Int)) (dB Tryz.underlying24 rfl) (h:=bn (aX u) aE (h:=dc (aX u) (aT 1) (h:=bn (aX u) aE (h:=dc (aX u) (aT 1) (h:=bn (aX u) (jq rfl rfl) (h:=bn (aX u) (dK rfl rfl) (h:=gL (aX u) ?_)))))))))
  refine aj ?_
  have x_:=jN a4 ((aX u));exact bM [1,0]
 rintro e ds As a8
 refine bC (SA.of_St a8 fun junk=>?_)
 rcases bH H with⟨h8,H⟩|⟨h8,H⟩
 ·refine aC rfl h8 (aQ (ad aV (h:=cE ?_)))
  have h:=aN H;subst h
  exact er [] ⟨rfl,rfl⟩
 refine aD rfl h8 (ap (aa (aQ (bO (.agg (bR (aZ.mk 0 (fR.mk 0 0 0) 1 fQ)).toArray) dA (h:=o' (cy (h:=fun b9=>o' (bg b9 0 2 (bR (aZ.mk 0 (fR.mk 0 0 0) 1 fQ)) (h:=eJ (ad aE (h:=bD (aT 0) (h:=bO (ae (a0.f2.length : Int)) (dB Tryz.underlying24 rfl) (h:=S' ax ?_)))))))))))))
 refine bC ?_
 obtain⟨a5,H,D⟩:=ac H
 refine bI (fun e ds As=>∃ (I : aZ),a5 = Out.go I∧∃ (J : Nat),St [(3,aK J)] [aL J 55 (bR I)] e ds As) ?_ ?_
 ·refine aU (cw (fun k_ e ds As=>∃ (b : aZ) (a : Int),∃ (c : Nat),fJ.l0 a0 k_ b a = some a5∧St [(1,aK s),(3,aK c),(26,.slice ag a0.f2.length af),(27,ae (a0.f2.length : Int)),(28,ae a)] [aL s 26 [ae a0.f0,ae a0.f1,.slice ag a0.f2.length af],Ro bE ag af a0.f2,aL c 55 (bR b)] e ds As) (k:=k) ⟨_,_,b9,H,kW [0,1,2]⟩ ?_)
  clear H
  rintro K e ds As ⟨b,a,c,H,Z⟩
  obtain _ | K:=K
  ·cases H
  rw [fJ.l0] at H
  refine SA.of_St Z fun junk=>aQ (ad (cn rfl rfl) (h:=bC (ao ?_)))
  rcases bH H with⟨L,H⟩|⟨L,H⟩
  ·refine aB rfl L (ap (aa (ao (aU (aQ (S' ax ?_))))))
   obtain⟨⟨a6,a7⟩,H⟩:=aR H
   refine bD (bK (i:=a) Tryz.underlying24 cl rfl rfl (Src.ro (k:=1) rfl) a6 a7) (h:=bD (cj (enc:=di) (i:=a) (j:=a.toNat * 15) (m:=0) (sz:=15) (vs:=(bR (aZ.mk ((rd a0.f2 a).f0) ((rd a0.f2 a).f1) ((rd a0.f2 a).f2) ((rd a0.f2 a).f3)))) Tryz.underlying55 rfl cl rfl rfl rfl (Src.ro (k:=1) rfl) a6 a7 (fun _ _ h=>h) rfl) (h:=o' (cy (h:=fun d=>ad aV (h:=o' (bg d 0 3 (bR (aZ.mk ((rd a0.f2 a).f0) ((rd a0.f2 a).f1) ((rd a0.f2 a).f2) ((rd a0.f2 a).f3))) (h:=eJ (ad ax (h:=ad aE (h:=l' (aT 0) ?_))))))))))
   obtain⟨b1,H⟩:=aR H
   refine bO (ae (a.tmod a0.f0)) (oZ rfl rfl b1) (h:=ad (bk rfl rfl) (h:=S' ax ?_))
   obtain⟨b3,M,H⟩:=br H
   refine cD 4 (St [(1,aK s),(3,aK c),(4,ae a),(5,aK d),(26,.slice ag a0.f2.length af),(27,ae (a0.f2.length : Int)),(28,ae a),(42,.bool b3)] [aL s 26 [ae a0.f0,ae a0.f1,.slice ag a0.f2.length af],Ro bE ag af a0.f2,aL c 55 (bR b),aL d 55 (bR (aZ.mk ((rd a0.f2 a).f0) ((rd a0.f2 a).f1) ((rd a0.f2 a).f2) ((rd a0.f2 a).f3)))]) ?_ ?_
   ·by_cases E : (a.tmod a0.f0) = 0
    ·refine bn (ak E) aE (h:=dc (ak E) (aT 2) (h:=bn (ak E) (bk rfl rfl) (h:=cq (ak E) (h:=aj ?_))))
     have x_:=gD M ((ak E));exact bM [0,1,2,3]
    refine cI 3 (am E) (cv (am E) (h:=aj ?_))
    have x_:=gC M ((am E));exact bM [0,1,2,3]
   rintro e ds As a1
   refine bC (SA.of_St a1 fun junk=>?_)
   rcases bH H with⟨N,H⟩|⟨N,H⟩
   ·refine aC rfl N (aQ (ad aV (h:=cE (bi (aI (aI (bi (aI (aI ?_)))))))))
    have h:=aN H;subst h
    have hb_:=dS D
    have hr_:=Option.some.inj hb_
    clear hb_
    subst hr_
    exact er [] ⟨rfl,rfl⟩
   refine aD rfl N (ap (aa (aQ (ad aE (h:=bD (aT 3) (h:=ad (bk rfl rfl) (h:=S' ax ?_)))))))
   obtain⟨b4,O,H⟩:=br H
   refine eg 6 [(1,aK s),(3,aK c),(4,ae a),(5,aK d),(26,.slice ag a0.f2.length af),(27,ae (a0.f2.length : Int)),(28,ae a),(52,.bool b4)] [aL s 26 [ae a0.f0,ae a0.f1,.slice ag a0.f2.length af],Ro bE ag af a0.f2,aL c 55 (bR b),aL d 55 (bR (aZ.mk ((rd a0.f2 a).f0) ((rd a0.f2 a).f1) ((rd a0.f2 a).f2) ((rd a0.f2 a).f3)))] ?_ fun junk=>?_
   ·by_cases o : ((rd a0.f2 a).f2) = 0
    ·refine bn (ak o) aE (h:=dc (ak o) (cG d 5 3 (bG ((rd a0.f2 a).f3))) (h:=bn (ak o) aE (h:=dc (ak o) (cG c 5 2 (bG b.f3)) (h:=kQ (ak o) (.bool (decide (((rd a0.f2 a).f3) = b.f3))) (mb (xs:=(bG ((rd a0.f2 a).f3))) (ys:=(bG b.f3)) (r:=(((((rd a0.f2 a).f3).f0) == b.f3.f0) && (((((rd a0.f2 a).f3).f1) == b.f3.f1) && (((((rd a0.f2 a).f3).f2) == b.f3.f2) && (((((rd a0.f2 a).f3).f3) == b.f3.f3) && (((((rd a0.f2 a).f3).f4) == b.f3.f4) && (((((rd a0.f2 a).f3).f5) == b.f3.f5) && (((((rd a0.f2 a).f3).f6) == b.f3.f6) && (((((rd a0.f2 a).f3).f7) == b.f3.f7) && (((((rd a0.f2 a).f3).f8) == b.f3.f8) && (((((rd a0.f2 a).f3).f9) == b.f3.f9) && true))))))))))) (p:=((rd a0.f2 a).f3) = b.f3) ng rfl rfl (by kernel_rfl) (nh (x:=((rd a0.f2 a).f3)) (y:=b.f3))) (h:=cq (ak o) (h:=aj ?_))))))
     have x_:=gD O ((ak o));exact bM [0,1,2,3]
    refine cI 5 (am o) (cv (am o) (h:=aj ?_))
    have x_:=gC O ((am o));exact bM [0,1,2,3]
   refine S' ax ?_
   obtain⟨R,H,a9⟩:=ac H
   refine eg 6 [(1,aK s),(3,aK c),(5,aK d),(26,.slice ag a0.f2.length af),(27,ae (a0.f2.length : Int)),(28,ae a),(59,.bool R)] [aL s 26 [ae a0.f0,ae a0.f1,.slice ag a0.f2.length af],Ro bE ag af a0.f2,aL c 55 (bR b),aL d 55 (bR (aZ.mk ((rd a0.f2 a).f0) ((rd a0.f2 a).f1) ((rd a0.f2 a).f2) ((rd a0.f2 a).f3)))] ?_ fun junk=>?_
   ·rcases bH H with⟨z,H⟩|⟨z,H⟩
    ·refine bn z ax (h:=bn z aE (h:=z' z (aT 0) ?_))
     obtain⟨b5,H⟩:=aR H
     refine kQ z (ae (a.tmod a0.f0)) (oZ rfl rfl b5) (h:=bn z (eR rfl rfl) (h:=ii z ?_))
     have h:=aN H;subst h
     exact dV [0,1,2,3]
    refine cI 5 (aX z) (gL (aX z) ?_)
    have h:=aN H;subst h
    exact dV [0,1,2,3]
   replace H:=a9
   refine ad aV (h:=eJ (l' (ck 3) ?_))
   obtain⟨b6,b7,H⟩:=ac H
   refine o' (da [] [0,1,2,3] (lg.ok b7) ?_)
   refine ad (ca rfl) (h:=S' ax ?_)
   obtain⟨b8,S,H⟩:=br H
   refine eg 6 [(1,aK s),(3,aK c),(5,aK d),(6,.bool R),(26,.slice ag a0.f2.length af),(27,ae (a0.f2.length : Int)),(28,ae a),(69,.bool b8)] [aL s 26 [ae a0.f0,ae a0.f1,.slice ag a0.f2.length af],Ro bE ag af a0.f2,aL c 55 (bR b),aL d 55 (bR (aZ.mk ((rd a0.f2 a).f0) ((rd a0.f2 a).f1) ((rd a0.f2 a).f2) ((rd a0.f2 a).f3)))] ?_ fun junk=>?_
   ·by_cases q : (!b6) = true
    ·refine cI 5 q (cq q (h:=aj ?_))
     have x_:=jL S q;exact bM [0,1,2,3]
    refine bn (aX q) aE (h:=dc (aX q) (aT 2) (h:=bn (aX q) (bk rfl rfl) (h:=bn (aX q) ax (h:=kQ (aX q) (.bool (decide ((decide (b.f2 = 2)) ≠ R))) (rp Tryz.underlying4 rfl rfl) (h:=cv (aX q) (h:=aj ?_))))))
    have x_:=jN S ((aX q));exact bM [0,1,2,3]
   refine S' ax ?_
   obtain⟨c5,H,U⟩:=ac H
   refine cD 8 (St [(1,aK s),(3,aK c),(5,aK d),(26,.slice ag a0.f2.length af),(27,ae (a0.f2.length : Int)),(28,ae a),(78,.bool c5)] [aL s 26 [ae a0.f0,ae a0.f1,.slice ag a0.f2.length af],Ro bE ag af a0.f2,aL c 55 (bR b),aL d 55 (bR (aZ.mk ((rd a0.f2 a).f0) ((rd a0.f2 a).f1) ((rd a0.f2 a).f2) ((rd a0.f2 a).f3)))]) ?_ ?_
   ·rcases bH H with⟨l,H⟩|⟨l,H⟩
    ·refine cI 4 l (gj (gj (cI 1 l (ii l ?_))))
     have h:=aN H;subst h
     exact dV [0,1,2,3]
    refine bn (aX l) aE (h:=dc (aX l) (aT 3) (h:=bn (aX l) (bk rfl rfl) (h:=Y' (aX l) ax ?_)))
    rcases bH H with⟨F,H⟩|⟨F,H⟩
    ·refine bn (ak F) ax (h:=bn (ak F) (ca rfl) (h:=gE (aX l) (dl rfl (bX rfl (ak F) rfl) (gL (aX l) ?_))))
     have h:=aN H;subst h
     exact dV [0,1,2,3]
    refine cI 2 (am F) (gE (aX l) (dl rfl (bY rfl (am F) rfl) (gL (aX l) ?_)))
    have h:=aN H;subst h
    exact dV [0,1,2,3]
   rintro e ds As a2
   clear H
   have H:=U
   clear U
   refine bC (SA.of_St a2 fun junk=>?_)
   rcases bH H with⟨Y,H⟩|⟨Y,H⟩
   ·refine aC rfl Y (aQ (ad aV (h:=cE (bi (aI (aI (bi (aI (aI ?_)))))))))
    have h:=aN H;subst h
    have hb_:=dS D
    have hr_:=Option.some.inj hb_
    clear hb_
    subst hr_
    exact er [] ⟨rfl,rfl⟩
   refine aD rfl Y (ap (aa (ah (bD (ck 3) (h:=o' (bg c 0 2 (bR (aZ.mk ((rd a0.f2 a).f0) ((rd a0.f2 a).f1) ((rd a0.f2 a).f2) ((rd a0.f2 a).f3))) (h:=aj (aF (aa (ah (ad (bV rfl rfl) (h:=ad ax (h:=aj ?_)))))))))))))
   exact aa ⟨K,Nat.lt_succ_self _,_,_,c,H,ed [0,1,2]⟩
  refine aA rfl L (ct (bc (bc (cr ?_))))
  have h:=aN H;subst h
  exact aa ⟨b,rfl,c,ed [2]⟩
 rintro e ds As ⟨I,ht,J,a3⟩
 clear H
 subst ht
 replace D:=fW D
 have H:=D
 clear D
 refine aa (SA.of_St a3 fun junk=>aQ (ad aE (h:=bD (aT 0) (h:=ad (dK rfl rfl) (h:=ad aV (h:=cF ?_))))))
 have h:=aN H;subst h
 exact er [] ⟨rfl,rfl⟩


theorem Ar.ok {l0 : (List aZ)} {l1 : (List aZ)} {A0 : Option Addr} {c0 : Nat} {A1 : Option Addr} {c1 : Nat} {r : Bool} (H : jB.f k l0 l1 = some r) : df Tryz.prog 114 #[.slice A0 l0.length c0,.slice A1 l1.length c1] [Ro bE A0 c0 l0,Ro bE A1 c1 l1] (fun v B=>v = .bool r∧B = []):=by
 refine ai Tryz.func114 rfl rfl ?_
 unfold jB.f at H
 refine aQ (ad aV (h:=eJ (ad ax (h:=bO (ae (l0.length : Int)) (dB Tryz.underlying24 rfl) (h:=ad ax (h:=bO (ae (l1.length : Int)) (dB Tryz.underlying24 rfl) (h:=ad (dK rfl rfl) (h:=bC ?_))))))))
 rcases bH H with⟨u,H⟩|⟨u,H⟩
 ·refine aB rfl u (aQ (ad aV (h:=cE ?_)))
  have h:=aN H;subst h
  exact er [] ⟨rfl,rfl⟩
 refine aA rfl u (ap (aa (ao (aQ (ad ax (h:=bO (ae (l0.length : Int)) (dB Tryz.underlying24 rfl) (h:=ad ax (h:=bC ?_))))))))
 obtain⟨F,H,b⟩:=ac H
 refine bI (fun e ds As=>∃ (I : Unit),F = Out.go I∧St [] [] e ds As) ?_ ?_
 ·refine aU (cw (fun k_ e ds As=>∃ (a : Int),jB.l0 l0 l1 k_ a = some F∧St [(0,.slice A0 l0.length c0),(1,.slice A1 l1.length c1),(12,ae (l0.length : Int)),(13,ae a)] [Ro bE A0 c0 l0,Ro bE A1 c1 l1] e ds As) (k:=k) ⟨_,H,kW [0,1]⟩ ?_)
  clear H
  rintro z e ds As ⟨a,H,D⟩
  obtain _ | z:=z
  ·cases H
  rw [jB.l0] at H
  refine SA.of_St D fun junk=>aQ (ad (cn rfl rfl) (h:=bC (ao ?_)))
  rcases bH H with⟨E,H⟩|⟨E,H⟩
  ·refine aB rfl E (ap (aa (ao (aU (aQ (ad ax (h:=ad aV (h:=bC (ao ?_)))))))))
   refine fk (dG 0 9) [0,1] [0,1] fun _ _ _ _ _ sH dd pk=>?_
   refine bf 0 rfl sH ax (h:=T' 1 rfl sH ax ?_)
   obtain⟨⟨d,l⟩,H⟩:=aR H
   refine bT 2 rfl sH (bK (i:=a) Tryz.underlying24 cl rfl rfl (Src.ro (k:=0) rfl) d l) (h:=bT 3 rfl sH (cj (enc:=di) (i:=a) (j:=a.toNat * 15) (m:=0) (sz:=15) (vs:=(bR (aZ.mk ((rd l0 a).f0) ((rd l0 a).f1) ((rd l0 a).f2) ((rd l0 a).f3)))) Tryz.underlying55 rfl cl rfl rfl rfl (Src.ro (k:=0) rfl) d l (fun _ _ h=>h) rfl) (h:=bf 4 rfl sH ax (h:=T' 5 rfl sH ax ?_)))
   obtain⟨⟨o,q⟩,H⟩:=aR H
   refine bT 6 rfl sH (bK (i:=a) Tryz.underlying24 cl rfl rfl (Src.ro (k:=1) rfl) o q) (h:=bT 7 rfl sH (cj (enc:=di) (i:=a) (j:=a.toNat * 15) (m:=0) (sz:=15) (vs:=(bR (aZ.mk ((rd l1 a).f0) ((rd l1 a).f1) ((rd l1 a).f2) ((rd l1 a).f3)))) Tryz.underlying55 rfl cl rfl rfl rfl (Src.ro (k:=1) rfl) o q (fun _ _ h=>h) rfl) (h:=kY (.bool (decide ((rd l0 a) ≠ (rd l1 a)))) 8 rfl sH (mO (xs:=(bR (aZ.mk ((rd l0 a).f0) ((rd l0 a).f1) ((rd l0 a).f2) ((rd l0 a).f3)))) (ys:=(bR (aZ.mk ((rd l1 a).f0) ((rd l1 a).f1) ((rd l1 a).f2) ((rd l1 a).f3)))) (r:=((((rd l0 a).f0) == ((rd l1 a).f0)) && ((((((rd l0 a).f1).f0) == (((rd l1 a).f1).f0)) && (((((rd l0 a).f1).f1) == (((rd l1 a).f1).f1)) && (((((rd l0 a).f1).f2) == (((rd l1 a).f1).f2)) && true))) && ((((rd l0 a).f2) == ((rd l1 a).f2)) && ((((((rd l0 a).f3).f0) == (((rd l1 a).f3).f0)) && (((((rd l0 a).f3).f1) == (((rd l1 a).f3).f1)) && (((((rd l0 a).f3).f2) == (((rd l1 a).f3).f2)) && (((((rd l0 a).f3).f3) == (((rd l1 a).f3).f3)) && (((((rd l0 a).f3).f4) == (((rd l1 a).f3).f4)) && (((((rd l0 a).f3).f5) == (((rd l1 a).f3).f5)) && (((((rd l0 a).f3).f6) == (((rd l1 a).f3).f6)) && (((((rd l0 a).f3).f7) == (((rd l1 a).f3).f7)) && (((((rd l0 a).f3).f8) == (((rd l1 a).f3).f8)) && (((((rd l0 a).f3).f9) == (((rd l1 a).f3).f9)) && true)))))))))) && true))))) (p:=(rd l0 a) = (rd l1 a)) vN rfl rfl (by kernel_rfl) (vR (x:=rd l0 a) (y:=rd l1 a))) (h:=aW dd sH (aH (by kernel_rfl) (aa ?_)))))
   rcases bH H with⟨c,H⟩|⟨c,H⟩
   ·refine aB rfl c (aQ (ad aV (h:=cF (bi (aI (aI (bi (aI (aI ?_)))))))))
    have h:=aN H;subst h
    have hb_:=dS b
    have hr_:=Option.some.inj hb_
    clear hb_
    subst hr_
    exact er [] ⟨rfl,rfl⟩
   refine aA rfl c (ap (aF (aa (ah (ad (bV rfl rfl) (h:=ad ax (h:=aj ?_)))))))
   exact aa ⟨z,Nat.lt_succ_self _,_,H,ed [0,1]⟩
  refine aA rfl E (ct (bc (bc (cr ?_))))
  have h:=aN H;subst h
  exact aa ⟨(),rfl,ed []⟩
 rintro e ds As ⟨I,ht,s⟩
 clear H
 subst ht
 replace b:=fW b
 have H:=b
 clear b
 refine aa (SA.of_St s fun junk=>aQ (ad aV (h:=cF ?_)))
 have h:=aN H;subst h
 exact er [] ⟨rfl,rfl⟩


theorem FY.ok {a0 : bF} {a1 : bF} {r : Bool} (H : pR.f k a0 a1 = some r) : df Tryz.prog 59 #[.agg #[ae a0.f0,ae a0.f1,.slice ag a0.f2.length af],.agg #[ae a1.f0,ae a1.f1,.slice dT a1.f2.length dU]] [Ro bE ag af a0.f2,Ro bE dT dU a1.f2] (fun v B=>v = .bool r∧B = []):=by
 refine ai Tryz.func59 rfl rfl ?_
 unfold pR.f at H
 refine aQ (o' (bN (h:=fun j=>o' (bN (h:=fun l=>ad aV (h:=cV (ad aE (h:=bD (aT 2) (h:=ad aE (h:=bD (aT 3) (h:=S' (bk rfl rfl) ?_)))))))))))
 refine S' ax ?_
 obtain⟨p,c,H⟩:=br H
 refine eg 6 [(2,aK j),(3,aK l),(16,.bool p)] [aL j 26 [ae a0.f0,ae a0.f1,.slice ag a0.f2.length af],Ro bE ag af a0.f2,aL l 26 [ae a1.f0,ae a1.f1,.slice dT a1.f2.length dU],Ro bE dT dU a1.f2] ?_ fun junk=>?_
 ·by_cases b : a0.f0 = a1.f0
  ·refine bn (ak b) aE (h:=dc (ak b) (aT 2) (h:=bn (ak b) aE (h:=dc (ak b) (aT 3) (h:=bn (ak b) (bk rfl rfl) (h:=cq (ak b) (h:=aj ?_))))))
   have x_:=gD c ((ak b));exact bM [2,0,3,1]
  refine cI 5 (am b) (cv (am b) (h:=aj ?_))
  have x_:=gC c ((am b));exact bM [2,0,3,1]
 refine S' ax ?_
 obtain⟨m,H,d⟩:=ac H
 refine eg 6 [(23,.bool m)] [] ?_ fun junk=>?_
 ·rcases bH H with⟨a,H⟩|⟨a,H⟩
  ·refine bn a aE (h:=dc a (aT 0) (h:=bn a aE (h:=z' a (aT 2) ?_)))
   obtain⟨q,o,H⟩:=ac H
   refine gE a (da [1,3] [0,1,2,3] (Ar.ok (A0:=ag) (c0:=af) (A1:=dT) (c1:=dU) o) ?_)
   refine ii a ?_
   have h:=aN H;subst h
   exact dV []
  refine cI 5 (aX a) (gL (aX a) ?_)
  have h:=aN H;subst h
  exact dV []
 replace H:=d
 refine ad aV (h:=cF ?_)
 have h:=aN H;subst h
 exact er [] ⟨rfl,rfl⟩

end Go.Proofs.YtckilbegmbaeeaaGreat.Z3

/- Walks. -/
import Derived.Test.YtckilbegmbaeeaaGreatZ72
namespace Go.Proofs.YtckilbegmbaeeaaGreat.Z7
open Go Go.RowKit Go.Proofs.YtckilbegmbaeeaaGreat.SL
open Go.IntKind (i64)
set_option linter.unusedVariables false
set_option maxHeartbeats 20000000
set_option maxRecDepth 100000
set_option linter.unusedSimpArgs false
attribute [local irreducible] IntKind.wrap dm fE iD md lW rn lM fG ma rd sub bytesOf jD dv
variable {bg ig bS ag az av ax cF k : Nat}
variable {af ay au aw cE : Option Addr}
def iK.f (k : Nat) (p0 : aJ) (a1 : Int) : Option (aJ):=(lS.f k a1).bind (fun h=>if h ≤ 0 then (if h = 0 then ((ip.f k p0 a1).bind (fun B=>some (B))) else (some (p0))) else (lt (p0.f3 && p0.f8) fun z=>(if z = true then ((eZ.f k ({ p0 with f2:=0 })).bind (fun D=>some D)) else (some p0) : Option (aJ)).bind (fun d=>(if h = 2 then ((dx.f ({ d with f3:=false })).bind (fun r=>some (decide (d.f2 = r)))) else (some false) : Option (Bool)).bind (fun E=>(if E = true then ((if (!d.f8) = true then (some true) else ((dx.f ({ d with f3:=false })).bind (fun s=>some (decide (s = 0)))) : Option Bool).bind (fun q=>if q = true then (some (Out.ret (({ d with f3:=false })))) else ((eZ.f k ({ d with f2:=0,f3:=false })).bind (fun u=>some (Out.go u))))) else (some (Out.go ({ d with f3:=false }))) : Option (Out (aJ) (aJ))).bind (fun y=>Out.el y (fun r_=>some r_) (fun a=>(ed.f a).bind (fun b=>if (0 ≤ b.1∧0 ≤ b.2∧b.1 + b.2 ≤ (a.f0.f2.length : Int)) then ((if a.f10 = true then ((jb.f k a.f0.f2 b.1 b.2 a.f2 h a.f4).bind (fun l=>if l.length = a.f0.f2.length then (some l) else none)) else (some a.f0.f2) : Option ((List ba))).bind (fun j=>if j.length = a.f0.f2.length then ((pL.f k a1 a.f4).bind (fun m=>(hH.f k j b.1 b.2 a.f2 m).bind (fun c=>if c.length = j.length then ((dx.f ({ a with f0:=(bJ.mk a.f0.f0 a.f0.f1 c),f2:=(i64.wrap (a.f2 + h)) })).bind (fun o=>if (i64.wrap (a.f2 + h)) > o then ((dx.f ({ a with f0:=(bJ.mk a.f0.f0 a.f0.f1 c),f2:=(i64.wrap (a.f2 + h)) })).bind (fun p=>some (({ a with f0:=(bJ.mk a.f0.f0 a.f0.f1 c),f2:=p,f3:=true })))) else (some (({ a with f0:=(bJ.mk a.f0.f0 a.f0.f1 c),f2:=(i64.wrap (a.f2 + h)) }))))) else none))) else none)) else none)))))))
theorem iK.ok {p0 : aJ} {a1 : Int} {r : aJ} (H : iK.f k p0 a1 = some r) : dp Tryz.prog 73 #[.agg #[.pointer (some ⟨bg,0,none⟩)],aM a1] (cQ bg p0 af ag ay az au av aw ax) (fun v B=>∃ P0_0_ q0_0_ P0_1_ q0_1_ P0_2_ q0_2_ P0_3_ q0_3_,v = .tuple #[]∧B = (cQ bg r P0_0_ q0_0_ P0_1_ q0_1_ P0_2_ q0_2_ P0_3_ q0_3_)):=by
 refine aj Tryz.func73 rfl rfl ?_
 unfold iK.f at H
 refine aP (o' (bO (h:=fun c=>cR (S' ar ?_))))
 obtain⟨R,d4,H⟩:=ac H
 refine o' (da [] [0,1,2,3,4,5] (lS.ok d4) ?_)
 refine ad aW (h:=eA (ad ar (h:=ad (gF rfl rfl) (h:=bA ?_))))
 rcases bD H with⟨h9,H⟩|⟨h9,H⟩
 ·refine aC rfl h9 (ap (aP (ad ar (h:=ad (bk rfl rfl) (h:=bA ?_)))))
  rcases bD H with⟨b4,H⟩|⟨b4,H⟩
  ·refine aC rfl b4 (bQ 1 fun j6=>bQ 2 fun j7=>bQ 3 fun j8=>bQ 4 fun j9=>ak (bq (cx c 0 5 [aI bg]) (h:=S' ar ?_)))
   obtain⟨i4,h3,H⟩:=ac H
   refine o' (ef [0,1,2,3,4] [5] (ip.ok (bg:=bg) h3) fun d9 e3 e0 e4 e1 e5 e2 e6=>?_)
   refine cA ?_
   have h:=aN H;subst h
   exact kO (cQ bg i4 d9 e3 e0 e4 e1 e5 e2 e6) rfl (fk [0,1,2,3,4]) ⟨d9,e3,e0,e4,e1,e5,e2,e6,rfl,rfl⟩
  refine aB rfl b4 (ao (aa (eM (aF ?_))))
  have h:=aN H;subst h
  exact kO (cQ bg p0 af ag ay az au av aw ax) rfl (fk [0,1,2,3,4]) ⟨af,ag,ay,az,au,av,aw,ax,rfl,rfl⟩
 refine aB rfl h9 (ao (aa (ap (aP (ad aA (h:=bq (aO 5) (h:=ad cL (h:=ad aA (h:=bq (aO 0) (h:=S' ar ?_))))))))))
 obtain⟨i3,b7,H⟩:=bi H
 refine cI 6 (St [(1,aM a1),(2,aI c),(4,ae R),(26,.bool i3)] (aL bg 34 (am p0 af ag ay az au av aw ax)::(bn p0 af ag ay az au av aw ax++[aL c 84 [aI bg]]))) ?_ ?_
 ·by_cases M : p0.f3 = true
  ·refine aZ M aA (h:=cn M (aO 5) (h:=aZ M cL (h:=aZ M aA (h:=cn M (aO 0) (h:=bY M (h:=ah ?_))))))
   have x_:=fq b7 M;exact bH [0,1,2,3,4,5]
  refine ct 5 (aK M) (ca (aK M) (h:=ah ?_))
  have x_:=fp b7 ((aK M));exact bH [0,1,2,3,4,5]
 rintro e ds As d6
 refine bA (SA.of_St d6 fun junk=>?_)
 obtain⟨L,H,b2⟩:=ac H
 refine bK (fun e ds As=>∃ (y : Option Addr) (F : Nat),∃ (z : Option Addr) (I : Nat),∃ (D : Option Addr) (J : Nat),∃ (E : Option Addr) (K : Nat),St [(1,aM a1),(2,aI c),(4,ae R)] (aL bg 34 (am L y F z I D J E K)::(bn L y F z I D J E K++[aL c 84 [aI bg]])) e ds As) ?_ ?_
 ·rcases bD H with⟨b5,H⟩|⟨b5,H⟩
  ·refine aD rfl b5 (aP (ad aA (h:=bq (aO 5) (h:=ad cL (h:=ad aA (h:=o' (cJ 0 [ae 0] (h:=(bA (bQ 1 fun k0=>bQ 2 fun k1=>?_))))))))))
   refine bQ 3 fun k2=>bQ 4 fun k3=>ak (l' (cx c 0 5 [aI bg]) ?_)
   obtain⟨k9,h4,H⟩:=ac H
   refine o' (ef [0,1,2,3,4] [5] (eZ.ok (bg:=bg) h4) fun g8 h5 g9 h6 h0 h7 h1 h8=>?_)
   refine ah ?_
   have h:=aN H;subst h
   exact aa ⟨g8,h5,g9,h6,h0,h7,h1,h8,eb [0,1,2,3,4,5]⟩
  refine aE rfl b5 (ao ?_)
  have h:=aN H;subst h
  exact aa ⟨af,ag,ay,az,au,av,aw,ax,eb [0,1,2,3,4,5]⟩
 rintro e ds As ⟨y,F,z,I,D,J,E,K,d7⟩
 clear H
 have H:=b2
 clear b2
 refine aa (SA.of_St d7 fun junk=>aP (ad aA (h:=bq (aO 5) (h:=ad cL (h:=ad aA (h:=o' (cJ 0 [.bool false] (h:=(bA (ap (ap ?_)))))))))))
 obtain⟨i5,H,b3⟩:=ac H
 refine bK (St [(1,aM a1),(2,aI c),(4,ae R),(48,.bool i5)] (aL bg 34 (am ({ L with f3:=false }) y F z I D J E K)::(bn L y F z I D J E K++[aL c 84 [aI bg]]))) ?_ ?_
 ·refine bQ 1 fun k4=>bQ 2 fun k5=>bQ 3 fun k6=>bQ 4 fun k7=>?_
  refine fO (dC 0 12) #[[],[0],[0,1],[0,1,2],(dC 0 4),(dC 0 5),(dC 0 6),(dC 0 7),[0,1,2],[0,1,2,8],(dC 0 10),(dC 0 11)] [aL bg 34 (am ({ L with f3:=false }) y F z I D J E K),aL c 84 [aI bg]] jx (bV.thn (bV.thn (bV.thn bV.body))) fun I0 i1 w0 pk=>?_
  refine eF (ae R) 0 [0,5] rfl fP (h:=eF (.bool (decide (R = 2))) 1 [0,5] rfl (bk rfl rfl) (h:=wb (.bool (decide (R = 2))) 2 [0,5] rfl fP ?_))
  rcases bD H with⟨b,H⟩|⟨b,H⟩
  ·refine jk (v:=aI c) 3 [0,5] (by kernel_rfl) rfl rfl (.yes rfl rfl rfl rfl (ai b)) pk rfl rfl rfl (VR.ofV (kw c 0 0)) (jk 4 [0,5] (by kernel_rfl) rfl rfl (.yes rfl rfl rfl rfl (ai b)) pk rfl rfl rfl (il c 0 1) (jk (v:=aI bg) 5 [0,5] (by kernel_rfl) rfl rfl (.yes rfl rfl rfl rfl (ai b)) pk rfl rfl rfl (VR.ofV cL) (jk (v:=sO bg 4) 6 [0,5] (by kernel_rfl) rfl rfl (.yes rfl rfl rfl rfl (ai b)) pk rfl rfl rfl (VR.ofV (kw bg 0 4)) (jk 7 [0,5] (by kernel_rfl) rfl rfl (.yes rfl rfl rfl rfl (ai b)) pk rfl rfl rfl (il bg 4 0) (jk 8 [0,5] (by kernel_rfl) rfl rfl (.yes rfl rfl rfl rfl (ai b)) pk rfl rfl rfl (cx c 0 1 [aI bg]) ?_)))))
   obtain⟨g5,f6,H⟩:=ac H
   refine fa 9 (by kernel_rfl) rfl (.yes rfl rfl rfl rfl (ai b)) (da [0,1,2,3,4] [5] (dx.ok (bg:=bg) f6) ?_)
   refine ⟨fun _=>⟨[0,5],rfl,rfl⟩,?_⟩
   refine jk (v:=.bool (decide (L.f2 = g5))) 10 [0,5] (by kernel_rfl) rfl rfl (.yes rfl rfl rfl rfl (ai b)) pk rfl rfl rfl (VR.ofV (bk rfl rfl)) (hD 11 [0,5] rfl (VR.ofV (bR rfl (ai b) rfl)) (h:=aH (by kernel_rfl) ?_))
   have h:=aN H;subst h
   exact bH [0,1,2,3,4,5]
  refine jI 3 [0,5] (by kernel_rfl) rfl rfl (.no rfl rfl rfl rfl (al b)) pk rfl rfl rfl (jI 4 [0,5] (by kernel_rfl) rfl rfl (.no rfl rfl rfl rfl (al b)) pk rfl rfl rfl (jI 5 [0,5] (by kernel_rfl) rfl rfl (.no rfl rfl rfl rfl (al b)) pk rfl rfl rfl (jI 6 [0,5] (by kernel_rfl) rfl rfl (.no rfl rfl rfl rfl (al b)) pk rfl rfl rfl (jI 7 [0,5] (by kernel_rfl) rfl rfl (.no rfl rfl rfl rfl (al b)) pk rfl rfl rfl (jI 8 [0,5] (by kernel_rfl) rfl rfl (.no rfl rfl rfl rfl (al b)) pk rfl rfl rfl (jI 9 [0,5] (by kernel_rfl) rfl rfl (.no rfl rfl rfl rfl (al b)) pk rfl rfl rfl (jI 10 [0,5] (by kernel_rfl) rfl rfl (.no rfl rfl rfl rfl (al b)) pk rfl rfl rfl (hD 11 [0,5] rfl (VR.ofV (bL rfl (al b) rfl)) (h:=aH (by kernel_rfl) ?_)))))))))
  have h:=aN H;subst h
  exact bH [0,1,2,3,4,5]
 rintro e ds As b8
 clear H
 have H:=b3
 clear b3
 refine aa (SA.of_St b8 fun junk=>?_)
 obtain⟨g7,H,O⟩:=ac H
 refine bK (fun e ds As=>∃ (a : aJ),g7 = Out.go a∧∃ (d : Option Addr) (j : Nat),∃ (m : Option Addr) (q : Nat),∃ (o : Option Addr) (s : Nat),∃ (p : Option Addr) (u : Nat),St [(1,aM a1),(2,aI c),(4,ae R)] (aL bg 34 (am a d j m q o s p u)::(bn a d j m q o s p u++[aL c 84 [aI bg]])) e ds As) ?_ ?_
 ·rcases bD H with⟨a3,H⟩|⟨a3,H⟩
  ·refine aD rfl a3 (ap (ap (bQ 1 fun i6=>bQ 2 fun i7=>bQ 3 fun i8=>bQ 4 fun i9=>ak (ad aA (h:=bq (aO 5) (h:=S' cL ?_))))))
   refine ad aA (h:=bq (aO 0) (h:=ad (bU rfl) (h:=S' ar ?_)))
   obtain⟨g4,H,a7⟩:=ac H
   refine cI 4 (St [(1,aM a1),(2,aI c),(4,ae R),(59,.bool g4)] (aL bg 34 (am ({ L with f3:=false }) y F z I D J E K)::(bn L y F z I D J E K++[aL c 84 [aI bg]]))) ?_ ?_
   ·rcases bD H with⟨N,H⟩|⟨N,H⟩
    ·refine ct 3 N (gJ N ?_)
     have h:=aN H;subst h
     exact dQ [0,1,2,3,4,5]
    refine z' (aK N) (cx c 0 5 [aI bg]) ?_
    obtain⟨k8,f8,H⟩:=ac H
    refine fR (aK N) (da [0,1,2,3,4] [5] (dx.ok (bg:=bg) f8) ?_)
    refine aZ (aK N) (bk rfl rfl) (h:=fZ (aK N) ?_)
    have h:=aN H;subst h
    exact dQ [0,1,2,3,4,5]
   rintro e ds As b9
   clear H
   have H:=a7
   clear a7
   refine bA (SA.of_St b9 fun junk=>?_)
   rcases bD H with⟨a4,H⟩|⟨a4,H⟩
   ·refine aD rfl a4 (eM (aF (aF (aF ?_))))
    have h:=aN H;subst h
    have hb_:=dz O
    have hr_:=Option.some.inj hb_
    clear hb_
    subst hr_
    exact kO (aL bg 34 (am ({ L with f3:=false }) y F z I D J E K)::bn L y F z I D J E K) rfl (fk [0,1,2,3,4]) ⟨y,F,z,I,D,J,E,K,rfl,rfl⟩
   refine aE rfl a4 (ao (aa (aP (ad aA (h:=bq (aO 5) (h:=ad cL (h:=ad aA (h:=o' (cJ 0 [ae 0] (h:=(bA (ak (l' (cx c 0 5 [aI bg]) ?_)))))))))))))
   obtain⟨g6,f9,H⟩:=ac H
   refine o' (ef [0,1,2,3,4] [5] (eZ.ok (bg:=bg) f9) fun e7 g0 e8 g1 e9 g2 f5 g3=>?_)
   refine ah ?_
   have h:=aN H;subst h
   exact aa ⟨g6,rfl,e7,g0,e8,g1,e9,g2,f5,g3,eb [0,1,2,3,4,5]⟩
  refine aE rfl a3 (ao ?_)
  have h:=aN H;subst h
  exact aa ⟨({ L with f3:=false }),rfl,y,F,z,I,D,J,E,K,eb [0,1,2,3,4,5]⟩
 rintro e ds As ⟨a,ht,d,j,m,q,o,s,p,u,c5⟩
 clear H
 subst ht
 replace O:=fi O
 have H:=O
 clear O
 refine aa (SA.of_St c5 fun junk=>ap (bQ 1 fun j0=>bQ 2 fun j1=>bQ 3 fun j2=>bQ 4 fun j3=>ak (l' (cx c 0 5 [aI bg]) ?_)))
 obtain⟨S,d3,H⟩:=ac H
 obtain⟨⟨hl841a,hl841b,hl841c⟩,H⟩:=aS H
 refine o' (mu [0,1,2,3,4] [5] (ed.ok (bg:=bg) d3) ?_)
 rintro _ _⟨a2,a6,a9,rfl,rfl⟩
 refine ad aW (h:=eA (ad aA (h:=bq (aO 5) (h:=ad cL (h:=ad aA (h:=bq (aO 0) (h:=bA ?_)))))))
 obtain⟨c6,H,a8⟩:=ac H
 refine bK (St [(1,aM a1),(2,aI c),(4,ae R),(5,.slice a2 S.2.toNat a6)] [aL bg 34 (am ({ a with f0:=(bJ.mk a.f0.f0 a.f0.f1 c6) }) d j m q o s p u),Buf bI 55 d j c6,gL 3 m q a.f7,Buf bI 55 o s a.f16.f2,lZ 21 p u a.f17,aL c 84 [aI bg]]) ?_ ?_
 ·rcases bD H with⟨a5,H⟩|⟨a5,H⟩
  ·refine aD rfl a5 ?_
   refine fg (dC 0 12) [0,5] (dC 1 4) fun _ _ _ _ _ sH dd pk=>?_
   refine bf 0 rfl sH ar (h:=bf 1 rfl sH aA (h:=bN 2 rfl sH (aO 1) (h:=bf 3 rfl sH cL (h:=bf 4 rfl sH aA (h:=bN 5 rfl sH (aO 0) (h:=bf 6 rfl sH ar (h:=bf 7 rfl sH aA (h:=bN 8 rfl sH (aO 1) (h:=T' 9 rfl sH cL ?_)))))))))
   refine bf 10 rfl sH aA (h:=r' 11 rfl sH (cx bg 6 0 (bF a.f4)) ?_)
   obtain⟨j4,c8,H⟩:=ac H
   obtain⟨Z,H⟩:=aS H
   refine dT 12 rfl dd (da [0] [1,2,3] (jb.ok (o0:=S.1) (n0:=S.2) (A0:=d) (c0:=j) (V0:=a2) (v0:=a6) (hw0:=a9) c8) ?_)
   try unfold cQ
   try unfold eD
   try unfold am
   try rewrite [← Z]
   try unfold cQ at sH
   try unfold eD at sH
   try unfold am at sH
   try rewrite [← Z] at sH
   refine aV dd sH (aH (by kernel_rfl) ?_)
   have h:=aN H;subst h
   exact bH [0,2,3,4,5,1]
  refine aE rfl a5 (ao ?_)
  have h:=aN H;subst h
  exact bH [0,1,2,3,4,5]
 rintro e ds As b1
 clear H
 have H:=a8
 clear a8
 obtain⟨i2,H⟩:=aS H
 refine aa (SA.of_St b1 fun junk=>ap ?_)
 refine fg (dC 0 12) [0,5] (dC 1 4) fun _ _ _ _ _ sH dd pk=>?_
 refine bf 0 rfl sH ar (h:=bf 1 rfl sH aA (h:=bN 2 rfl sH (aO 1) (h:=bf 3 rfl sH cL (h:=bf 4 rfl sH aA (h:=bN 5 rfl sH (aO 0) (h:=bf 6 rfl sH ar (h:=bf 7 rfl sH aA (h:=bN 8 rfl sH (aO 1) (h:=T' 9 rfl sH cL ?_)))))))))
 refine bf 10 rfl sH aA (h:=r' 11 rfl sH (cx bg 6 0 (bF a.f4)) ?_)
 obtain⟨j5,c9,H⟩:=ac H
 refine dT 12 rfl dd (gy [] [0,1,2,3] (pL.ok c9) fun c7 d5=>?_)
 obtain⟨Y,d0,H⟩:=ac H
 obtain⟨a0,H⟩:=aS H
 refine dT 13 rfl dd (da [1,0] [2,3,4] (hH.ok (o0:=S.1) (n0:=S.2) (A0:=d) (c0:=j) (V0:=a2) (v0:=a6) (hw0:=a9) (A2:=c7) (c2:=d5) d0) ?_)
 try unfold cQ
 try unfold eD
 try unfold am
 try rewrite [← a0]
 try unfold cQ at sH
 try unfold eD at sH
 try unfold am at sH
 try rewrite [← a0] at sH
 refine aV dd sH (aH (by kernel_rfl) (aa (aP (ad aA (h:=bq (aO 1) (h:=ad cL (h:=ad aA (h:=bq (aO 0) (h:=ad ar (h:=S' (bX rfl rfl) ?_))))))))))
 refine ad cL (h:=ad aA (h:=o' (cJ 0 [ae (i64.wrap (a.f2 + R))] (h:=(bA (ap (bQ 3 fun i0=>?_)))))))
 refine fO [0,1,2,3,4,5,7] #[[],[0],[0,1],[0,1,2],(dC 0 4),[],[5],(dC 0 6)] [aL bg 34 (am ({ a with f0:=(bJ.mk a.f0.f0 a.f0.f1 Y),f2:=(i64.wrap (a.f2 + R)) }) d j m q o s p u),aL c 84 [aI bg]] jx (bV.thn bV.body) fun I0 i1 w0 pk=>?_
 refine eF (aI c) 0 [0,1] rfl (kw c 0 0) (h:=hD 1 [0,1] rfl (il c 0 1) (h:=eF (aI bg) 2 [0,1] rfl cL (h:=eF (sO bg 4) 3 [0,1] rfl (kw bg 0 4) (h:=hD 4 [0,1] rfl (il bg 4 0) (h:=sK 5 [0,1] rfl (cx c 0 1 [aI bg]) ?_)))))
 obtain⟨b0,d1,H⟩:=ac H
 refine fa 6 (by kernel_rfl) rfl (.no rfl) (da [0,2,4,5,6] [1,3] (dx.ok (bg:=bg) d1) ?_)
 refine ⟨fun _=>⟨[0,5],rfl,rfl⟩,?_⟩
 refine eF (.bool (decide ((i64.wrap (a.f2 + R)) > b0))) 7 [0,5] rfl (eN rfl rfl) (h:=aH (by kernel_rfl) (aa (SA.of_St (l:=[(2,aI c),(116,.bool (decide ((i64.wrap (a.f2 + R)) > b0)))]) (B:=[aL bg 34 (am ({ a with f0:=(bJ.mk a.f0.f0 a.f0.f1 Y),f2:=(i64.wrap (a.f2 + R)) }) d j m q o s p u),Buf bI 55 d j Y,gL 3 m q a.f7,Buf bI 55 o s a.f16.f2,lZ 21 p u a.f17,aL c 84 [aI bg]]) (St.mk1 (cO rfl (cO rfl dY)) (Gh.sel [0,1,2,3,4,5] (by kernel_rfl) (by kernel_rfl))) fun junk=>?_)))
 rcases bD H with⟨U,H⟩|⟨U,H⟩
 ·refine aC rfl U ?_
  refine fg [0,1,2,3,4,6,7,9,10] [5] (dC 0 5) fun _ _ _ _ _ sH dd pk=>?_
  refine bf 0 rfl sH aA (h:=bN 1 rfl sH (aO 0) (h:=bf 2 rfl sH aA (h:=bN 3 rfl sH (aO 0) (h:=r' 4 rfl sH (cx c 0 0 [aI bg]) ?_))))
  obtain⟨d8,d2,H⟩:=ac H
  refine dT 5 rfl dd (da [0,1,2,3,4] [] (dx.ok (bg:=bg) d2) ?_)
  refine bf 6 rfl sH cL (h:=bf 7 rfl sH aA (h:=dT 8 rfl dd (cJ 0 [ae d8] (h:=(bf 9 rfl sH cL (h:=bf 10 rfl sH aA (h:=dT 11 rfl dd (cJ 0 [.bool true] (h:=(aV dd sH (aH (by kernel_rfl) ?_)))))))))))
  have h:=aN H;subst h
  exact fH [1,2,3,4,5] ⟨d,j,m,q,o,s,p,u,rfl,rfl⟩
 refine aB rfl U (ao ?_)
 have h:=aN H;subst h
 exact fH [0,1,2,3,4] ⟨d,j,m,q,o,s,p,u,rfl,rfl⟩


def ka.f (k : Nat) (p0 : aJ) (p1 : Int) : Option (aJ):=(iK.f k p0 p1).bind (fun a=>some (a))
theorem ka.ok {p0 : aJ} {p1 : Int} {r : aJ} (H : ka.f k p0 p1 = some r) : dp Tryz.prog 72 #[.agg #[.pointer (some ⟨bg,0,none⟩)],.pointer (some ⟨ig,0,none⟩)] (aL bg 34 (am p0 af ag ay az au av aw ax)::(bn p0 af ag ay az au av aw ax++[aL ig 21 [aM p1]])) (fun v B=>∃ P0_0_ q0_0_ P0_1_ q0_1_ P0_2_ q0_2_ P0_3_ q0_3_,v = .tuple #[]∧B = (aL bg 34 (am r P0_0_ q0_0_ P0_1_ q0_1_ P0_2_ q0_2_ P0_3_ q0_3_)::(bn r P0_0_ q0_0_ P0_1_ q0_1_ P0_2_ q0_2_ P0_3_ q0_3_++[aL ig 21 [aM p1]]))):=by
 refine aj Tryz.func72 rfl rfl ?_
 unfold ka.f at H
 refine aP (o' (bO (h:=fun q=>bA (bQ 1 fun z=>bQ 2 fun s=>bQ 3 fun u=>bQ 4 fun y=>ak (bq (cx q 0 6 [aI bg]) (h:=l' (aO 5) ?_))))))
 obtain⟨D,j,H⟩:=ac H
 refine o' (ef [0,1,2,3,4] [5,6] (iK.ok (bg:=bg) j) fun a l b m c o d p=>?_)
 refine ah ?_
 have h:=aN H;subst h
 exact fH [0,1,2,3,4,5] ⟨a,l,b,m,c,o,d,p,rfl,rfl⟩


theorem zY.ok {a0 : bJ} {r : Bool} (H : fM.f k a0 = some r) : dp Tryz.prog 57 #[.agg #[ae a0.f0,ae a0.f1,.slice af a0.f2.length ag]] [Ro bI af ag a0.f2] (fun v B=>v = .bool r∧B = []):=by
 refine aj Tryz.func57 rfl rfl ?_
 unfold fM.f at H
 refine aP (o' (bO (h:=fun s=>ad aW (h:=eA (ad aA (h:=bq (aO 1) (h:=ad aA (h:=l' (aO 1) ?_))))))))
 obtain⟨r4,b1,H⟩:=ac H
 refine o' (da [] [0,1] (qH.ok b1) ?_)
 refine ad (bU rfl) (h:=S' ar ?_)
 obtain⟨q5,a6,H⟩:=bi H
 refine cI 10 (St [(1,aI s),(23,.bool q5)] [aL s 26 [ae a0.f0,ae a0.f1,.slice af a0.f2.length ag],Ro bI af ag a0.f2]) ?_ ?_
 ·by_cases z : (!r4) = true
  ·refine ct 9 z (bY z (h:=ah ?_))
   have x_:=ik a6 z;exact bH [1,0]
  refine aZ (aK z) aA (h:=cn (aK z) (aO 1) (h:=gS (aK z) (ae (a0.f2.length : Int)) (cP Tryz.underlying24 rfl) (h:=aZ (aK z) aA (h:=cn (aK z) (aO 1) (h:=aZ (aK z) aA (h:=cn (aK z) (aO 1) (h:=aZ (aK z) (jt rfl rfl) (h:=aZ (aK z) (dt rfl rfl) (h:=fZ (aK z) ?_)))))))))
  refine ah ?_
  have x_:=ij a6 ((aK z));exact bH [1,0]
 rintro e ds As a9
 refine bA (SA.of_St a9 fun junk=>?_)
 rcases bD H with⟨h8,H⟩|⟨h8,H⟩
 ·refine aD rfl h8 (aP (ad aW (h:=cA ?_)))
  have h:=aN H;subst h
  exact dJ [] ⟨rfl,rfl⟩
 refine aE rfl h8 (ao (aa (aP (bT (.agg (bW (ba.mk 0 (fX.mk 0 0 0) 1 fV)).toArray) dS (h:=o' (cC (h:=fun b9=>o' (bj b9 0 2 (bW (ba.mk 0 (fX.mk 0 0 0) 1 fV)) (h:=eA (ad aA (h:=bq (aO 0) (h:=bT (ae (a0.f2.length : Int)) (cP Tryz.underlying24 rfl) (h:=S' ar ?_)))))))))))))
 refine bA ?_
 obtain⟨a7,H,D⟩:=ac H
 refine bK (fun e ds As=>∃ (Y : ba),a7 = Out.go Y∧∃ (J : Nat),St [(3,aI J)] [aL J 55 (bW Y)] e ds As) ?_ ?_
 ·refine aT (cl (fun k_ e ds As=>∃ (b : ba) (a : Int),∃ (c : Nat),fM.l0 a0 k_ b a = some a7∧St [(1,aI s),(3,aI c),(26,.slice af a0.f2.length ag),(27,ae (a0.f2.length : Int)),(28,ae a)] [aL s 26 [ae a0.f0,ae a0.f1,.slice af a0.f2.length ag],Ro bI af ag a0.f2,aL c 55 (bW b)] e ds As) (k:=k) ⟨_,_,b9,H,jQ [0,1,2]⟩ ?_)
  clear H
  rintro S e ds As ⟨b,a,c,H,Z⟩
  obtain _ | S:=S
  ·cases H
  rw [fM.l0] at H
  refine SA.of_St Z fun junk=>aP (ad (cg rfl rfl) (h:=bA (ap ?_)))
  rcases bD H with⟨K,H⟩|⟨K,H⟩
  ·refine aC rfl K (ao (aa (ap (aT (aP (S' ar ?_))))))
   obtain⟨⟨a4,a5⟩,H⟩:=aS H
   refine bq (br (i:=a) Tryz.underlying24 ck rfl rfl (Src.ro (k:=1) rfl) a4 a5) (h:=bq (cf (enc:=cZ) (i:=a) (j:=a.toNat * 15) (m:=0) (sz:=15) (vs:=(bW (ba.mk ((rd a0.f2 a).f0) ((rd a0.f2 a).f1) ((rd a0.f2 a).f2) ((rd a0.f2 a).f3)))) Tryz.underlying55 rfl ck rfl rfl rfl (Src.ro (k:=1) rfl) a4 a5 (fun _ _ h=>h) rfl) (h:=o' (cC (h:=fun d=>ad aW (h:=o' (bj d 0 3 (bW (ba.mk ((rd a0.f2 a).f0) ((rd a0.f2 a).f1) ((rd a0.f2 a).f2) ((rd a0.f2 a).f3))) (h:=eA (ad ar (h:=ad aA (h:=l' (aO 0) ?_))))))))))
   obtain⟨b3,H⟩:=aS H
   refine bT (ae (a.tmod a0.f0)) (nj rfl rfl b3) (h:=ad (bk rfl rfl) (h:=S' ar ?_))
   obtain⟨b5,N,H⟩:=bi H
   refine cI 4 (St [(1,aI s),(3,aI c),(4,ae a),(5,aI d),(26,.slice af a0.f2.length ag),(27,ae (a0.f2.length : Int)),(28,ae a),(42,.bool b5)] [aL s 26 [ae a0.f0,ae a0.f1,.slice af a0.f2.length ag],Ro bI af ag a0.f2,aL c 55 (bW b),aL d 55 (bW (ba.mk ((rd a0.f2 a).f0) ((rd a0.f2 a).f1) ((rd a0.f2 a).f2) ((rd a0.f2 a).f3)))]) ?_ ?_
   ·by_cases E : (a.tmod a0.f0) = 0
    ·refine aZ (ai E) aA (h:=cn (ai E) (aO 2) (h:=aZ (ai E) (bk rfl rfl) (h:=bY (ai E) (h:=ah ?_))))
     have x_:=fq N ((ai E));exact bH [0,1,2,3]
    refine ct 3 (al E) (ca (al E) (h:=ah ?_))
    have x_:=fp N ((al E));exact bH [0,1,2,3]
   rintro e ds As a1
   refine bA (SA.of_St a1 fun junk=>?_)
   rcases bD H with⟨L,H⟩|⟨L,H⟩
   ·refine aD rfl L (aP (ad aW (h:=cA (aY (aF (aF (aY (aF (aF ?_)))))))))
    have h:=aN H;subst h
    have hb_:=dz D
    have hr_:=Option.some.inj hb_
    clear hb_
    subst hr_
    exact dJ [] ⟨rfl,rfl⟩
   refine aE rfl L (ao (aa (aP (ad aA (h:=bq (aO 3) (h:=ad (bk rfl rfl) (h:=S' ar ?_)))))))
   obtain⟨b6,O,H⟩:=bi H
   refine dy 6 [(1,aI s),(3,aI c),(4,ae a),(5,aI d),(26,.slice af a0.f2.length ag),(27,ae (a0.f2.length : Int)),(28,ae a),(52,.bool b6)] [aL s 26 [ae a0.f0,ae a0.f1,.slice af a0.f2.length ag],Ro bI af ag a0.f2,aL c 55 (bW b),aL d 55 (bW (ba.mk ((rd a0.f2 a).f0) ((rd a0.f2 a).f1) ((rd a0.f2 a).f2) ((rd a0.f2 a).f3)))] ?_ fun junk=>?_
   ·by_cases o : ((rd a0.f2 a).f2) = 0
    ·refine aZ (ai o) aA (h:=cn (ai o) (cx d 5 3 (bF ((rd a0.f2 a).f3))) (h:=aZ (ai o) aA (h:=cn (ai o) (cx c 5 2 (bF b.f3)) (h:=gS (ai o) (.bool (decide (((rd a0.f2 a).f3) = b.f3))) (kC (xs:=(bF ((rd a0.f2 a).f3))) (ys:=(bF b.f3)) (r:=(((((rd a0.f2 a).f3).f0) == b.f3.f0) && (((((rd a0.f2 a).f3).f1) == b.f3.f1) && (((((rd a0.f2 a).f3).f2) == b.f3.f2) && (((((rd a0.f2 a).f3).f3) == b.f3.f3) && (((((rd a0.f2 a).f3).f4) == b.f3.f4) && (((((rd a0.f2 a).f3).f5) == b.f3.f5) && (((((rd a0.f2 a).f3).f6) == b.f3.f6) && (((((rd a0.f2 a).f3).f7) == b.f3.f7) && (((((rd a0.f2 a).f3).f8) == b.f3.f8) && (((((rd a0.f2 a).f3).f9) == b.f3.f9) && true))))))))))) (p:=((rd a0.f2 a).f3) = b.f3) lh rfl rfl (by kernel_rfl) (lj (x:=((rd a0.f2 a).f3)) (y:=b.f3))) (h:=bY (ai o) (h:=ah ?_))))))
     have x_:=fq O ((ai o));exact bH [0,1,2,3]
    refine ct 5 (al o) (ca (al o) (h:=ah ?_))
    have x_:=fp O ((al o));exact bH [0,1,2,3]
   refine S' ar ?_
   obtain⟨U,H,a8⟩:=ac H
   refine dy 6 [(1,aI s),(3,aI c),(5,aI d),(26,.slice af a0.f2.length ag),(27,ae (a0.f2.length : Int)),(28,ae a),(59,.bool U)] [aL s 26 [ae a0.f0,ae a0.f1,.slice af a0.f2.length ag],Ro bI af ag a0.f2,aL c 55 (bW b),aL d 55 (bW (ba.mk ((rd a0.f2 a).f0) ((rd a0.f2 a).f1) ((rd a0.f2 a).f2) ((rd a0.f2 a).f3)))] ?_ fun junk=>?_
   ·rcases bD H with⟨u,H⟩|⟨u,H⟩
    ·refine aZ u ar (h:=aZ u aA (h:=z' u (aO 0) ?_))
     obtain⟨b4,H⟩:=aS H
     refine gS u (ae (a.tmod a0.f0)) (nj rfl rfl b4) (h:=aZ u (eN rfl rfl) (h:=gJ u ?_))
     have h:=aN H;subst h
     exact dQ [0,1,2,3]
    refine ct 5 (aK u) (fZ (aK u) ?_)
    have h:=aN H;subst h
    exact dQ [0,1,2,3]
   replace H:=a8
   refine ad aW (h:=eA (l' (cm 3) ?_))
   obtain⟨c5,b0,H⟩:=ac H
   refine o' (da [] [0,1,2,3] (kV.ok b0) ?_)
   refine ad (bU rfl) (h:=S' ar ?_)
   obtain⟨b7,R,H⟩:=bi H
   refine dy 6 [(1,aI s),(3,aI c),(5,aI d),(6,.bool U),(26,.slice af a0.f2.length ag),(27,ae (a0.f2.length : Int)),(28,ae a),(69,.bool b7)] [aL s 26 [ae a0.f0,ae a0.f1,.slice af a0.f2.length ag],Ro bI af ag a0.f2,aL c 55 (bW b),aL d 55 (bW (ba.mk ((rd a0.f2 a).f0) ((rd a0.f2 a).f1) ((rd a0.f2 a).f2) ((rd a0.f2 a).f3)))] ?_ fun junk=>?_
   ·by_cases q : (!c5) = true
    ·refine ct 5 q (bY q (h:=ah ?_))
     have x_:=ik R q;exact bH [0,1,2,3]
    refine aZ (aK q) aA (h:=cn (aK q) (aO 2) (h:=aZ (aK q) (bk rfl rfl) (h:=aZ (aK q) ar (h:=gS (aK q) (.bool (decide ((decide (b.f2 = 2)) ≠ U))) (mR Tryz.underlying4 rfl rfl) (h:=ca (aK q) (h:=ah ?_))))))
    have x_:=ij R ((aK q));exact bH [0,1,2,3]
   refine S' ar ?_
   obtain⟨b8,H,I⟩:=ac H
   refine cI 8 (St [(1,aI s),(3,aI c),(5,aI d),(26,.slice af a0.f2.length ag),(27,ae (a0.f2.length : Int)),(28,ae a),(78,.bool b8)] [aL s 26 [ae a0.f0,ae a0.f1,.slice af a0.f2.length ag],Ro bI af ag a0.f2,aL c 55 (bW b),aL d 55 (bW (ba.mk ((rd a0.f2 a).f0) ((rd a0.f2 a).f1) ((rd a0.f2 a).f2) ((rd a0.f2 a).f3)))]) ?_ ?_
   ·rcases bD H with⟨l,H⟩|⟨l,H⟩
    ·refine ct 4 l (fY (fY (ct 1 l (gJ l ?_))))
     have h:=aN H;subst h
     exact dQ [0,1,2,3]
    refine aZ (aK l) aA (h:=cn (aK l) (aO 3) (h:=aZ (aK l) (bk rfl rfl) (h:=Y' (aK l) ar ?_)))
    rcases bD H with⟨F,H⟩|⟨F,H⟩
    ·refine aZ (ai F) ar (h:=aZ (ai F) (bU rfl) (h:=fR (aK l) (dB rfl (bR rfl (ai F) rfl) (fZ (aK l) ?_))))
     have h:=aN H;subst h
     exact dQ [0,1,2,3]
    refine ct 2 (al F) (fR (aK l) (dB rfl (bL rfl (al F) rfl) (fZ (aK l) ?_)))
    have h:=aN H;subst h
    exact dQ [0,1,2,3]
   rintro e ds As a2
   clear H
   have H:=I
   clear I
   refine bA (SA.of_St a2 fun junk=>?_)
   rcases bD H with⟨M,H⟩|⟨M,H⟩
   ·refine aD rfl M (aP (ad aW (h:=cA (aY (aF (aF (aY (aF (aF ?_)))))))))
    have h:=aN H;subst h
    have hb_:=dz D
    have hr_:=Option.some.inj hb_
    clear hb_
    subst hr_
    exact dJ [] ⟨rfl,rfl⟩
   refine aE rfl M (ao (aa (ak (bq (cm 3) (h:=o' (bj c 0 2 (bW (ba.mk ((rd a0.f2 a).f0) ((rd a0.f2 a).f1) ((rd a0.f2 a).f2) ((rd a0.f2 a).f3))) (h:=ah (aG (aa (ak (ad (bX rfl rfl) (h:=ad ar (h:=ah ?_)))))))))))))
   exact aa ⟨S,Nat.lt_succ_self _,_,_,c,H,eb [0,1,2]⟩
  refine aB rfl K (ci (aX (aX (cj ?_))))
  have h:=aN H;subst h
  exact aa ⟨b,rfl,c,eb [2]⟩
 rintro e ds As ⟨Y,ht,J,a3⟩
 clear H
 subst ht
 replace D:=fi D
 have H:=D
 clear D
 refine aa (SA.of_St a3 fun junk=>aP (ad aA (h:=bq (aO 0) (h:=ad (dt rfl rfl) (h:=ad aW (h:=cD ?_))))))
 have h:=aN H;subst h
 exact dJ [] ⟨rfl,rfl⟩


theorem zW.ok {l0 : (List ba)} {l1 : (List ba)} {A0 : Option Addr} {c0 : Nat} {A1 : Option Addr} {c1 : Nat} {r : Bool} (H : gj.f k l0 l1 = some r) : dp Tryz.prog 114 #[.slice A0 l0.length c0,.slice A1 l1.length c1] [Ro bI A0 c0 l0,Ro bI A1 c1 l1] (fun v B=>v = .bool r∧B = []):=by
 refine aj Tryz.func114 rfl rfl ?_
 unfold gj.f at H
 refine aP (ad aW (h:=eA (ad ar (h:=bT (ae (l0.length : Int)) (cP Tryz.underlying24 rfl) (h:=ad ar (h:=bT (ae (l1.length : Int)) (cP Tryz.underlying24 rfl) (h:=ad (dt rfl rfl) (h:=bA ?_))))))))
 rcases bD H with⟨u,H⟩|⟨u,H⟩
 ·refine aC rfl u (aP (ad aW (h:=cA ?_)))
  have h:=aN H;subst h
  exact dJ [] ⟨rfl,rfl⟩
 refine aB rfl u (ao (aa (ap (aP (ad ar (h:=bT (ae (l0.length : Int)) (cP Tryz.underlying24 rfl) (h:=ad ar (h:=bA ?_))))))))
 obtain⟨I,H,b⟩:=ac H
 refine bK (fun e ds As=>∃ (F : Unit),I = Out.go F∧St [] [] e ds As) ?_ ?_
 ·refine aT (cl (fun k_ e ds As=>∃ (a : Int),gj.l0 l0 l1 k_ a = some I∧St [(0,.slice A0 l0.length c0),(1,.slice A1 l1.length c1),(12,ae (l0.length : Int)),(13,ae a)] [Ro bI A0 c0 l0,Ro bI A1 c1 l1] e ds As) (k:=k) ⟨_,H,jQ [0,1]⟩ ?_)
  clear H
  rintro E e ds As ⟨a,H,D⟩
  obtain _ | E:=E
  ·cases H
  rw [gj.l0] at H
  refine SA.of_St D fun junk=>aP (ad (cg rfl rfl) (h:=bA (ap ?_)))
  rcases bD H with⟨z,H⟩|⟨z,H⟩
  ·refine aC rfl z (ao (aa (ap (aT (aP (ad ar (h:=ad aW (h:=bA (ap ?_)))))))))
   refine fg (dC 0 9) [0,1] [0,1] fun _ _ _ _ _ sH dd pk=>?_
   refine bf 0 rfl sH ar (h:=T' 1 rfl sH ar ?_)
   obtain⟨⟨d,l⟩,H⟩:=aS H
   refine bN 2 rfl sH (br (i:=a) Tryz.underlying24 ck rfl rfl (Src.ro (k:=0) rfl) d l) (h:=bN 3 rfl sH (cf (enc:=cZ) (i:=a) (j:=a.toNat * 15) (m:=0) (sz:=15) (vs:=(bW (ba.mk ((rd l0 a).f0) ((rd l0 a).f1) ((rd l0 a).f2) ((rd l0 a).f3)))) Tryz.underlying55 rfl ck rfl rfl rfl (Src.ro (k:=0) rfl) d l (fun _ _ h=>h) rfl) (h:=bf 4 rfl sH ar (h:=T' 5 rfl sH ar ?_)))
   obtain⟨⟨o,q⟩,H⟩:=aS H
   refine bN 6 rfl sH (br (i:=a) Tryz.underlying24 ck rfl rfl (Src.ro (k:=1) rfl) o q) (h:=bN 7 rfl sH (cf (enc:=cZ) (i:=a) (j:=a.toNat * 15) (m:=0) (sz:=15) (vs:=(bW (ba.mk ((rd l1 a).f0) ((rd l1 a).f1) ((rd l1 a).f2) ((rd l1 a).f3)))) Tryz.underlying55 rfl ck rfl rfl rfl (Src.ro (k:=1) rfl) o q (fun _ _ h=>h) rfl) (h:=kQ (.bool (decide ((rd l0 a) ≠ (rd l1 a)))) 8 rfl sH (jU (xs:=(bW (ba.mk ((rd l0 a).f0) ((rd l0 a).f1) ((rd l0 a).f2) ((rd l0 a).f3)))) (ys:=(bW (ba.mk ((rd l1 a).f0) ((rd l1 a).f1) ((rd l1 a).f2) ((rd l1 a).f3)))) (r:=((((rd l0 a).f0) == ((rd l1 a).f0)) && ((((((rd l0 a).f1).f0) == (((rd l1 a).f1).f0)) && (((((rd l0 a).f1).f1) == (((rd l1 a).f1).f1)) && (((((rd l0 a).f1).f2) == (((rd l1 a).f1).f2)) && true))) && ((((rd l0 a).f2) == ((rd l1 a).f2)) && ((((((rd l0 a).f3).f0) == (((rd l1 a).f3).f0)) && (((((rd l0 a).f3).f1) == (((rd l1 a).f3).f1)) && (((((rd l0 a).f3).f2) == (((rd l1 a).f3).f2)) && (((((rd l0 a).f3).f3) == (((rd l1 a).f3).f3)) && (((((rd l0 a).f3).f4) == (((rd l1 a).f3).f4)) && (((((rd l0 a).f3).f5) == (((rd l1 a).f3).f5)) && (((((rd l0 a).f3).f6) == (((rd l1 a).f3).f6)) && (((((rd l0 a).f3).f7) == (((rd l1 a).f3).f7)) && (((((rd l0 a).f3).f8) == (((rd l1 a).f3).f8)) && (((((rd l0 a).f3).f9) == (((rd l1 a).f3).f9)) && true)))))))))) && true))))) (p:=(rd l0 a) = (rd l1 a)) tC rfl rfl (by kernel_rfl) (tE (x:=rd l0 a) (y:=rd l1 a))) (h:=aV dd sH (aH (by kernel_rfl) (aa ?_)))))
   rcases bD H with⟨c,H⟩|⟨c,H⟩
   ·refine aC rfl c (aP (ad aW (h:=cD (aY (aF (aF (aY (aF (aF ?_)))))))))
    have h:=aN H;subst h
    have hb_:=dz b
    have hr_:=Option.some.inj hb_
    clear hb_
    subst hr_
    exact dJ [] ⟨rfl,rfl⟩
   refine aB rfl c (ao (aG (aa (ak (ad (bX rfl rfl) (h:=ad ar (h:=ah ?_)))))))
   exact aa ⟨E,Nat.lt_succ_self _,_,H,eb [0,1]⟩
  refine aB rfl z (ci (aX (aX (cj ?_))))
  have h:=aN H;subst h
  exact aa ⟨(),rfl,eb []⟩
 rintro e ds As ⟨F,ht,s⟩
 clear H
 subst ht
 replace b:=fi b
 have H:=b
 clear b
 refine aa (SA.of_St s fun junk=>aP (ad aW (h:=cD ?_)))
 have h:=aN H;subst h
 exact dJ [] ⟨rfl,rfl⟩


theorem zZ.ok {a0 : bJ} {a1 : bJ} {r : Bool} (H : mm.f k a0 a1 = some r) : dp Tryz.prog 59 #[.agg #[ae a0.f0,ae a0.f1,.slice af a0.f2.length ag],.agg #[ae a1.f0,ae a1.f1,.slice cE a1.f2.length cF]] [Ro bI af ag a0.f2,Ro bI cE cF a1.f2] (fun v B=>v = .bool r∧B = []):=by
 refine aj Tryz.func59 rfl rfl ?_
 unfold mm.f at H
 refine aP (o' (bO (h:=fun l=>o' (bO (h:=fun m=>ad aW (h:=cR (ad aA (h:=bq (aO 2) (h:=ad aA (h:=bq (aO 3) (h:=S' (bk rfl rfl) ?_)))))))))))
 refine S' ar ?_
 obtain⟨p,c,H⟩:=bi H
 refine dy 6 [(2,aI l),(3,aI m),(16,.bool p)] [aL l 26 [ae a0.f0,ae a0.f1,.slice af a0.f2.length ag],Ro bI af ag a0.f2,aL m 26 [ae a1.f0,ae a1.f1,.slice cE a1.f2.length cF],Ro bI cE cF a1.f2] ?_ fun junk=>?_
 ·by_cases b : a0.f0 = a1.f0
  ·refine aZ (ai b) aA (h:=cn (ai b) (aO 2) (h:=aZ (ai b) aA (h:=cn (ai b) (aO 3) (h:=aZ (ai b) (bk rfl rfl) (h:=bY (ai b) (h:=ah ?_))))))
   have x_:=fq c ((ai b));exact bH [2,0,3,1]
  refine ct 5 (al b) (ca (al b) (h:=ah ?_))
  have x_:=fp c ((al b));exact bH [2,0,3,1]
 refine S' ar ?_
 obtain⟨o,H,d⟩:=ac H
 refine dy 6 [(23,.bool o)] [] ?_ fun junk=>?_
 ·rcases bD H with⟨a,H⟩|⟨a,H⟩
  ·refine aZ a aA (h:=cn a (aO 0) (h:=aZ a aA (h:=z' a (aO 2) ?_)))
   obtain⟨q,j,H⟩:=ac H
   refine fR a (da [1,3] [0,1,2,3] (zW.ok (A0:=af) (c0:=ag) (A1:=cE) (c1:=cF) j) ?_)
   refine gJ a ?_
   have h:=aN H;subst h
   exact dQ []
  refine ct 5 (aK a) (fZ (aK a) ?_)
  have h:=aN H;subst h
  exact dQ []
 replace H:=d
 refine ad aW (h:=cD ?_)
 have h:=aN H;subst h
 exact dJ [] ⟨rfl,rfl⟩


theorem zX.ok {l0 : (List Int)} {g1 : Int → Option (Bool)} {A0 : Option Addr} {c0 : Nat} {fv1 : Value} {Fr1 : bC} (hg1 : ∀ {x0_ : Int} {r_ : Bool},g1 x0_ = some r_ → FC Tryz.prog fv1 [aM x0_] [Fr1] (fun v B=>∃ B0,(v = .bool r_∧B0 = [])∧B = B0 ++ [Fr1])) {r : Int} (H : ja.f k l0 g1 = some r) : dp Tryz.prog 115 #[.slice A0 l0.length c0,fv1] [sT A0 c0 l0,Fr1] (fun v B=>v = ae r∧B = [Fr1]):=by
 refine aj Tryz.func115 rfl rfl ?_
 unfold ja.f at H
 refine aP (ad aW (h:=eA (ad ar (h:=bT (ae (l0.length : Int)) (cP Tryz.underlying32 rfl) (h:=ad ar (h:=bA ?_))))))
 obtain⟨z,H,b⟩:=ac H
 refine bK (fun e ds As=>∃ (y : Unit),z = Out.go y∧St [] [Fr1] e ds As) ?_ ?_
 ·refine aT (cl (fun k_ e ds As=>∃ (a : Int),ja.l0 l0 g1 k_ a = some z∧St [(0,.slice A0 l0.length c0),(1,fv1),(7,ae (l0.length : Int)),(8,ae a)] [Fr1,sT A0 c0 l0] e ds As) (k:=k) ⟨_,H,jQ [1,0]⟩ ?_)
  clear H
  rintro p e ds As ⟨a,H,o⟩
  obtain _ | p:=p
  ·cases H
  rw [ja.l0] at H
  refine SA.of_St o fun junk=>aP (ad (cg rfl rfl) (h:=bA (ap ?_)))
  rcases bD H with⟨l,H⟩|⟨l,H⟩
  ·refine aC rfl l (ao (aa (ap (aT (aP (ad ar (h:=ad aW (h:=cR (ad ar (h:=ad ar (h:=S' ar ?_)))))))))))
   obtain⟨⟨s,u⟩,H⟩:=aS H
   refine bq (br (i:=a) Tryz.underlying32 jg rfl rfl (Src.ro (k:=1) rfl) s u) (h:=l' (bE (enc:=(fun x_ : Int=>[Value.int .i32 x_])) (i:=a) (j:=a.toNat * 1) (m:=0) (sz:=1) Tryz.underlying21 rfl rfl rfl rfl (Src.ro (k:=1) rfl) s u (fun _ _ h=>h) rfl) ?_)
   obtain⟨D,q,H⟩:=ac H
   refine o' (tk (vs:=[aM (rd l0 a)]) [0] [1] rfl rfl rfl rfl (hg1 (x0_:=rd l0 a) q) rfl ?_)
   rintro _ _⟨_,⟨rfl,rfl⟩,rfl⟩
   refine bA ?_
   rcases bD H with⟨c,H⟩|⟨c,H⟩
   ·refine aD rfl c (aP (ad ar (h:=ad aW (h:=cD (aY (aF (aF (aY (aF (aF ?_))))))))))
    have h:=aN H;subst h
    have hb_:=dz b
    have hr_:=Option.some.inj hb_
    clear hb_
    subst hr_
    exact dJ [0] ⟨rfl,rfl⟩
   refine aE rfl c (ao (aG (aa (ak (ad (bX rfl rfl) (h:=ad ar (h:=ah ?_)))))))
   exact aa ⟨p,Nat.lt_succ_self _,_,H,eb [0,1]⟩
  refine aB rfl l (ci (aX (aX (cj ?_))))
  have h:=aN H;subst h
  exact aa ⟨(),rfl,eb [0]⟩
 rintro e ds As ⟨y,ht,d⟩
 clear H
 subst ht
 replace b:=fi b
 have H:=b
 clear b
 refine aa (SA.of_St d fun junk=>aP (ad aW (h:=cD ?_)))
 have h:=aN H;subst h
 exact dJ [0] ⟨rfl,rfl⟩


theorem ED.ok {l0 : (List Int)} {g1 : Int → Option (Bool)} {A0 : Option Addr} {c0 : Nat} {fv1 : Value} {Fr1 : bC} (hg1 : ∀ {x0_ : Int} {r_ : Bool},g1 x0_ = some r_ → FC Tryz.prog fv1 [aM x0_] [Fr1] (fun v B=>∃ B0,(v = .bool r_∧B0 = [])∧B = B0 ++ [Fr1])) {r : Bool} (H : qc.f k l0 g1 = some r) : dp Tryz.prog 60 #[.slice A0 l0.length c0,fv1] [sT A0 c0 l0,Fr1] (fun v B=>v = .bool r∧B = [Fr1]):=by
 refine aj Tryz.func60 rfl rfl ?_
 unfold qc.f at H
 refine aP (ad aW (h:=cR (ad ar (h:=S' ar ?_))))
 obtain⟨b,a,H⟩:=ac H
 refine o' (da [0,1] [0] (zX.ok (A0:=A0) (c0:=c0) (g1:=g1) (fv1:=fv1) (Fr1:=Fr1) (hg1:=hg1) a) ?_)
 refine ad (dU rfl rfl) (h:=ad aW (h:=cD ?_))
 have h:=aN H;subst h
 exact dJ [0] ⟨rfl,rfl⟩


theorem qR.ok {a0 : aJ} {r : Bool} (H : eu.f k a0 = some r) : dp Tryz.prog 16 #[.agg (am a0 af ag ay az au av aw ax).toArray] (co a0 af ag ay az au av aw ax) (fun v B=>v = .bool r∧B = []):=by
 refine aj Tryz.func16 rfl rfl ?_
 unfold eu.f at H
 refine aP (o' (bO (h:=fun b=>ad aW (h:=cR (ad aA (h:=bq (cx b 0 4 [ae a0.f0.f0,ae a0.f0.f1,.slice af a0.f0.f2.length ag]) (h:=o' (cC (h:=fun d=>o' (bj d 0 5 [ae a0.f0.f0,ae a0.f0.f1,.slice af a0.f0.f2.length ag] (h:=eA (l' (cx d 0 5 [ae a0.f0.f0,ae a0.f0.f1,.slice af a0.f0.f2.length ag]) ?_))))))))))))
 obtain⟨r9,g5,H⟩:=ac H
 refine o' (da [0] [0,1,2,3,4,5] (zY.ok g5) ?_)
 refine ad (bU rfl) (h:=S' ar ?_)
 obtain⟨g8,H,e4⟩:=ac H
 refine dy 5 [(1,aI b),(3,aI d),(19,.bool g8)] (aL b 34 (am a0 af ag ay az au av aw ax)::(co a0 af ag ay az au av aw ax++[aL d 26 [ae a0.f0.f0,ae a0.f0.f1,.slice af a0.f0.f2.length ag]])) ?_ fun junk=>?_
 ·rcases bD H with⟨K,H⟩|⟨K,H⟩
  ·refine ct 4 K (gJ K ?_)
   have h:=aN H;subst h
   exact dQ [4,0,1,2,3,5]
  refine aZ (aK K) aA (h:=z' (aK K) (cx b 6 4 (bF a0.f4)) ?_)
  obtain⟨h8,e9,H⟩:=ac H
  refine fR (aK K) (da [] [0,1,2,3,4,5] (qb.ok e9) ?_)
  refine aZ (aK K) (bU rfl) (h:=fZ (aK K) ?_)
  have h:=aN H;subst h
  exact dQ [4,0,1,2,3,5]
 replace H:=e4
 refine S' ar ?_
 obtain⟨d5,H,e5⟩:=ac H
 refine dy 6 [(1,aI b),(3,aI d),(26,.bool d5)] (aL b 34 (am a0 af ag ay az au av aw ax)::(co a0 af ag ay az au av aw ax++[aL d 26 [ae a0.f0.f0,ae a0.f0.f1,.slice af a0.f0.f2.length ag]])) ?_ fun junk=>?_
 ·rcases bD H with⟨F,H⟩|⟨F,H⟩
  ·refine ct 5 F (gJ F ?_)
   have h:=aN H;subst h
   exact dQ [0,1,2,3,4,5]
  refine aZ (aK F) aA (h:=aZ (aK F) aA (h:=z' (aK F) (cx b 29 0 (bF a0.f14.f4)) ?_))
  obtain⟨h9,g0,H⟩:=ac H
  refine fR (aK F) (da [] [0,1,2,3,4,5] (qb.ok g0) ?_)
  refine aZ (aK F) (bU rfl) (h:=fZ (aK F) ?_)
  have h:=aN H;subst h
  exact dQ [0,1,2,3,4,5]
 replace H:=e5
 refine S' ar ?_
 obtain⟨d6,a7,H⟩:=bi H
 refine dy 4 [(1,aI b),(3,aI d),(31,.bool d6)] (aL b 34 (am a0 af ag ay az au av aw ax)::(co a0 af ag ay az au av aw ax++[aL d 26 [ae a0.f0.f0,ae a0.f0.f1,.slice af a0.f0.f2.length ag]])) ?_ fun junk=>?_
 ·by_cases L : d5 = true
  ·refine ct 3 L (bY L (h:=ah ?_))
   have x_:=ik a7 L;exact bH [0,1,2,3,4,5]
  refine aZ (aK L) aA (h:=cn (aK L) (aO 0) (h:=aZ (aK L) (cg rfl rfl) (h:=ca (aK L) (h:=ah ?_))))
  have x_:=ij a7 ((aK L));exact bH [0,1,2,3,4,5]
 refine S' ar ?_
 obtain⟨d7,a8,H⟩:=bi H
 refine dy 6 [(1,aI b),(3,aI d),(38,.bool d7)] (aL b 34 (am a0 af ag ay az au av aw ax)::(co a0 af ag ay az au av aw ax++[aL d 26 [ae a0.f0.f0,ae a0.f0.f1,.slice af a0.f0.f2.length ag]])) ?_ fun junk=>?_
 ·by_cases q : d6 = true
  ·refine ct 5 q (bY q (h:=ah ?_))
   have x_:=ik a8 q;exact bH [0,1,2,3,4,5]
  refine aZ (aK q) aA (h:=cn (aK q) (aO 0) (h:=aZ (aK q) aA (h:=cn (aK q) (aO 0) (h:=aZ (aK q) (eN rfl rfl) (h:=ca (aK q) (h:=ah ?_))))))
  have x_:=ij a8 ((aK q));exact bH [0,1,2,3,4,5]
 refine S' ar ?_
 obtain⟨g9,a9,H⟩:=bi H
 refine cI 6 (St [(1,aI b),(3,aI d),(45,.bool g9)] (aL b 34 (am a0 af ag ay az au av aw ax)::(co a0 af ag ay az au av aw ax++[aL d 26 [ae a0.f0.f0,ae a0.f0.f1,.slice af a0.f0.f2.length ag]]))) ?_ ?_
 ·by_cases s : d7 = true
  ·refine ct 5 s (bY s (h:=ah ?_))
   have x_:=ik a9 s;exact bH [0,1,2,3,4,5]
  refine aZ (aK s) aA (h:=cn (aK s) (aO 0) (h:=aZ (aK s) aA (h:=cn (aK s) (aO 5) (h:=aZ (aK s) (dU rfl rfl) (h:=ca (aK s) (h:=ah ?_))))))
  have x_:=ij a9 ((aK s));exact bH [0,1,2,3,4,5]
 rintro e ds As b9
 refine bA (SA.of_St b9 fun junk=>?_)
 rcases bD H with⟨a1,H⟩|⟨a1,H⟩
 ·refine aD rfl a1 (aP (ad aW (h:=cA ?_)))
  have h:=aN H;subst h
  exact dJ [] ⟨rfl,rfl⟩
 refine aE rfl a1 (ao (aa (ap (aP (ad aA (h:=bq (aO 0) (h:=ad aA (h:=bq (aO 0) (h:=ad aA (h:=bq (aO 0) (h:=bT (.agg (gM (dH.mk a0.f1 a0.f2 a0.f3 false fV)).toArray) dS (h:=S' aA ?_))))))))))))
 refine bq (cx b 25 0 (gM a0.f14)) (h:=bT (.agg (List.toArray (ae a0.f1::ae a0.f2::.bool a0.f3::.bool false::ae 0::ae 0::.bool false::.bool false::.bool false::.bool false::.bool false::.bool false::.bool false::.bool false::ae a0.f14.f0::ae a0.f14.f1::.bool a0.f14.f2::.bool a0.f14.f3::ae a0.f14.f4.f0::ae a0.f14.f4.f1::.bool a0.f14.f4.f2::.bool a0.f14.f4.f3::.bool a0.f14.f4.f4::.bool a0.f14.f4.f5::.bool a0.f14.f4.f6::.bool a0.f14.f4.f7::.bool a0.f14.f4.f8::.bool a0.f14.f4.f9::[]))) gG (h:=ad ar (h:=bA ?_)))
 obtain⟨e2,H,R⟩:=ac H
 refine bK (fun e ds As=>∃ (e0 : Unit),e2 = Out.go e0∧St [(1,aI b),(3,aI d)] (aL b 34 (am a0 af ag ay az au av aw ax)::(co a0 af ag ay az au av aw ax++[aL d 26 [ae a0.f0.f0,ae a0.f0.f1,.slice af a0.f0.f2.length ag]])) e ds As) ?_ ?_
 ·refine aT (cl (fun k_ e ds As=>∃ (a : Int),eu.l0 a0 k_ a = some e2∧St [(1,aI b),(3,aI d),(55,.agg (List.toArray (ae a0.f1::ae a0.f2::.bool a0.f3::.bool false::ae 0::ae 0::.bool false::.bool false::.bool false::.bool false::.bool false::.bool false::.bool false::.bool false::ae a0.f14.f0::ae a0.f14.f1::.bool a0.f14.f2::.bool a0.f14.f3::ae a0.f14.f4.f0::ae a0.f14.f4.f1::.bool a0.f14.f4.f2::.bool a0.f14.f4.f3::.bool a0.f14.f4.f4::.bool a0.f14.f4.f5::.bool a0.f14.f4.f6::.bool a0.f14.f4.f7::.bool a0.f14.f4.f8::.bool a0.f14.f4.f9::[]))),(56,ae a)] (aL b 34 (am a0 af ag ay az au av aw ax)::(co a0 af ag ay az au av aw ax++[aL d 26 [ae a0.f0.f0,ae a0.f0.f1,.slice af a0.f0.f2.length ag]])) e ds As) (k:=k) ⟨_,H,jQ [0,1,2,3,4,5]⟩ ?_)
  clear H
  rintro b4 e ds As ⟨a,H,c5⟩
  obtain _ | b4:=b4
  ·cases H
  rw [eu.l0] at H
  refine SA.of_St c5 fun junk=>aP (ad (cg rfl rfl) (h:=bA (ap ?_)))
  rcases bD H with⟨a2,H⟩|⟨a2,H⟩
  ·refine aC rfl a2 (ao (aa (ap (aT (aP ?_)))))
   obtain⟨⟨g6,g7⟩,H⟩:=aS H
   refine s' (.agg (gM (dH.mk ((rd ([(dH.mk a0.f1 a0.f2 a0.f3 false fV),a0.f14] : List dH) a).f0) ((rd ([(dH.mk a0.f1 a0.f2 a0.f3 false fV),a0.f14] : List dH) a).f1) ((rd ([(dH.mk a0.f1 a0.f2 a0.f3 false fV),a0.f14] : List dH) a).f2) ((rd ([(dH.mk a0.f1 a0.f2 a0.f3 false fV),a0.f14] : List dH) a).f3) ((rd ([(dH.mk a0.f1 a0.f2 a0.f3 false fV),a0.f14] : List dH) a).f4))).toArray) (sE (kd:=xS) (i:=a) (cs:=(ae a0.f1::ae a0.f2::.bool a0.f3::.bool false::ae 0::ae 0::.bool false::.bool false::.bool false::.bool false::.bool false::.bool false::.bool false::.bool false::ae a0.f14.f0::ae a0.f14.f1::.bool a0.f14.f2::.bool a0.f14.f3::ae a0.f14.f4.f0::ae a0.f14.f4.f1::.bool a0.f14.f4.f2::.bool a0.f14.f4.f3::.bool a0.f14.f4.f4::.bool a0.f14.f4.f5::.bool a0.f14.f4.f6::.bool a0.f14.f4.f7::.bool a0.f14.f4.f8::.bool a0.f14.f4.f9::[])) (xs:=([(dH.mk a0.f1 a0.f2 a0.f3 false fV),a0.f14] : List dH)) (vs:=(gM (dH.mk ((rd ([(dH.mk a0.f1 a0.f2 a0.f3 false fV),a0.f14] : List dH) a).f0) ((rd ([(dH.mk a0.f1 a0.f2 a0.f3 false fV),a0.f14] : List dH) a).f1) ((rd ([(dH.mk a0.f1 a0.f2 a0.f3 false fV),a0.f14] : List dH) a).f2) ((rd ([(dH.mk a0.f1 a0.f2 a0.f3 false fV),a0.f14] : List dH) a).f3) ((rd ([(dH.mk a0.f1 a0.f2 a0.f3 false fV),a0.f14] : List dH) a).f4)))) Tryz.underlying78 zk Tryz.underlying31 rfl rfl rfl (dR tA (fun _ _=>rfl) (by kernel_rfl) _) rfl rfl g6 g7 (fun _ h_=>by rw [h_]; rfl)) ?_
   refine o' (cC (h:=fun U=>o' (bj U 0 6 (gM (dH.mk ((rd ([(dH.mk a0.f1 a0.f2 a0.f3 false fV),a0.f14] : List dH) a).f0) ((rd ([(dH.mk a0.f1 a0.f2 a0.f3 false fV),a0.f14] : List dH) a).f1) ((rd ([(dH.mk a0.f1 a0.f2 a0.f3 false fV),a0.f14] : List dH) a).f2) ((rd ([(dH.mk a0.f1 a0.f2 a0.f3 false fV),a0.f14] : List dH) a).f3) ((rd ([(dH.mk a0.f1 a0.f2 a0.f3 false fV),a0.f14] : List dH) a).f4))) (h:=cR (ad aA (h:=bq (aO 6) (h:=ad (cg rfl rfl) (h:=S' ar ?_))))))))
   obtain⟨d8,b0,H⟩:=bi H
   refine dy 6 [(1,aI b),(3,aI d),(5,aI U),(55,.agg (List.toArray (ae a0.f1::ae a0.f2::.bool a0.f3::.bool false::ae 0::ae 0::.bool false::.bool false::.bool false::.bool false::.bool false::.bool false::.bool false::.bool false::ae a0.f14.f0::ae a0.f14.f1::.bool a0.f14.f2::.bool a0.f14.f3::ae a0.f14.f4.f0::ae a0.f14.f4.f1::.bool a0.f14.f4.f2::.bool a0.f14.f4.f3::.bool a0.f14.f4.f4::.bool a0.f14.f4.f5::.bool a0.f14.f4.f6::.bool a0.f14.f4.f7::.bool a0.f14.f4.f8::.bool a0.f14.f4.f9::[]))),(56,ae a),(68,.bool d8)] (aL b 34 (am a0 af ag ay az au av aw ax)::(co a0 af ag ay az au av aw ax++[aL d 26 [ae a0.f0.f0,ae a0.f0.f1,.slice af a0.f0.f2.length ag],aL U 31 (gM (dH.mk ((rd ([(dH.mk a0.f1 a0.f2 a0.f3 false fV),a0.f14] : List dH) a).f0) ((rd ([(dH.mk a0.f1 a0.f2 a0.f3 false fV),a0.f14] : List dH) a).f1) ((rd ([(dH.mk a0.f1 a0.f2 a0.f3 false fV),a0.f14] : List dH) a).f2) ((rd ([(dH.mk a0.f1 a0.f2 a0.f3 false fV),a0.f14] : List dH) a).f3) ((rd ([(dH.mk a0.f1 a0.f2 a0.f3 false fV),a0.f14] : List dH) a).f4)))])) ?_ fun junk=>?_
   ·by_cases u : ((rd ([(dH.mk a0.f1 a0.f2 a0.f3 false fV),a0.f14] : List dH) a).f0) < 0
    ·refine ct 5 (ai u) (bY (ai u) (h:=ah ?_))
     have x_:=ik b0 ((ai u));exact bH [0,1,2,3,4,5,6]
    refine aZ (al u) aA (h:=cn (al u) (aO 6) (h:=aZ (al u) aA (h:=cn (al u) (aO 5) (h:=aZ (al u) (dU rfl rfl) (h:=ca (al u) (h:=ah ?_))))))
    have x_:=ij b0 ((al u));exact bH [0,1,2,3,4,5,6]
   refine S' ar ?_
   obtain⟨d9,b1,H⟩:=bi H
   refine dy 4 [(1,aI b),(3,aI d),(5,aI U),(55,.agg (List.toArray (ae a0.f1::ae a0.f2::.bool a0.f3::.bool false::ae 0::ae 0::.bool false::.bool false::.bool false::.bool false::.bool false::.bool false::.bool false::.bool false::ae a0.f14.f0::ae a0.f14.f1::.bool a0.f14.f2::.bool a0.f14.f3::ae a0.f14.f4.f0::ae a0.f14.f4.f1::.bool a0.f14.f4.f2::.bool a0.f14.f4.f3::.bool a0.f14.f4.f4::.bool a0.f14.f4.f5::.bool a0.f14.f4.f6::.bool a0.f14.f4.f7::.bool a0.f14.f4.f8::.bool a0.f14.f4.f9::[]))),(56,ae a),(73,.bool d9)] (aL b 34 (am a0 af ag ay az au av aw ax)::(co a0 af ag ay az au av aw ax++[aL d 26 [ae a0.f0.f0,ae a0.f0.f1,.slice af a0.f0.f2.length ag],aL U 31 (gM (dH.mk ((rd ([(dH.mk a0.f1 a0.f2 a0.f3 false fV),a0.f14] : List dH) a).f0) ((rd ([(dH.mk a0.f1 a0.f2 a0.f3 false fV),a0.f14] : List dH) a).f1) ((rd ([(dH.mk a0.f1 a0.f2 a0.f3 false fV),a0.f14] : List dH) a).f2) ((rd ([(dH.mk a0.f1 a0.f2 a0.f3 false fV),a0.f14] : List dH) a).f3) ((rd ([(dH.mk a0.f1 a0.f2 a0.f3 false fV),a0.f14] : List dH) a).f4)))])) ?_ fun junk=>?_
   ·by_cases M : d8 = true
    ·refine ct 3 M (bY M (h:=ah ?_))
     have x_:=ik b1 M;exact bH [0,1,2,3,4,5,6]
    refine aZ (aK M) aA (h:=cn (aK M) (aO 6) (h:=aZ (aK M) (cg rfl rfl) (h:=ca (aK M) (h:=ah ?_))))
    have x_:=ij b1 ((aK M));exact bH [0,1,2,3,4,5,6]
   refine S' ar ?_
   obtain⟨h0,b2,H⟩:=bi H
   refine dy 6 [(1,aI b),(3,aI d),(5,aI U),(55,.agg (List.toArray (ae a0.f1::ae a0.f2::.bool a0.f3::.bool false::ae 0::ae 0::.bool false::.bool false::.bool false::.bool false::.bool false::.bool false::.bool false::.bool false::ae a0.f14.f0::ae a0.f14.f1::.bool a0.f14.f2::.bool a0.f14.f3::ae a0.f14.f4.f0::ae a0.f14.f4.f1::.bool a0.f14.f4.f2::.bool a0.f14.f4.f3::.bool a0.f14.f4.f4::.bool a0.f14.f4.f5::.bool a0.f14.f4.f6::.bool a0.f14.f4.f7::.bool a0.f14.f4.f8::.bool a0.f14.f4.f9::[]))),(56,ae a),(80,.bool h0)] (aL b 34 (am a0 af ag ay az au av aw ax)::(co a0 af ag ay az au av aw ax++[aL d 26 [ae a0.f0.f0,ae a0.f0.f1,.slice af a0.f0.f2.length ag],aL U 31 (gM (dH.mk ((rd ([(dH.mk a0.f1 a0.f2 a0.f3 false fV),a0.f14] : List dH) a).f0) ((rd ([(dH.mk a0.f1 a0.f2 a0.f3 false fV),a0.f14] : List dH) a).f1) ((rd ([(dH.mk a0.f1 a0.f2 a0.f3 false fV),a0.f14] : List dH) a).f2) ((rd ([(dH.mk a0.f1 a0.f2 a0.f3 false fV),a0.f14] : List dH) a).f3) ((rd ([(dH.mk a0.f1 a0.f2 a0.f3 false fV),a0.f14] : List dH) a).f4)))])) ?_ fun junk=>?_
   ·by_cases y : d9 = true
    ·refine ct 5 y (bY y (h:=ah ?_))
     have x_:=ik b2 y;exact bH [0,1,2,3,4,5,6]
    refine aZ (aK y) aA (h:=cn (aK y) (aO 6) (h:=aZ (aK y) aA (h:=cn (aK y) (aO 5) (h:=aZ (aK y) (dU rfl rfl) (h:=ca (aK y) (h:=ah ?_))))))
    have x_:=ij b2 ((aK y));exact bH [0,1,2,3,4,5,6]
   refine S' ar ?_
   obtain⟨h1,H,Y⟩:=ac H
   refine cI 11 (St [(1,aI b),(3,aI d),(55,.agg (List.toArray (ae a0.f1::ae a0.f2::.bool a0.f3::.bool false::ae 0::ae 0::.bool false::.bool false::.bool false::.bool false::.bool false::.bool false::.bool false::.bool false::ae a0.f14.f0::ae a0.f14.f1::.bool a0.f14.f2::.bool a0.f14.f3::ae a0.f14.f4.f0::ae a0.f14.f4.f1::.bool a0.f14.f4.f2::.bool a0.f14.f4.f3::.bool a0.f14.f4.f4::.bool a0.f14.f4.f5::.bool a0.f14.f4.f6::.bool a0.f14.f4.f7::.bool a0.f14.f4.f8::.bool a0.f14.f4.f9::[]))),(56,ae a),(92,.bool h1)] (aL b 34 (am a0 af ag ay az au av aw ax)::(co a0 af ag ay az au av aw ax++[aL d 26 [ae a0.f0.f0,ae a0.f0.f1,.slice af a0.f0.f2.length ag]]))) ?_ ?_
   ·rcases bD H with⟨p,H⟩|⟨p,H⟩
    ·refine ct 3 p (fY (fY (fY (fY (fY (fY (ct 1 p (gJ p ?_))))))))
     have h:=aN H;subst h
     exact dQ [0,1,2,3,4,5]
    refine aZ (aK p) aA (h:=cn (aK p) (aO 6) (h:=Y' (aK p) ar ?_))
    rcases bD H with⟨z,H⟩|⟨z,H⟩
    ·refine aZ z aA (h:=cn z (aO 6) (h:=aZ z aA (h:=cn z (aO 5) (h:=aZ z (cV rfl rfl) (h:=aZ z (dt rfl rfl) (h:=fR (aK p) (dB rfl (bR rfl (z) rfl) (fZ (aK p) ?_))))))))
     have h:=aN H;subst h
     exact dQ [0,1,2,3,4,5]
    refine ct 6 (aK z) (fR (aK p) (dB rfl (bL rfl (aK z) rfl) (fZ (aK p) ?_)))
    have h:=aN H;subst h
    exact dQ [0,1,2,3,4,5]
   rintro e ds As c6
   clear H
   have H:=Y
   clear Y
   refine bA (SA.of_St c6 fun junk=>?_)
   rcases bD H with⟨a3,H⟩|⟨a3,H⟩
   ·refine aD rfl a3 (aP (ad aW (h:=cD (aY (aF (aF (aY (aF (aF ?_)))))))))
    have h:=aN H;subst h
    have hb_:=dz R
    have hr_:=Option.some.inj hb_
    clear hb_
    subst hr_
    exact dJ [] ⟨rfl,rfl⟩
   refine aE rfl a3 (ao (aG (aa (ak (ad (bX rfl rfl) (h:=ad ar (h:=ah ?_)))))))
   exact aa ⟨b4,Nat.lt_succ_self _,_,H,eb [0,1,2,3,4,5]⟩
  refine aB rfl a2 (ci (aX (aX (cj ?_))))
  have h:=aN H;subst h
  exact aa ⟨(),rfl,eb [0,1,2,3,4,5]⟩
 rintro e ds As ⟨e0,ht,c7⟩
 clear H
 subst ht
 replace R:=fi R
 have H:=R
 clear R
 refine aa (SA.of_St c7 fun junk=>aP (ad aW (h:=eA (ad aA (h:=bq (aO 0) (h:=bT (ae (a0.f7.length : Int)) (cP Tryz.underlying29 rfl) (h:=ad ar (h:=bA ?_))))))))
 obtain⟨e3,H,S⟩:=ac H
 refine bK (fun e ds As=>∃ (e1 : Unit),e3 = Out.go e1∧St [(1,aI b),(3,aI d)] (aL b 34 (am a0 af ag ay az au av aw ax)::(co a0 af ag ay az au av aw ax++[aL d 26 [ae a0.f0.f0,ae a0.f0.f1,.slice af a0.f0.f2.length ag]])) e ds As) ?_ ?_
 ·refine aT (cl (fun k_ e ds As=>∃ (O : Int) (l : Int),eu.l1 a0 k_ O l = some e3∧St [(1,aI b),(3,aI d),(6,ae O),(95,.slice ay a0.f7.length az),(96,ae (a0.f7.length : Int)),(97,ae l)] (aL b 34 (am a0 af ag ay az au av aw ax)::(co a0 af ag ay az au av aw ax++[aL d 26 [ae a0.f0.f0,ae a0.f0.f1,.slice af a0.f0.f2.length ag]])) e ds As) (k:=k) ⟨_,_,H,jQ [0,1,2,3,4,5]⟩ ?_)
  clear H
  rintro b6 e ds As ⟨O,l,H,c8⟩
  obtain _ | b6:=b6
  ·cases H
  rw [eu.l1] at H
  refine SA.of_St c8 fun junk=>aP (ad (cg rfl rfl) (h:=bA (ap ?_)))
  rcases bD H with⟨a4,H⟩|⟨a4,H⟩
  ·refine aC rfl a4 (ao (aa (ap (aT (aP ?_)))))
   obtain⟨⟨d3,d4⟩,H⟩:=aS H
   refine bq (br (i:=l) Tryz.underlying29 jm rfl rfl (Src.ro (k:=2) rfl) d3 d4) (h:=l' (bE (enc:=(fun x_ : Int=>[Value.int .i64 x_])) (i:=l) (j:=l.toNat * 1) (m:=0) (sz:=1) Tryz.underlying3 rfl rfl rfl rfl (Src.ro (k:=2) rfl) d3 d4 (fun _ _ h=>h) rfl) ?_)
   obtain⟨n61,e8,H⟩:=bi H
   refine bT (ae n61) (bu (v:=ae n61) (congrArg (Value.int .i64) e8.symm)) (h:=eA (ad ar (h:=ad ar (h:=ad (gF rfl rfl) (h:=S' ar ?_)))))
   obtain⟨h3,b3,H⟩:=bi H
   refine cI 5 (St [(1,aI b),(3,aI d),(8,ae n61),(95,.slice ay a0.f7.length az),(96,ae (a0.f7.length : Int)),(97,ae l),(109,.bool h3)] (aL b 34 (am a0 af ag ay az au av aw ax)::(co a0 af ag ay az au av aw ax++[aL d 26 [ae a0.f0.f0,ae a0.f0.f1,.slice af a0.f0.f2.length ag]]))) ?_ ?_
   ·by_cases I : n61 ≤ O
    ·refine ct 4 (ai I) (bY (ai I) (h:=ah ?_))
     have x_:=ik b3 ((ai I));exact bH [0,1,2,3,4,5]
    refine aZ (al I) ar (h:=aZ (al I) aA (h:=cn (al I) (aO 5) (h:=aZ (al I) (dU rfl rfl) (h:=ca (al I) (h:=ah ?_)))))
    have x_:=ij b3 ((al I));exact bH [0,1,2,3,4,5]
   rintro e ds As c9
   refine bA (SA.of_St c9 fun junk=>?_)
   rcases bD H with⟨a5,H⟩|⟨a5,H⟩
   ·refine aD rfl a5 (aP (ad aW (h:=cA (aY (aF (aF (aY (aF (aF ?_)))))))))
    have h:=aN H;subst h
    have hb_:=dz S
    have hr_:=Option.some.inj hb_
    clear hb_
    subst hr_
    exact dJ [] ⟨rfl,rfl⟩
   refine aE rfl a5 (ao (aa (ak (ad ar (h:=ad aW (h:=ah (aG (aa (ak (ad (bX rfl rfl) (h:=ad ar (h:=ah ?_))))))))))))
   exact aa ⟨b6,Nat.lt_succ_self _,_,_,H,eb [0,1,2,3,4,5]⟩
  refine aB rfl a4 (ci (aX (aX (cj ?_))))
  have h:=aN H;subst h
  exact aa ⟨(),rfl,eb [0,1,2,3,4,5]⟩
 rintro e ds As ⟨e1,ht,d0⟩
 clear H
 subst ht
 replace S:=fi S
 have H:=S
 clear S
 refine aa (SA.of_St d0 fun junk=>ap (aP (ad aA (h:=bq (aO 0) (h:=S' ar ?_)))))
 obtain⟨h4,H,e6⟩:=ac H
 refine dy 21 [(1,aI b),(135,.bool h4)] (eD b a0 af ag ay az au av aw ax) ?_ fun junk=>?_
 ·rcases bD H with⟨c,H⟩|⟨c,H⟩
  ·refine aZ c aA (h:=z' c (cx b 40 0 [ae a0.f16.f0,ae a0.f16.f1,.slice au a0.f16.f2.length av]) ?_)
   obtain⟨i0,g2,H⟩:=ac H
   refine fR c (da [3] [0,1,2,3,4,5] (zY.ok g2) ?_)
   refine aZ c (bU rfl) (h:=Y' c ar ?_)
   rcases bD H with⟨D,H⟩|⟨D,H⟩
   ·refine ct 6 D (fR c (dB rfl (bR rfl (D) rfl) (aZ c ar (h:=ct 6 rfl (fR c (dB rfl (bR rfl (rfl) rfl) (gJ c ?_)))))))
    have h:=aN H;subst h
    exact dQ [0,1,2,3,4]
   refine aZ (aK D) aA (h:=aZ (aK D) aA (h:=cn (aK D) (aO 0) (h:=aZ (aK D) aA (h:=cn (aK D) (aO 5) (h:=aZ (aK D) (dt rfl rfl) (h:=fR c (dB rfl (bL rfl (aK D) rfl) (Y' c ar ?_))))))))
   rcases bD H with⟨E,H⟩|⟨E,H⟩
   ·refine ct 6 (ai E) (fR c (dB rfl (bR rfl (ai E) rfl) (gJ c ?_)))
    have h:=aN H;subst h
    exact dQ [0,1,2,3,4]
   refine aZ (al E) aA (h:=aZ (al E) aA (h:=cn (al E) (aO 0) (h:=aZ (al E) aA (h:=cn (al E) (aO 5) (h:=aZ (al E) (dt rfl rfl) (h:=fR c (dB rfl (bL rfl (al E) rfl) (gJ c ?_))))))))
   have h:=aN H;subst h
   exact dQ [0,1,2,3,4]
  refine ct 5 (aK c) (fY (fY (fY (fY (fY (fY (ct 2 (aK c) (fY (fY ?_)))))))))
  refine fY (fY (fY (fY (ct 1 (aK c) (fZ (aK c) ?_)))))
  have h:=aN H;subst h
  exact dQ [0,1,2,3,4]
 replace H:=e6
 refine S' ar ?_
 obtain⟨h5,H,Z⟩:=ac H
 refine cI 11 (St [(1,aI b),(147,.bool h5)] (eD b a0 af ag ay az au av aw ax)) ?_ ?_
 ·rcases bD H with⟨o,H⟩|⟨o,H⟩
  ·refine ct 4 o (fY (fY (fY (fY (fY (ct 1 o (gJ o ?_)))))))
   have h:=aN H;subst h
   exact dQ [0,1,2,3,4]
  refine aZ (aK o) aA (h:=cn (aK o) (aO 0) (h:=aZ (aK o) (bU rfl) (h:=Y' (aK o) ar ?_)))
  rcases bD H with⟨J,H⟩|⟨J,H⟩
  ·refine aZ J aA (h:=cn J (cx b 40 0 [ae a0.f16.f0,ae a0.f16.f1,.slice au a0.f16.f2.length av]) (h:=y' J (.agg #[ae 0,ae 0,.slice none 0 0]) dS ?_))
   obtain⟨i1,g3,H⟩:=ac H
   refine fR J (OA.ghost (Gh.nilRo bI none 0) (da [3,5] [0,1,2,3,4,5] (zZ.ok g3) ?_))
   refine aZ J (bU rfl) (h:=fR (aK o) (dB rfl (bR rfl (J) rfl) (fZ (aK o) ?_)))
   have h:=aN H;subst h
   exact dQ [0,1,2,3,4]
  refine ct 5 (aK J) (fR (aK o) (dB rfl (bL rfl (aK J) rfl) (fZ (aK o) ?_)))
  have h:=aN H;subst h
  exact dQ [0,1,2,3,4]
 rintro e ds As d1
 clear H
 have H:=Z
 clear Z
 refine bA (SA.of_St d1 fun junk=>?_)
 rcases bD H with⟨a6,H⟩|⟨a6,H⟩
 ·refine aD rfl a6 (aP (ad aW (h:=cA ?_)))
  have h:=aN H;subst h
  exact dJ [] ⟨rfl,rfl⟩
 refine aE rfl a6 (ao (aa (aP (ad aA (h:=bq (aO 0) (h:=bT (ae (a0.f17.length : Int)) (cP Tryz.underlying32 rfl) (h:=ad (gF rfl rfl) (h:=S' ar ?_))))))))
 obtain⟨h6,H,e7⟩:=ac H
 refine dy 5 [(157,.bool h6)] [] ?_ fun junk=>?_
 ·rcases bD H with⟨N,H⟩|⟨N,H⟩
  ·refine aZ (ai N) aA (h:=z' (ai N) (aO 0) ?_)
   obtain⟨h7,g4,H⟩:=ac H
   refine fR (ai N) (mu [4] [0,1,2,3,4] (dp.unpk (pre0:=[sT aw ax a0.f17]) (Bs:=[]) ((ED.ok (A0:=aw) (c0:=ax) (g1:=(fun (b8 : Int)=>uP.f b8)) (fv1:=.func (.func 61) #[] #[]) (Fr1:=Pk []) (hg1:=(fun {b8} {r_} C_=>FC.of (pre0:=[]) (Bs:=[]) (cap:=[]) Tryz.func61 Bc rfl ((uP.ok (a0:=b8) C_).mono (fun _ _ ⟨hv_,hB_⟩=>⟨_,⟨hv_,rfl⟩,hB_⟩)))) g4).mono (fun (v_ : Value) (B_ : List bC) ⟨hv_,hB_⟩=>(⟨[],⟨hv_,rfl⟩,hB_⟩ : ∃ d2 : List bC,(v_ = (.bool h7 : Value)∧d2 = [])∧B_ = d2 ++ [Pk []])))) ?_)
   rintro _ _⟨_,⟨rfl,rfl⟩,rfl⟩
   refine aZ (ai N) (bU rfl) (h:=gJ (ai N) ?_)
   have h:=aN H;subst h
   exact dQ []
  refine ct 4 (al N) (fZ (al N) ?_)
  have h:=aN H;subst h
  exact dQ []
 replace H:=e7
 refine ad aW (h:=cD ?_)
 have h:=aN H;subst h
 exact dJ [] ⟨rfl,rfl⟩


def iw.f (k : Nat) (a0 : aJ) (p2000 : Int) : Option (aJ × Int):=(eu.f k a0).bind (fun a=>if (!a) = true then (some (((aJ.mk (bJ.mk 0 0 ([] : (List ba))) 0 0 false (cN.mk 0 0 false false false false false false false false) 0 0 ([] : (List Int)) false false false false false false (dH.mk 0 0 false false (cN.mk 0 0 false false false false false false false false)) false (bJ.mk 0 0 ([] : (List ba))) ([] : (List Int))),2))) else ((ly.f a0).bind (fun b=>(ka.f k b p2000).bind (fun c=>some ((c,0))))))
theorem iw.ok {a0 : aJ} {p2000 : Int} {r : aJ × Int} (H : iw.f k a0 p2000 = some r) : dp Tryz.prog 62 #[.agg (am a0 af ag ay az au av aw ax).toArray,.func (.func 72) #[] #[.pointer (some ⟨bS,0,none⟩)]] (co a0 af ag ay az au av aw ax++[aL bS 21 [aM p2000]]) (fun v B=>∃ aQ aR bv bx bo bp bw bz,v = .tuple #[.agg (am r.1 aQ aR bv bx bo bp bw bz).toArray,ae r.2]∧B = (bn r.1 aQ aR bv bx bo bp bw bz++[aL bS 21 [aM p2000]])):=by
 refine aj Tryz.func62 rfl rfl ?_
 unfold iw.f at H
 refine aP (o' (bO (h:=fun b=>o' (cC (h:=fun I=>ad aW (h:=eA (l' (cm 5) ?_)))))))
 obtain⟨R,F,H⟩:=ac H
 refine o' (da [0,1,2,3] [0,1,2,3,4,5,6] (qR.ok F) ?_)
 refine ad (bU rfl) (h:=bA ?_)
 rcases bD H with⟨a,H⟩|⟨a,H⟩
 ·refine aD rfl a (aP (bT (.agg (am cB none 0 none 0 none 0 none 0).toArray) dS (h:=o' (bj I 0 6 (am cB none 0 none 0 none 0 none 0) (h:=ad aW (h:=cA ?_))))))
  have h:=aN H;subst h
  exact lX [.cell 4 34,.tmp 5] ((Gh.nilBuf bI 55).trans ((Gh.nilBuf (Kd.int .i64) 3).trans ((Gh.nilBuf bI 55).trans ((Gh.nilBuf (Kd.int .i32) 21).trans (fk [7,8,9,10,4]))))) ⟨none,0,none,0,none,0,none,0,rfl,rfl⟩ ⟨cW 6,cX,trivial⟩
 refine aE rfl a (ao (aa (aP (l' (cm 5) ?_))))
 obtain⟨N,E,H⟩:=ac H
 refine o' (ef [0,1,2,3] [0,1,2,3,4,5,6] (ly.ok E) fun s J u K y L z M=>?_)
 refine o' (bj b 0 9 (am N s J u K y L z M) (h:=cR (ad ar (h:=s' (.agg #[aI b]) dS ?_))))
 obtain⟨O,D,H⟩:=ac H
 refine o' (re [9,0,1,2,3,8] [4,5,6,7,10] (jj (vs:=[.agg #[aI b]]) (cap:=[aI bS]) rfl Tryz.func72 Be rfl rfl) (ka.ok (bg:=b) (ig:=bS) D) ?_)
 rintro _ _⟨c,m,d,o,j,p,l,q,rfl,rfl⟩
 refine cR (bq (cm 0) (h:=o' (bj I 0 10 (am O c m d o j p l q) (h:=ad aW (h:=cD ?_)))))
 have h:=aN H;subst h
 exact dE [.cell 4 34,.tmp 5] [1,2,3,4,5] ⟨c,m,d,o,j,p,l,q,rfl,rfl⟩ ⟨cW 10,cX,trivial⟩


def uO.f (k : Nat) (a0 : aJ) (a1 : Int) : Option (aJ × Int):=(iw.f k a0 a1).bind (fun a=>some ((a.1,a.2)))
theorem uO.ok {a0 : aJ} {a1 : Int} {r : aJ × Int} (H : uO.f k a0 a1 = some r) : dp Tryz.prog 27 #[.agg (am a0 af ag ay az au av aw ax).toArray,aM a1] (co a0 af ag ay az au av aw ax) (fun v B=>∃ aQ aR bv bx bo bp bw bz,v = .tuple #[.agg (am r.1 aQ aR bv bx bo bp bw bz).toArray,ae r.2]∧B = (bn r.1 aQ aR bv bx bo bp bw bz)):=by
 refine aj Tryz.func27 rfl rfl ?_
 unfold uO.f at H
 refine aP (o' (bO (h:=fun y=>o' (bO (h:=fun p=>o' (cC (h:=fun u=>ad aW (h:=cR (bq (cm 4) (h:=s' (.func (.func 72) #[] #[aI p]) (dP (us:=[aI p]) rfl) ?_))))))))))
 obtain⟨s,q,H⟩:=ac H
 refine o' (ef [0,1,2,3,5] [0,1,2,3,4,6] (iw.ok (bS:=p) q) fun a j b l c m d o=>?_)
 refine ad cw (h:=ad cw (h:=o' (bj u 0 10 (am s.1 a j b l c m d o) (h:=ad aW (h:=cD ?_)))))
 have h:=aN H;subst h
 exact dE [.cell 4 34,.tmp 5] [0,1,2,3] ⟨a,j,b,l,c,m,d,o,rfl,rfl⟩ ⟨cW 10,cX,trivial⟩


def pP.f (a0 : Int) : Option (Bool):=some (decide (a0 ≠ a0))
theorem pP.ok {a0 : Int} {r : Bool} (H : pP.f a0 = some r) : fU Tryz.prog 159 #[ae a0] [] (.bool r):=by
 refine aj Tryz.func159 rfl rfl ?_
 unfold pP.f at H
 refine aP (ad aW (h:=cR (ad ar (h:=ad ar (h:=ad (dt rfl rfl) (h:=ad aW (h:=cD ?_)))))))
 have h:=aN H;subst h
 exact dJ [] ⟨rfl,rfl⟩


def qQ.f (a0 : Int) (a1 : Int) : Option (Bool):=(pP.f a0).bind (fun c=>(if c = true then ((pP.f a1).bind (fun d=>some (!d))) else (some false) : Option Bool).bind (fun a=>lt (a || (decide (a0 < a1))) fun b=>some (b)))
theorem qQ.ok {a0 : Int} {a1 : Int} {r : Bool} (H : qQ.f a0 a1 = some r) : fU Tryz.prog 153 #[ae a0,ae a1] [] (.bool r):=by
 refine aj Tryz.func153 rfl rfl ?_
 unfold qQ.f at H
 refine aP (ad aW (h:=cR (S' ar ?_)))
 obtain⟨p,j,H⟩:=ac H
 refine o' (da [] [] (pP.ok j) ?_)
 refine S' ar ?_
 obtain⟨l,H,d⟩:=ac H
 refine dy 4 [(0,ae a0),(1,ae a1),(11,.bool l)] [] ?_ fun junk=>?_
 ·rcases bD H with⟨b,H⟩|⟨b,H⟩
  ·refine Y' b ar ?_
   obtain⟨q,m,H⟩:=ac H
   refine fR b (da [] [] (pP.ok m) ?_)
   refine aZ b (bU rfl) (h:=gJ b ?_)
   have h:=aN H;subst h
   exact dQ []
  refine ct 3 (aK b) (fZ (aK b) ?_)
  have h:=aN H;subst h
  exact dQ []
 replace H:=d
 refine S' ar ?_
 obtain⟨o,c,H⟩:=bi H
 refine dy 4 [(16,.bool o)] [] ?_ fun junk=>?_
 ·by_cases a : l = true
  ·refine ct 3 a (bY a (h:=ah ?_))
   have x_:=ik c a;exact bH []
  refine aZ (aK a) ar (h:=aZ (aK a) ar (h:=aZ (aK a) (cg rfl rfl) (h:=ca (aK a) (h:=ah ?_))))
  have x_:=ij c ((aK a));exact bH []
 refine ad aW (h:=cD ?_)
 have h:=aN H;subst h
 exact dJ [] ⟨rfl,rfl⟩


def pO.f (a0 : Int) : Option (Bool):=some (decide (a0 ≠ a0))
theorem pO.ok {a0 : Int} {r : Bool} (H : pO.f a0 = some r) : fU Tryz.prog 154 #[ae a0] [] (.bool r):=by
 refine aj Tryz.func154 rfl rfl ?_
 unfold pO.f at H
 refine aP (ad aW (h:=cR (ad ar (h:=ad ar (h:=ad (dt rfl rfl) (h:=ad aW (h:=cD ?_)))))))
 have h:=aN H;subst h
 exact dJ [] ⟨rfl,rfl⟩


def fT.l0 (l0 : (List Int)) (a1 : Int) : Nat → Int → Int → Option (Int)
  | 0,_,_=>none
  | k + 1,a,b=>if a < b then (lt (i64.wrap (iD .u64 (IntKind.u64.wrap (i64.wrap (a + b))) 1)) fun n7=>if 0 ≤ n7∧n7 < (l0.length : Int) then ((qQ.f (rd l0 n7) a1).bind (fun c=>if c = true then (lt (i64.wrap (n7 + 1)) fun n12=>fT.l0 l0 a1 k n12 b) else (fT.l0 l0 a1 k a n7))) else none) else (some a)
def fT.f (k : Nat) (l0 : (List Int)) (a1 : Int) : Option (Int × Bool):=lt ((l0.length : Int)) fun b=>(fT.l0 l0 a1 k 0 b : Option (Int)).bind (fun a=>(if a < b then (if 0 ≤ a∧a < (l0.length : Int) then (if (rd l0 a) = a1 then (some true) else (if 0 ≤ a∧a < (l0.length : Int) then ((pO.f (rd l0 a)).bind (fun d=>if d = true then ((pO.f a1).bind (fun h=>some h)) else (some false))) else none)) else none) else (some false) : Option Bool).bind (fun c=>some ((a,c))))
theorem fT.ok {l0 : (List Int)} {a1 : Int} {A0 : Option Addr} {c0 : Nat} {r : Int × Bool} (H : fT.f k l0 a1 = some r) : fU Tryz.prog 125 #[.slice A0 l0.length c0,ae a1] [gL 3 A0 c0 l0] (.tuple #[ae r.1,.bool r.2]):=by
 refine aj Tryz.func125 rfl rfl ?_
 unfold fT.f at H
 refine aP (ad aW (h:=ad aW (h:=cR (ad ar (h:=s' (ae (l0.length : Int)) (cP Tryz.underlying29 rfl) ?_)))))
 obtain⟨u,S,H⟩:=bi H
 refine bT (ae u) (bu (v:=ae u) (congrArg (Value.int .i64) S.symm)) (h:=cR (ad ar (h:=ad aW (h:=ad aW (h:=bA (ap ?_))))))
 obtain⟨o,H,y⟩:=ac H
 refine bK (St [(0,.slice A0 l0.length c0),(1,ae a1),(6,ae u),(7,ae o)] [gL 3 A0 c0 l0]) ?_ ?_
 ·refine aT (cl (fun k_ e ds As=>∃ (c : Int) (d : Int),fT.l0 l0 a1 k_ c d = some o∧St [(0,.slice A0 l0.length c0),(1,ae a1),(6,ae u),(7,ae c),(8,ae d)] [gL 3 A0 c0 l0] e ds As) (k:=k) ⟨_,_,H,jQ [0]⟩ ?_)
  clear H
  rintro s e ds As ⟨c,d,H,K⟩
  obtain _ | s:=s
  ·cases H
  rw [fT.l0] at H
  refine SA.of_St K fun junk=>ap (aP (ad ar (h:=ad ar (h:=ad (cg rfl rfl) (h:=bA ?_)))))
  rcases bD H with⟨I,H⟩|⟨I,H⟩
  ·refine aC rfl I (ao (aa (aT (aP (ad ar (h:=ad ar (h:=ad (bX rfl rfl) (h:=bT (.int .u64 (IntKind.u64.wrap (i64.wrap (c + d)))) (jS (T:=3) (by kernel_rfl) Tryz.underlying146 rfl) (h:=bT (.int .u64 (iD .u64 (IntKind.u64.wrap (i64.wrap (c + d))) 1)) (vR rfl rfl (by decide)) (h:=s' (ae (i64.wrap (iD .u64 (IntKind.u64.wrap (i64.wrap (c + d))) 1))) (jS (T:=146) (by kernel_rfl) Tryz.underlying3 rfl) ?_))))))))))
   obtain⟨n7,U,H⟩:=bi H
   refine bT (ae n7) (bu (v:=ae n7) (congrArg (Value.int .i64) U.symm)) (h:=cR (ad ar (h:=S' ar ?_)))
   obtain⟨⟨O,R⟩,H⟩:=aS H
   refine bq (br (i:=n7) Tryz.underlying29 jm rfl rfl (Src.buf (k:=0) rfl) O R) (h:=bq (bE (enc:=(fun x_ : Int=>[Value.int .i64 x_])) (i:=n7) (j:=n7.toNat * 1) (m:=0) (sz:=1) Tryz.underlying3 rfl rfl rfl rfl (Src.buf (k:=0) rfl) O R (fun _ _ h=>h) rfl) (h:=S' ar ?_))
   obtain⟨Z,L,H⟩:=ac H
   refine o' (da [] [0] (qQ.ok L) ?_)
   refine bA ?_
   rcases bD H with⟨p,H⟩|⟨p,H⟩
   ·refine aD rfl p (ak (ad ar (h:=S' (bX rfl rfl) ?_)))
    obtain⟨n12,J,H⟩:=bi H
    refine bT (ae n12) (bu (v:=ae n12) (congrArg (Value.int .i64) J.symm)) (h:=ah (aG ?_))
    exact aa ⟨s,Nat.lt_succ_self _,_,_,H,eb [0]⟩
   refine aE rfl p (ak (ad ar (h:=ad aW (h:=ah (aG ?_)))))
   exact aa ⟨s,Nat.lt_succ_self _,_,_,H,eb [0]⟩
  refine aB rfl I (ci (aX (aX (cj ?_))))
  have h:=aN H;subst h
  exact bH [0]
 rintro e ds As q
 clear H
 have H:=y
 clear y
 refine aa (SA.of_St q fun junk=>aP (ad ar (h:=ad ar (h:=ad ar (h:=ad (cg rfl rfl) (h:=S' ar ?_))))))
 obtain⟨Y,H,F⟩:=ac H
 refine dy 18 [(31,ae o),(53,.bool Y)] [gL 3 A0 c0 l0] ?_ fun junk=>?_
 ·rcases bD H with⟨a,H⟩|⟨a,H⟩
  ·refine aZ (ai a) ar (h:=Y' (ai a) ar ?_)
   obtain⟨⟨z,B⟩,H⟩:=aS H
   refine cn (ai a) (br (i:=o) Tryz.underlying29 jm rfl rfl (Src.buf (k:=0) rfl) z B) (h:=cn (ai a) (bE (enc:=(fun x_ : Int=>[Value.int .i64 x_])) (i:=o) (j:=o.toNat * 1) (m:=0) (sz:=1) Tryz.underlying3 rfl rfl rfl rfl (Src.buf (k:=0) rfl) z B (fun _ _ h=>h) rfl) (h:=aZ (ai a) ar (h:=aZ (ai a) (bk rfl rfl) (h:=Y' (ai a) ar ?_))))
   rcases bD H with⟨b,H⟩|⟨b,H⟩
   ·refine ct 6 (ai b) (fY (fY (ct 1 (ai b) (fR (ai a) (dB rfl (bR rfl (ai b) rfl) (gJ (ai a) ?_))))))
    have h:=aN H;subst h
    exact dQ [0]
   refine aZ (al b) ar (h:=Y' (al b) ar ?_)
   obtain⟨⟨D,E⟩,H⟩:=aS H
   refine cn (al b) (br (i:=o) Tryz.underlying29 jm rfl rfl (Src.buf (k:=0) rfl) D E) (h:=z' (al b) (bE (enc:=(fun x_ : Int=>[Value.int .i64 x_])) (i:=o) (j:=o.toNat * 1) (m:=0) (sz:=1) Tryz.underlying3 rfl rfl rfl rfl (Src.buf (k:=0) rfl) D E (fun _ _ h=>h) rfl) ?_)
   obtain⟨a0,N,H⟩:=ac H
   refine fR (al b) (da [] [0] (pO.ok N) ?_)
   refine Y' (al b) ar ?_
   rcases bD H with⟨l,H⟩|⟨l,H⟩
   ·refine Y' l ar ?_
    obtain⟨a2,M,H⟩:=ac H
    refine fR l (da [] [0] (pO.ok M) ?_)
    refine fR (al b) (dB rfl (bR rfl (l) rfl) (fR (ai a) (dB rfl (bL rfl (al b) rfl) (gJ (ai a) ?_))))
    have h:=aN H;subst h
    exact dQ [0]
   refine ct 2 (aK l) (fR (al b) (dB rfl (bL rfl (aK l) rfl) (fR (ai a) (dB rfl (bL rfl (al b) rfl) (gJ (ai a) ?_)))))
   have h:=aN H;subst h
   exact dQ [0]
  refine ct 7 (al a) (fY (fY (fY (fY (fY (fY (fY (fY (fY ?_)))))))))
  refine ct 1 (al a) (fZ (al a) ?_)
  have h:=aN H;subst h
  exact dQ [0]
 replace H:=F
 refine ad aW (h:=ad aW (h:=cD ?_))
 have h:=aN H;subst h
 exact xU [gL 3 A0 c0 l0] rfl rfl rfl (fk [0]) ⟨rfl,rfl⟩


def iq.f (k : Nat) (p0 : aJ) : Option (aJ):=if p0.f1 = p0.f5 then ((dk.f k p0 p0.f5 p0.f6 (-1) p0.f4).bind (fun a=>some (a))) else (if p0.f1 > 0 then (some (({ p0 with f1:=(i64.wrap (p0.f1 - 1)) }))) else (some (p0)))
theorem iq.ok {p0 : aJ} {r : aJ} (H : iq.f k p0 = some r) : dp Tryz.prog 126 #[.agg #[.pointer (some ⟨bg,0,none⟩)]] (cQ bg p0 af ag ay az au av aw ax) (fun v B=>∃ P0_0_ q0_0_ P0_1_ q0_1_ P0_2_ q0_2_ P0_3_ q0_3_,v = .tuple #[]∧B = (cQ bg r P0_0_ q0_0_ P0_1_ q0_1_ P0_2_ q0_2_ P0_3_ q0_3_)):=by
 refine aj Tryz.func126 rfl rfl ?_
 unfold iq.f at H
 refine aP (o' (bO (h:=fun F=>bA (aT (ap ?_)))))
 refine fg (dC 0 12) [0,5] (dC 1 4) fun _ _ _ _ _ sH dd pk=>?_
 refine bf 0 rfl sH aA (h:=bN 1 rfl sH (aO 1) (h:=bf 2 rfl sH cL (h:=bf 3 rfl sH aA (h:=bN 4 rfl sH (aO 0) (h:=bf 5 rfl sH aA (h:=bN 6 rfl sH (aO 1) (h:=bf 7 rfl sH cL (h:=bf 8 rfl sH aA (h:=r' 9 rfl sH (aO 0) ?_)))))))))
 refine bf 10 rfl sH (bk rfl rfl) (h:=bf 11 rfl sH aW (h:=aV dd sH (aH (by kernel_rfl) (aa ?_))))
 rcases bD H with⟨b,H⟩|⟨b,H⟩
 ·refine aC rfl b (bQ 2 fun u=>bQ 3 fun y=>bQ 4 fun z=>bQ 5 fun D=>?_)
  refine fg (dC 0 19) [0,1] (dC 2 4) fun _ _ _ _ _ sH dd pk=>?_
  refine bf 0 rfl sH aA (h:=bN 1 rfl sH (aO 1) (h:=bf 2 rfl sH cL (h:=bf 3 rfl sH aA (h:=bf 4 rfl sH aA (h:=bN 5 rfl sH (aO 1) (h:=bf 6 rfl sH cL (h:=bf 7 rfl sH aA (h:=bN 8 rfl sH (aO 0) (h:=T' 9 rfl sH aA ?_)))))))))
  refine bN 10 rfl sH (aO 1) (h:=bf 11 rfl sH cL (h:=bf 12 rfl sH aA (h:=bN 13 rfl sH (aO 0) (h:=bf 14 rfl sH aA (h:=bN 15 rfl sH (aO 1) (h:=bf 16 rfl sH cL (h:=bf 17 rfl sH aA (h:=bN 18 rfl sH (cx bg 6 0 (bF p0.f4)) (h:=aV dd sH ?_)))))))))
  obtain⟨E,m,H⟩:=ac H
  refine eG 19 rfl (ef [0,2,3,4,5] [1] (dk.ok (bg:=bg) m) fun c o d p j q l s=>?_)
  refine aH (by kernel_rfl) (aG ?_)
  have h:=aN H;subst h
  exact fH [0,1,2,3,4] ⟨c,o,d,p,j,q,l,s,rfl,rfl⟩
 refine aB rfl b (aP (ad aA (h:=bq (aO 1) (h:=ad cL (h:=ad aA (h:=bq (aO 0) (h:=ad (eN rfl rfl) (h:=ad aW (h:=bA ?_)))))))))
 rcases bD H with⟨a,H⟩|⟨a,H⟩
 ·refine aC rfl a (ak (ad aA (h:=bq (aO 1) (h:=ad cL (h:=ad aA (h:=bq (aO 0) (h:=ad (cV rfl rfl) (h:=ad cL (h:=S' aA ?_)))))))))
  refine o' (cJ 0 [ae (i64.wrap (p0.f1 - 1))] (h:=(ah (aG ?_))))
  have h:=aN H;subst h
  exact fH [0,2,3,4,5] ⟨af,ag,ay,az,au,av,aw,ax,rfl,rfl⟩
 refine aB rfl a (ao (aG ?_))
 have h:=aN H;subst h
 exact fH [0,2,3,4,5] ⟨af,ag,ay,az,au,av,aw,ax,rfl,rfl⟩


def iL.f (k : Nat) (p0 : aJ) (a1 : Int) : Option (aJ):=(if a1 = 8 then (some (Out.go ({ p0 with f2:=(fE (i64.wrap (p0.f2 - 1)) 0) }))) else (if a1 = 9 then ((fT.f k p0.f7 p0.f2).bind (fun b=>(if b.2 = true then (lt (i64.wrap (b.1 + 1)) fun c=>some c) else (some b.1) : Option (Int)).bind (fun a=>(dx.f p0).bind (fun d=>if a < (p0.f7.length : Int) then (if 0 ≤ a∧a < (p0.f7.length : Int) then (some (Out.go ({ p0 with f2:=(rd p0.f7 a) }))) else none) else (some (Out.go ({ p0 with f2:=d }))))))) else ((if a1 = 10 then (some (decide (a1 = 10))) else (if a1 = 11 then (some (decide (a1 = 11))) else (some (decide (a1 = 12)))) : Option (Bool)).bind (fun l=>if l = true then ((eZ.f k p0).bind (fun h=>some (Out.go h))) else (if a1 = 13 then (some (Out.go ({ p0 with f2:=0 }))) else (if a1 = 141 then ((iq.f k p0).bind (fun j=>some (Out.go j))) else (some (Out.ret (p0)))))))) : Option (Out (aJ) (aJ))).bind (fun o=>Out.el o (fun r_=>some r_) (fun m=>some (({ m with f3:=false }))))
theorem iL.ok {p0 : aJ} {a1 : Int} {r : aJ} (H : iL.f k p0 a1 = some r) : dp Tryz.prog 75 #[.agg #[.pointer (some ⟨bg,0,none⟩)],aM a1] (cQ bg p0 af ag ay az au av aw ax) (fun v B=>∃ P0_0_ q0_0_ P0_1_ q0_1_ P0_2_ q0_2_ P0_3_ q0_3_,v = .tuple #[]∧B = (cQ bg r P0_0_ q0_0_ P0_1_ q0_1_ P0_2_ q0_2_ P0_3_ q0_3_)):=by
 refine aj Tryz.func75 rfl rfl ?_
 unfold iL.f at H
 refine aP (o' (bO (h:=fun b=>eA (ad ar (h:=bA ?_)))))
 obtain⟨t8,H,z⟩:=ac H
 refine bK (fun e ds As=>∃ (s9 : aJ),t8 = Out.go s9∧∃ (E : Option Addr) (K : Nat),∃ (F : Option Addr) (L : Nat),∃ (I : Option Addr) (M : Nat),∃ (J : Option Addr) (N : Nat),St [(2,aI b)] (aL bg 34 (am s9 E K F L I M J N)::(bn s9 E K F L I M J N++[aL b 84 [aI bg]])) e ds As) ?_ ?_
 ·refine aT (aP (ad (bk rfl rfl) (h:=ad aW (h:=bA ?_))))
  rcases bD H with⟨a2,H⟩|⟨a2,H⟩
  ·refine aC rfl a2 ?_
   refine fg (dC 0 11) [0,5] (dC 1 4) fun _ _ _ _ _ sH dd pk=>?_
   refine bf 0 rfl sH aA (h:=bN 1 rfl sH (aO 1) (h:=bf 2 rfl sH aA (h:=bN 3 rfl sH (aO 1) (h:=bf 4 rfl sH cL (h:=bf 5 rfl sH aA (h:=bN 6 rfl sH (aO 0) (h:=bf 7 rfl sH (cV rfl rfl) (h:=kQ (ae (fE (i64.wrap (p0.f2 - 1)) 0)) 8 rfl sH (nN rfl rfl) (h:=T' 9 rfl sH cL ?_)))))))))
   refine bf 10 rfl sH aA (h:=aV dd sH (eG 11 rfl (cJ 0 [ae (fE (i64.wrap (p0.f2 - 1)) 0)] (h:=(aH (by kernel_rfl) (aG ?_))))))
   have h:=aN H;subst h
   exact aa ⟨({ p0 with f2:=(fE (i64.wrap (p0.f2 - 1)) 0) }),rfl,af,ag,ay,az,au,av,aw,ax,eb [0,2,3,4,5,1]⟩
  refine aB rfl a2 (aP (ad (bk rfl rfl) (h:=ad aW (h:=bA ?_))))
  rcases bD H with⟨D,H⟩|⟨D,H⟩
  ·refine aC rfl D (ap (bQ 1 fun e1=>bQ 2 fun e2=>bQ 3 fun e3=>bQ 4 fun e4=>?_))
   refine fg (0::1::2::3::4::5::6::7::8::9::11::12::13::14::15::[]) [0,5] (dC 1 4) fun _ _ _ _ _ sH dd pk=>?_
   refine bf 0 rfl sH aA (h:=bN 1 rfl sH (aO 1) (h:=bf 2 rfl sH cL (h:=bf 3 rfl sH aA (h:=bN 4 rfl sH (aO 0) (h:=bf 5 rfl sH aA (h:=bN 6 rfl sH (aO 1) (h:=bf 7 rfl sH cL (h:=bf 8 rfl sH aA (h:=r' 9 rfl sH (aO 0) ?_)))))))))
   obtain⟨e5,b2,H⟩:=ac H
   refine dT 10 rfl dd (da [1] [0,2,3] (fT.ok (A0:=ay) (c0:=az) b2) ?_)
   refine bf 11 rfl sH ar (h:=bf 12 rfl sH cw (h:=bf 13 rfl sH cw (h:=bf 14 rfl sH aW (h:=bf 15 rfl sH aW (h:=aV dd sH (aH (by kernel_rfl) (aa (ap (aP (ad ar (h:=bA ?_)))))))))))
   obtain⟨a,H,u⟩:=ac H
   refine bK (St [(2,aI b),(4,ae a)] (aL bg 34 (am p0 af ag ay az au av aw ax)::(bn p0 af ag ay az au av aw ax++[aL b 84 [aI bg]]))) ?_ ?_
   ·rcases bD H with⟨c,H⟩|⟨c,H⟩
    ·refine aD rfl c (ak (ad ar (h:=S' (bX rfl rfl) ?_)))
     obtain⟨S,a3,H⟩:=bi H
     refine bT (ae S) (bu (v:=ae S) (congrArg (Value.int .i64) a3.symm)) (h:=ah ?_)
     have h:=aN H;subst h
     exact bH [0,3,2,4,5,1]
    refine aE rfl c (ao ?_)
    have h:=aN H;subst h
    exact bH [0,3,2,4,5,1]
   rintro e ds As Y
   clear H
   have H:=u
   clear u
   refine aa (SA.of_St Y fun junk=>ap ?_)
   refine fg [0,1,2,4,5] [5] (dC 0 5) fun _ _ _ _ _ sH dd pk=>?_
   refine bf 0 rfl sH aA (h:=bN 1 rfl sH (aO 0) (h:=r' 2 rfl sH (cx b 0 0 [aI bg]) ?_))
   obtain⟨U,b3,H⟩:=ac H
   refine dT 3 rfl dd (da [0,1,2,3,4] [] (dx.ok (bg:=bg) b3) ?_)
   refine bf 4 rfl sH cL (h:=bf 5 rfl sH aA (h:=dT 6 rfl dd (cJ 0 [ae U] (h:=(aV dd sH (aH (by kernel_rfl) (aa (aP (ad ar (h:=ad aA (h:=bq (aO 0) (h:=S' cL ?_))))))))))))
   refine ad aA (h:=bq (aO 1) (h:=bT (ae (p0.f7.length : Int)) (cP Tryz.underlying29 rfl) (h:=ad (cg rfl rfl) (h:=bA ?_))))
   rcases bD H with⟨d,H⟩|⟨d,H⟩
   ·refine aC rfl d ?_
    refine fg (dC 0 12) [0,1,3] [2,4,5] fun _ _ _ _ _ sH dd pk=>?_
    refine bf 0 rfl sH aA (h:=bN 1 rfl sH (aO 0) (h:=bf 2 rfl sH aA (h:=bN 3 rfl sH (aO 0) (h:=bf 4 rfl sH cL (h:=bf 5 rfl sH aA (h:=bN 6 rfl sH (aO 1) (h:=T' 7 rfl sH ar ?_)))))))
    obtain⟨⟨O,R⟩,H⟩:=aS H
    refine bN 8 rfl sH (br (i:=a) Tryz.underlying29 jm rfl rfl (Src.buf (k:=2) rfl) O R) (h:=bN 9 rfl sH (bE (enc:=(fun x_ : Int=>[Value.int .i64 x_])) (i:=a) (j:=a.toNat * 1) (m:=0) (sz:=1) Tryz.underlying3 rfl rfl rfl rfl (Src.buf (k:=2) rfl) O R (fun _ _ h=>h) rfl) (h:=bf 10 rfl sH cL (h:=bf 11 rfl sH aA (h:=aV dd sH (eG 12 rfl (cJ 1 [ae (rd p0.f7 a)] (h:=(aH (by kernel_rfl) (aG ?_)))))))))
    have h:=aN H;subst h
    exact aa ⟨({ p0 with f2:=(rd p0.f7 a) }),rfl,af,ag,ay,az,au,av,aw,ax,eb [1,3,2,4,5,0]⟩
   refine aB rfl d (ao (aG ?_))
   have h:=aN H;subst h
   exact aa ⟨({ p0 with f2:=U }),rfl,af,ag,ay,az,au,av,aw,ax,eb [1,2,3,4,5,0]⟩
  refine aB rfl D (ap (aP (ad (bk rfl rfl) (h:=ad aW (h:=bA ?_)))))
  obtain⟨d2,H,y⟩:=ac H
  refine bK (St [(2,aI b),(6,aM a1),(65,.bool d2)] (aL bg 34 (am p0 af ag ay az au av aw ax)::(bn p0 af ag ay az au av aw ax++[aL b 84 [aI bg]]))) ?_ ?_
  ·rcases bD H with⟨l,H⟩|⟨l,H⟩
   ·refine aC rfl l (ao ?_)
    have h:=aN H;subst h
    exact bH [0,1,2,3,4,5]
   refine aB rfl l (aP (ad (bk rfl rfl) (h:=ad aW (h:=bA ?_))))
   rcases bD H with⟨o,H⟩|⟨o,H⟩
   ·refine aC rfl o (ao ?_)
    have h:=aN H;subst h
    exact bH [0,1,2,3,4,5]
   refine aB rfl o (ak (ad (bk rfl rfl) (h:=ad aW (h:=ah ?_))))
   have h:=aN H;subst h
   exact bH [0,1,2,3,4,5]
  rintro e ds As Z
  clear H
  have H:=y
  clear y
  refine aa (SA.of_St Z fun junk=>?_)
  rcases bD H with⟨p,H⟩|⟨p,H⟩
  ·refine aD rfl p (bQ 1 fun d3=>bQ 2 fun d4=>bQ 3 fun d5=>bQ 4 fun d6=>ak (l' (cx b 0 5 [aI bg]) ?_))
   obtain⟨d0,b4,H⟩:=ac H
   refine o' (ef [0,1,2,3,4] [5] (eZ.ok (bg:=bg) b4) fun a4 b7 a5 b8 a6 b9 a7 c5=>?_)
   refine ah (aG ?_)
   have h:=aN H;subst h
   exact aa ⟨d0,rfl,a4,b7,a5,b8,a6,b9,a7,c5,eb [0,1,2,3,4,5]⟩
  refine aE rfl p (aP (ad (bk rfl rfl) (h:=ad aW (h:=bA ?_))))
  rcases bD H with⟨q,H⟩|⟨q,H⟩
  ·refine aC rfl q (ak (ad aA (h:=bq (aO 5) (h:=ad cL (h:=ad aA (h:=o' (cJ 0 [ae 0] (h:=(ah (aG ?_))))))))))
   have h:=aN H;subst h
   exact aa ⟨({ p0 with f2:=0 }),rfl,af,ag,ay,az,au,av,aw,ax,eb [0,1,2,3,4,5]⟩
  refine aB rfl q (aP (ad (bk rfl rfl) (h:=ad aW (h:=bA ?_))))
  rcases bD H with⟨s,H⟩|⟨s,H⟩
  ·refine aC rfl s (bQ 1 fun d7=>bQ 2 fun d8=>bQ 3 fun d9=>bQ 4 fun e0=>ak (l' (cx b 0 5 [aI bg]) ?_))
   obtain⟨d1,b5,H⟩:=ac H
   refine o' (ef [0,1,2,3,4] [5] (iq.ok (bg:=bg) b5) fun a8 c6 a9 c7 b0 c8 b1 c9=>?_)
   refine ah (aG ?_)
   have h:=aN H;subst h
   exact aa ⟨d1,rfl,a8,c6,a9,c7,b0,c8,b1,c9,eb [0,1,2,3,4,5]⟩
  refine aB rfl s (eM (aY (aF (aF ?_))))
  have h:=aN H;subst h
  have hb_:=dz z
  have hr_:=Option.some.inj hb_
  clear hb_
  subst hr_
  exact kO (cQ bg p0 af ag ay az au av aw ax) rfl (fk [0,1,2,3,4]) ⟨af,ag,ay,az,au,av,aw,ax,rfl,rfl⟩
 rintro e ds As ⟨s9,ht,E,K,F,L,I,M,J,N,a0⟩
 clear H
 subst ht
 replace z:=fi z
 have H:=z
 clear z
 refine aa (SA.of_St a0 fun junk=>ak (ad aA (h:=bq (aO 5) (h:=ad cL (h:=ad aA (h:=o' (cJ 0 [.bool false] (h:=(ah ?_)))))))))
 have h:=aN H;subst h
 exact fH [0,1,2,3,4] ⟨E,K,F,L,I,M,J,N,rfl,rfl⟩


def kb.f (k : Nat) (p0 : aJ) (p1 : Int) : Option (aJ):=(iL.f k p0 p1).bind (fun a=>some (a))
theorem kb.ok {p0 : aJ} {p1 : Int} {r : aJ} (H : kb.f k p0 p1 = some r) : dp Tryz.prog 74 #[.agg #[.pointer (some ⟨bg,0,none⟩)],.pointer (some ⟨ig,0,none⟩)] (aL bg 34 (am p0 af ag ay az au av aw ax)::(bn p0 af ag ay az au av aw ax++[aL ig 21 [aM p1]])) (fun v B=>∃ P0_0_ q0_0_ P0_1_ q0_1_ P0_2_ q0_2_ P0_3_ q0_3_,v = .tuple #[]∧B = (aL bg 34 (am r P0_0_ q0_0_ P0_1_ q0_1_ P0_2_ q0_2_ P0_3_ q0_3_)::(bn r P0_0_ q0_0_ P0_1_ q0_1_ P0_2_ q0_2_ P0_3_ q0_3_++[aL ig 21 [aM p1]]))):=by
 refine aj Tryz.func74 rfl rfl ?_
 unfold kb.f at H
 refine aP (o' (bO (h:=fun q=>bA (bQ 1 fun z=>bQ 2 fun s=>bQ 3 fun u=>bQ 4 fun y=>ak (bq (cx q 0 6 [aI bg]) (h:=l' (aO 5) ?_))))))
 obtain⟨D,j,H⟩:=ac H
 refine o' (ef [0,1,2,3,4] [5,6] (iL.ok (bg:=bg) j) fun a l b m c o d p=>?_)
 refine ah ?_
 have h:=aN H;subst h
 exact fH [0,1,2,3,4,5] ⟨a,l,b,m,c,o,d,p,rfl,rfl⟩


def ix.f (k : Nat) (a0 : aJ) (p2000 : Int) : Option (aJ × Int):=(eu.f k a0).bind (fun a=>if (!a) = true then (some (((aJ.mk (bJ.mk 0 0 ([] : (List ba))) 0 0 false (cN.mk 0 0 false false false false false false false false) 0 0 ([] : (List Int)) false false false false false false (dH.mk 0 0 false false (cN.mk 0 0 false false false false false false false false)) false (bJ.mk 0 0 ([] : (List ba))) ([] : (List Int))),2))) else ((ly.f a0).bind (fun b=>(kb.f k b p2000).bind (fun c=>some ((c,0))))))
theorem ix.ok {a0 : aJ} {p2000 : Int} {r : aJ × Int} (H : ix.f k a0 p2000 = some r) : dp Tryz.prog 62 #[.agg (am a0 af ag ay az au av aw ax).toArray,.func (.func 74) #[] #[.pointer (some ⟨bS,0,none⟩)]] (co a0 af ag ay az au av aw ax++[aL bS 21 [aM p2000]]) (fun v B=>∃ aQ aR bv bx bo bp bw bz,v = .tuple #[.agg (am r.1 aQ aR bv bx bo bp bw bz).toArray,ae r.2]∧B = (bn r.1 aQ aR bv bx bo bp bw bz++[aL bS 21 [aM p2000]])):=by
 refine aj Tryz.func62 rfl rfl ?_
 unfold ix.f at H
 refine aP (o' (bO (h:=fun b=>o' (cC (h:=fun I=>ad aW (h:=eA (l' (cm 5) ?_)))))))
 obtain⟨R,F,H⟩:=ac H
 refine o' (da [0,1,2,3] [0,1,2,3,4,5,6] (qR.ok F) ?_)
 refine ad (bU rfl) (h:=bA ?_)
 rcases bD H with⟨a,H⟩|⟨a,H⟩
 ·refine aD rfl a (aP (bT (.agg (am cB none 0 none 0 none 0 none 0).toArray) dS (h:=o' (bj I 0 6 (am cB none 0 none 0 none 0 none 0) (h:=ad aW (h:=cA ?_))))))
  have h:=aN H;subst h
  exact lX [.cell 4 34,.tmp 5] ((Gh.nilBuf bI 55).trans ((Gh.nilBuf (Kd.int .i64) 3).trans ((Gh.nilBuf bI 55).trans ((Gh.nilBuf (Kd.int .i32) 21).trans (fk [7,8,9,10,4]))))) ⟨none,0,none,0,none,0,none,0,rfl,rfl⟩ ⟨cW 6,cX,trivial⟩
 refine aE rfl a (ao (aa (aP (l' (cm 5) ?_))))
 obtain⟨N,E,H⟩:=ac H
 refine o' (ef [0,1,2,3] [0,1,2,3,4,5,6] (ly.ok E) fun s J u K y L z M=>?_)
 refine o' (bj b 0 9 (am N s J u K y L z M) (h:=cR (ad ar (h:=s' (.agg #[aI b]) dS ?_))))
 obtain⟨O,D,H⟩:=ac H
 refine o' (re [9,0,1,2,3,8] [4,5,6,7,10] (jj (vs:=[.agg #[aI b]]) (cap:=[aI bS]) rfl Tryz.func74 Bf rfl rfl) (kb.ok (bg:=b) (ig:=bS) D) ?_)
 rintro _ _⟨c,m,d,o,j,p,l,q,rfl,rfl⟩
 refine cR (bq (cm 0) (h:=o' (bj I 0 10 (am O c m d o j p l q) (h:=ad aW (h:=cD ?_)))))
 have h:=aN H;subst h
 exact dE [.cell 4 34,.tmp 5] [1,2,3,4,5] ⟨c,m,d,o,j,p,l,q,rfl,rfl⟩ ⟨cW 10,cX,trivial⟩


def wv.f (k : Nat) (a0 : aJ) (a1 : Int) : Option (aJ × Int):=(ix.f k a0 a1).bind (fun a=>some ((a.1,a.2)))
theorem wv.ok {a0 : aJ} {a1 : Int} {r : aJ × Int} (H : wv.f k a0 a1 = some r) : dp Tryz.prog 28 #[.agg (am a0 af ag ay az au av aw ax).toArray,aM a1] (co a0 af ag ay az au av aw ax) (fun v B=>∃ aQ aR bv bx bo bp bw bz,v = .tuple #[.agg (am r.1 aQ aR bv bx bo bp bw bz).toArray,ae r.2]∧B = (bn r.1 aQ aR bv bx bo bp bw bz)):=by
 refine aj Tryz.func28 rfl rfl ?_
 unfold wv.f at H
 refine aP (o' (bO (h:=fun y=>o' (bO (h:=fun p=>o' (cC (h:=fun u=>ad aW (h:=cR (bq (cm 4) (h:=s' (.func (.func 74) #[] #[aI p]) (dP (us:=[aI p]) rfl) ?_))))))))))
 obtain⟨s,q,H⟩:=ac H
 refine o' (ef [0,1,2,3,5] [0,1,2,3,4,6] (ix.ok (bS:=p) q) fun a j b l c m d o=>?_)
 refine ad cw (h:=ad cw (h:=o' (bj u 0 10 (am s.1 a j b l c m d o) (h:=ad aW (h:=cD ?_)))))
 have h:=aN H;subst h
 exact dE [.cell 4 34,.tmp 5] [0,1,2,3] ⟨a,j,b,l,c,m,d,o,rfl,rfl⟩ ⟨cW 10,cX,trivial⟩


def kB.f (a0 : Int) (a1 : Int) (a2 : Int) : Option (Int):=lt (fE a1 (dm a0 a2)) fun a=>some (a)
theorem kB.ok {a0 : Int} {a1 : Int} {a2 : Int} {r : Int} (H : kB.f a0 a1 a2 = some r) : fU Tryz.prog 127 #[ae a0,ae a1,ae a2] [] (ae r):=by
 refine aj Tryz.func127 rfl rfl ?_
 unfold kB.f at H
 refine aP (ad aW (h:=cR (ad ar (h:=ad ar (h:=ad ar (h:=bT (ae (dm a0 a2)) (jL rfl rfl) (h:=s' (ae (fE a1 (dm a0 a2))) (nN rfl rfl) ?_)))))))
 obtain⟨b,a,H⟩:=bi H
 refine bT (ae b) (bu (v:=ae b) (congrArg (Value.int .i64) a.symm)) (h:=cD ?_)
 have h:=aN H;subst h
 exact dJ [] ⟨rfl,rfl⟩


def lT.f (a0 : Int) : Option (Int):=(kB.f a0 (-1024) 1024).bind (fun a=>some (a))
theorem lT.ok {a0 : Int} {r : Int} (H : lT.f a0 = some r) : fU Tryz.prog 128 #[ae a0] [] (ae r):=by
 refine aj Tryz.func128 rfl rfl ?_
 unfold lT.f at H
 refine aP (ad aW (h:=cR (S' ar ?_)))
 obtain⟨b,a,H⟩:=ac H
 refine o' (da [] [] (kB.ok a) ?_)
 refine ad aW (h:=cD ?_)
 have h:=aN H;subst h
 exact dJ [] ⟨rfl,rfl⟩

end Go.Proofs.YtckilbegmbaeeaaGreat.Z7

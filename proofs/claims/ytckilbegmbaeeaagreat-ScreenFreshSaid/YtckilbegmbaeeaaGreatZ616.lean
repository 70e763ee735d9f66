/- Walks. -/
import Derived.Test.YtckilbegmbaeeaaGreatZ614
import Derived.Test.YtckilbegmbaeeaaGreatZ615
namespace Go.Proofs.YtckilbegmbaeeaaGreat.Z6
open Go Go.RowKit Go.Proofs.YtckilbegmbaeeaaGreat.SL
set_option linter.unusedVariables false
set_option maxHeartbeats 20000000
set_option maxRecDepth 100000
set_option linter.unusedSimpArgs false
attribute [local irreducible] IntKind.wrap da fk gR kN kD po ky eS kF rd sub bytesOf ib dj
variable {ag az av ax cR dQ dG dR k : Nat}
variable {af ay au aw cQ dM dF dN : Option Addr}
theorem DY.ok {a0 : aJ} {a1 : qG} {r : aJ × Int} (H : pN.f k a0 a1 = some r) : dk Tryz.prog 13 #[.agg (al a0 af ag ay az au av aw ax).toArray,.agg #[.int .u8 a1.f0,ae a1.f1,ae a1.f2,.bool a1.f3]] (cH a0 af ag ay az au av aw ax) (fun v B=>∃ aS aT bv bx bq br bw bz,v = .tuple #[.agg (al r.1 aS aT bv bx bq br bw bz).toArray,ae r.2]∧B = (bn r.1 aS aT bv bx bq br bw bz)):=by
 refine aj Tryz.func13 rfl rfl ?_
 unfold pN.f at H
 refine aR (o' (bO (h:=fun b5=>o' (bO (h:=fun b7=>o' (cw (h:=fun a=>ad aW (h:=eD (ad aA (h:=bp (aP 5) (h:=bA (aQ (aR (S' (bk rfl rfl) ?_))))))))))))))
 refine ad aW (h:=bA ?_)
 rcases bE H with⟨f8,H⟩|⟨f8,H⟩
 ·refine aC rfl f8 (aR (bp (cm 4) (h:=ad aA (h:=bp (aP 5) (h:=s' (aL (IntKind.i32.wrap (a1.f1))) (jQ (T:=3) (by kernel_rfl) Tryz.underlying21 rfl) ?_)))))
  obtain⟨o1,n0,H⟩:=ac H
  refine o' (ed [0,1,2,3] [0,1,2,3,4,5,6] (Ea.ok n0) fun g4 i9 g5 j0 g6 j1 g7 j2=>?_)
  refine ad cr (h:=ad cr (h:=o' (bi a 0 10 (al o1.1 g4 i9 g5 j0 g6 j1 g7 j2) (h:=ad aW (h:=cC (ba (aG ?_)))))))
  have h:=aN H;subst h
  exact du [.cell 4 34,.tmp 5] [0,1,2,3] ⟨g4,i9,g5,j0,g6,j1,g7,j2,rfl,rfl⟩ ⟨cV 10,cW,trivial⟩
 refine aB rfl f8 (aR (ad (bk rfl rfl) (h:=ad aW (h:=bA ?_))))
 rcases bE H with⟨f9,H⟩|⟨f9,H⟩
 ·refine aC rfl f9 (aR (bp (cm 4) (h:=ad aA (h:=bp (aP 5) (h:=s' (aL (IntKind.i32.wrap (a1.f1))) (jQ (T:=3) (by kernel_rfl) Tryz.underlying21 rfl) ?_)))))
  obtain⟨o2,n1,H⟩:=ac H
  refine o' (ed [0,1,2,3] [0,1,2,3,4,5,6] (Eb.ok n1) fun g8 j3 g9 j4 h0 j5 h1 j6=>?_)
  refine ad cr (h:=ad cr (h:=o' (bi a 0 10 (al o2.1 g8 j3 g9 j4 h0 j5 h1 j6) (h:=ad aW (h:=cC (ba (aG ?_)))))))
  have h:=aN H;subst h
  exact du [.cell 4 34,.tmp 5] [0,1,2,3] ⟨g8,j3,g9,j4,h0,j5,h1,j6,rfl,rfl⟩ ⟨cV 10,cW,trivial⟩
 refine aB rfl f9 (aR (ad (bk rfl rfl) (h:=ad aW (h:=bA ?_))))
 rcases bE H with⟨g0,H⟩|⟨g0,H⟩
 ·refine aC rfl g0 (aR (bp (cm 4) (h:=ad aA (h:=bp (aP 5) (h:=ad aA (h:=l' (aP 5) ?_))))))
  obtain⟨o3,n2,H⟩:=ac H
  refine o' (ed [0,1,2,3] [0,1,2,3,4,5,6] (Ec.ok n2) fun h3 j7 h4 j8 h5 j9 h6 k0=>?_)
  refine ad cr (h:=ad cr (h:=o' (bi a 0 10 (al o3.1 h3 j7 h4 j8 h5 j9 h6 k0) (h:=ad aW (h:=cC (ba (aG ?_)))))))
  have h:=aN H;subst h
  exact du [.cell 4 34,.tmp 5] [0,1,2,3] ⟨h3,j7,h4,j8,h5,j9,h6,k0,rfl,rfl⟩ ⟨cV 10,cW,trivial⟩
 refine aB rfl g0 (aR (ad (bk rfl rfl) (h:=ad aW (h:=bA ?_))))
 rcases bE H with⟨g1,H⟩|⟨g1,H⟩
 ·refine aC rfl g1 (aR (bp (cm 4) (h:=ad aA (h:=bp (aP 5) (h:=ad aA (h:=l' (aP 5) ?_))))))
  obtain⟨o4,n3,H⟩:=ac H
  refine o' (ed [0,1,2,3] [0,1,2,3,4,5,6] (Ed.ok n3) fun h7 k1 h8 k2 h9 k3 i0 k4=>?_)
  refine ad cr (h:=ad cr (h:=o' (bi a 0 10 (al o4.1 h7 k1 h8 k2 h9 k3 i0 k4) (h:=ad aW (h:=cC (ba (aG ?_)))))))
  have h:=aN H;subst h
  exact du [.cell 4 34,.tmp 5] [0,1,2,3] ⟨h7,k1,h8,k2,h9,k3,i0,k4,rfl,rfl⟩ ⟨cV 10,cW,trivial⟩
 refine aB rfl g1 (aR (ad (bk rfl rfl) (h:=ad aW (h:=bA ?_))))
 rcases bE H with⟨g2,H⟩|⟨g2,H⟩
 ·refine aC rfl g2 (aR (bp (cm 4) (h:=ad aA (h:=bp (aP 5) (h:=ad aA (h:=l' (aP 5) ?_))))))
  obtain⟨o5,o0,H⟩:=ac H
  refine o' (ed [0,1,2,3] [0,1,2,3,4,5,6] (Ee.ok o0) fun i1 k5 i2 k6 i3 k7 i4 k8=>?_)
  refine ad cr (h:=ad cr (h:=o' (bi a 0 10 (al o5.1 i1 k5 i2 k6 i3 k7 i4 k8) (h:=ad aW (h:=cC (ba (aG ?_)))))))
  have h:=aN H;subst h
  exact du [.cell 4 34,.tmp 5] [0,1,2,3] ⟨i1,k5,i2,k6,i3,k7,i4,k8,rfl,rfl⟩ ⟨cV 10,cW,trivial⟩
 refine aB rfl g2 (aR (ad (bk rfl rfl) (h:=ad aW (h:=bA ?_))))
 rcases bE H with⟨g3,H⟩|⟨g3,H⟩
 ·refine aC rfl g3 (aR (bp (cm 4) (h:=ad aA (h:=l' (aP 5) ?_))))
  obtain⟨o6,l3,H⟩:=ac H
  refine o' (ed [0,1,2,3] [0,1,2,3,4,5,6] (Ef.ok l3) fun i5 k9 i6 l0 i7 l1 i8 l2=>?_)
  refine ad cr (h:=ad cr (h:=o' (bi a 0 10 (al o6.1 i5 k9 i6 l0 i7 l1 i8 l2) (h:=ad aW (h:=cC (ba (aG ?_)))))))
  have h:=aN H;subst h
  exact du [.cell 4 34,.tmp 5] [0,1,2,3] ⟨i5,k9,i6,l0,i7,l1,i8,l2,rfl,rfl⟩ ⟨cV 10,cW,trivial⟩
 refine aB rfl g3 (aR (ad (bk rfl rfl) (h:=ad aW (h:=bA ?_))))
 rcases bE H with⟨b,H⟩|⟨b,H⟩
 ·refine aC rfl b (aR (bp (cm 4) (h:=ad aA (h:=l' (aP 5) ?_))))
  obtain⟨m2,l4,H⟩:=ac H
  refine o' (ed [0,1,2,3] [0,1,2,3,4,5,6] (Eg.ok l4) fun q b4 s b6 u b8 y c5=>?_)
  refine ad cr (h:=ad cr (h:=o' (bi a 0 10 (al m2.1 q b4 s b6 u b8 y c5) (h:=ad aW (h:=cC (ba (aG ?_)))))))
  have h:=aN H;subst h
  exact du [.cell 4 34,.tmp 5] [0,1,2,3] ⟨q,b4,s,b6,u,b8,y,c5,rfl,rfl⟩ ⟨cV 10,cW,trivial⟩
 refine aB rfl b (aR (ad (bk rfl rfl) (h:=ad aW (h:=bA ?_))))
 rcases bE H with⟨c,H⟩|⟨c,H⟩
 ·refine aC rfl c (aR (bp (cm 4) (h:=ad aA (h:=l' (aP 5) ?_))))
  obtain⟨m3,l5,H⟩:=ac H
  refine o' (ed [0,1,2,3] [0,1,2,3,4,5,6] (Eh.ok l5) fun z c6 D c7 E c8 F c9=>?_)
  refine ad cr (h:=ad cr (h:=o' (bi a 0 10 (al m3.1 z c6 D c7 E c8 F c9) (h:=ad aW (h:=cC (ba (aG ?_)))))))
  have h:=aN H;subst h
  exact du [.cell 4 34,.tmp 5] [0,1,2,3] ⟨z,c6,D,c7,E,c8,F,c9,rfl,rfl⟩ ⟨cV 10,cW,trivial⟩
 refine aB rfl c (aR (ad (bk rfl rfl) (h:=ad aW (h:=bA ?_))))
 rcases bE H with⟨d,H⟩|⟨d,H⟩
 ·refine aC rfl d (aR (bp (cm 4) (h:=ad aA (h:=bp (aP 5) (h:=ad aA (h:=l' (aP 5) ?_))))))
  obtain⟨m4,l6,H⟩:=ac H
  refine o' (ed [0,1,2,3] [0,1,2,3,4,5,6] (Ei.ok l6) fun I d0 J d1 K d2 L d3=>?_)
  refine ad cr (h:=ad cr (h:=o' (bi a 0 10 (al m4.1 I d0 J d1 K d2 L d3) (h:=ad aW (h:=cC (ba (aG ?_)))))))
  have h:=aN H;subst h
  exact du [.cell 4 34,.tmp 5] [0,1,2,3] ⟨I,d0,J,d1,K,d2,L,d3,rfl,rfl⟩ ⟨cV 10,cW,trivial⟩
 refine aB rfl d (aR (ad (bk rfl rfl) (h:=ad aW (h:=bA (SA.of_St (l:=[(2,aH b5),(3,aH b7),(4,aH a),(7,.int .u8 a1.f0),(90,.bool (decide (a1.f0 = 9)))]) (B:=(aK b5 34 (al a0 af ag ay az au av aw ax)::(cH a0 af ag ay az au av aw ax++[aK b7 44 [.int .u8 a1.f0,ae a1.f1,ae a1.f2,.bool a1.f3],aK a 34 (al cy none 0 none 0 none 0 none 0)]))) (St.mk1 (cB rfl (cB rfl (cB rfl (cB rfl (cB rfl dS))))) (Gh.sel [4,0,1,2,3,5,6] (by kernel_rfl) (by kernel_rfl))) fun junk=>?_)))))
 rcases bE H with⟨j,H⟩|⟨j,H⟩
 ·refine aC rfl j (aR (bp (cm 0) (h:=ad aA (h:=l' (aP 5) ?_))))
  obtain⟨m5,l7,H⟩:=ac H
  refine o' (ed [1,2,3,4] [0,1,2,3,4,5,6] (Ej.ok l7) fun M d4 N d5 O d6 R d7=>?_)
  refine ad cr (h:=ad cr (h:=o' (bi a 0 10 (al m5.1 M d4 N d5 O d6 R d7) (h:=ad aW (h:=cC (ba (aG ?_)))))))
  have h:=aN H;subst h
  exact du [.cell 4 34,.tmp 5] [0,1,2,3] ⟨M,d4,N,d5,O,d6,R,d7,rfl,rfl⟩ ⟨cV 10,cW,trivial⟩
 refine aB rfl j (aR (ad (bk rfl rfl) (h:=ad aW (h:=bA ?_))))
 rcases bE H with⟨m,H⟩|⟨m,H⟩
 ·refine aC rfl m (aR (bp (cm 0) (h:=ad aA (h:=bp (aP 5) (h:=ad aA (h:=bp (aP 5) (h:=ad aA (h:=bp (aP 5) (h:=S' (eK rfl rfl) ?_)))))))))
  obtain⟨m6,l8,H⟩:=ac H
  refine o' (ed [1,2,3,4] [0,1,2,3,4,5,6] (Ek.ok l8) fun S d8 U d9 Y e0 Z e1=>?_)
  refine ad cr (h:=ad cr (h:=o' (bi a 0 10 (al m6.1 S d8 U d9 Y e0 Z e1) (h:=ad aW (h:=cC (ba (aG ?_)))))))
  have h:=aN H;subst h
  exact du [.cell 4 34,.tmp 5] [0,1,2,3] ⟨S,d8,U,d9,Y,e0,Z,e1,rfl,rfl⟩ ⟨cV 10,cW,trivial⟩
 refine aB rfl m (aR (ad (bk rfl rfl) (h:=ad aW (h:=bA ?_))))
 rcases bE H with⟨o,H⟩|⟨o,H⟩
 ·refine aC rfl o (aR (bp (cm 0) (h:=ad aA (h:=l' (aP 5) ?_))))
  obtain⟨m7,l9,H⟩:=ac H
  refine o' (ed [1,2,3,4] [0,1,2,3,4,5,6] (El.ok l9) fun a2 e2 a3 e3 a4 e4 a5 e5=>?_)
  refine ad cr (h:=ad cr (h:=o' (bi a 0 10 (al m7.1 a2 e2 a3 e3 a4 e4 a5 e5) (h:=ad aW (h:=cC (ba (aG ?_)))))))
  have h:=aN H;subst h
  exact du [.cell 4 34,.tmp 5] [0,1,2,3] ⟨a2,e2,a3,e3,a4,e4,a5,e5,rfl,rfl⟩ ⟨cV 10,cW,trivial⟩
 refine aB rfl o (aR (ad (bk rfl rfl) (h:=ad aW (h:=bA ?_))))
 rcases bE H with⟨p,H⟩|⟨p,H⟩
 ·refine aC rfl p (aR (bp (cm 0) (h:=ad aA (h:=l' (aP 5) ?_))))
  obtain⟨m8,m0,H⟩:=ac H
  refine o' (ed [1,2,3,4] [0,1,2,3,4,5,6] (Em.ok m0) fun a6 e6 a7 e7 a8 e8 a9 e9=>?_)
  refine ad cr (h:=ad cr (h:=o' (bi a 0 10 (al m8.1 a6 e6 a7 e7 a8 e8 a9 e9) (h:=ad aW (h:=cC (ba (aG ?_)))))))
  have h:=aN H;subst h
  exact du [.cell 4 34,.tmp 5] [0,1,2,3] ⟨a6,e6,a7,e7,a8,e8,a9,e9,rfl,rfl⟩ ⟨cV 10,cW,trivial⟩
 refine aB rfl p (ap (aF (aa (aR (bp (cm 0) (h:=ad aA (h:=bp (aP 5) (h:=ad aA (h:=l' (aP 5) ?_)))))))))
 obtain⟨m9,m1,H⟩:=ac H
 refine o' (ed [1,2,3,4] [0,1,2,3,4,5,6] (En.ok m1) fun b0 f4 b1 f5 b2 f6 b3 f7=>?_)
 refine ad cr (h:=ad cr (h:=o' (bi a 0 10 (al m9.1 b0 f4 b1 f5 b2 f6 b3 f7) (h:=ad aW (h:=cC ?_)))))
 have h:=aN H;subst h
 exact du [.cell 4 34,.tmp 5] [0,1,2,3] ⟨b0,f4,b1,f5,b2,f6,b3,f7,rfl,rfl⟩ ⟨cV 10,cW,trivial⟩


theorem BA.ok {a0 : bH} {a1 : bH} {r : Bool} (H : en.f k a0 a1 = some r) : dk Tryz.prog 18 #[.agg #[ae a0.f0,ae a0.f1,.slice af a0.f2.length ag],.agg #[ae a1.f0,ae a1.f1,.slice cQ a1.f2.length cR]] [Ro bD af ag a0.f2,Ro bD cQ cR a1.f2] (fun v B=>v = .bool r∧B = []):=by
 refine aj Tryz.func18 rfl rfl ?_
 unfold en.f at H
 refine aR (o' (bO (h:=fun o=>o' (bO (h:=fun q=>ad aW (h:=eD (ad aA (h:=bp (aP 2) (h:=ad aA (h:=bp (aP 3) (h:=S' (dK rfl rfl) ?_)))))))))))
 refine S' ar ?_
 obtain⟨Z,R,H⟩:=bj H
 refine dy 6 [(2,aH o),(3,aH q),(17,.bool Z)] [aK o 26 [ae a0.f0,ae a0.f1,.slice af a0.f2.length ag],Ro bD af ag a0.f2,aK q 26 [ae a1.f0,ae a1.f1,.slice cQ a1.f2.length cR],Ro bD cQ cR a1.f2] ?_ fun junk=>?_
 ·by_cases d : a0.f0 ≠ a1.f0
  ·refine cu 5 (ai d) (cd (ai d) (h:=ah ?_))
   have x_:=ji R ((ai d));exact bK [2,0,3,1]
  refine bf (am d) aA (h:=cE (am d) (aP 2) (h:=bf (am d) aA (h:=cE (am d) (aP 3) (h:=bf (am d) (dK rfl rfl) (h:=ck (am d) (h:=ah ?_))))))
  have x_:=jh R ((am d));exact bK [2,0,3,1]
 refine S' ar ?_
 obtain⟨Y,I,H⟩:=bj H
 refine cK 8 (St [(2,aH o),(3,aH q),(26,.bool Y)] [aK o 26 [ae a0.f0,ae a0.f1,.slice af a0.f2.length ag],Ro bD af ag a0.f2,aK q 26 [ae a1.f0,ae a1.f1,.slice cQ a1.f2.length cR],Ro bD cQ cR a1.f2]) ?_ ?_
 ·by_cases b : Z = true
  ·refine cu 7 b (cd b (h:=ah ?_))
   have x_:=ji I b;exact bK [0,1,2,3]
  refine bf (aM b) aA (h:=cE (aM b) (aP 0) (h:=iI (aM b) (ae (a0.f2.length : Int)) (cO Tryz.underlying24 rfl) (h:=bf (aM b) aA (h:=cE (aM b) (aP 2) (h:=iI (aM b) (ae (a1.f2.length : Int)) (cO Tryz.underlying24 rfl) (h:=bf (aM b) (dK rfl rfl) (h:=ck (aM b) (h:=ah ?_))))))))
  have x_:=jh I ((aM b));exact bK [0,1,2,3]
 rintro e ds As N
 refine bA (SA.of_St N fun junk=>?_)
 rcases bE H with⟨E,H⟩|⟨E,H⟩
 ·refine aD rfl E (aR (ad aW (h:=cD ?_)))
  have h:=aN H;subst h
  exact dX [] ⟨rfl,rfl⟩
 refine aE rfl E (ap (aa (ao (aR (ad aW (h:=bA ?_))))))
 obtain⟨U,H,c⟩:=ac H
 refine bI (fun e ds As=>∃ (S : Unit),U = Out.go S∧St [] [] e ds As) ?_ ?_
 ·refine aQ (cj (fun k_ e ds As=>∃ (a : Int),en.l0 a0 a1 k_ a = some U∧St [(2,aH o),(3,aH q),(5,ae a)] [aK o 26 [ae a0.f0,ae a0.f1,.slice af a0.f2.length ag],Ro bD af ag a0.f2,aK q 26 [ae a1.f0,ae a1.f1,.slice cQ a1.f2.length cR],Ro bD cQ cR a1.f2] e ds As) (k:=k) ⟨_,H,jV [0,1,2,3]⟩ ?_)
  clear H
  rintro K e ds As ⟨a,H,O⟩
  obtain _ | K:=K
  ·cases H
  rw [en.l0] at H
  refine SA.of_St O fun junk=>ao (aR (ad ar (h:=ad aA (h:=bp (aP 0) (h:=bP (ae (a0.f2.length : Int)) (cO Tryz.underlying24 rfl) (h:=ad (ce rfl rfl) (h:=bA ?_)))))))
  rcases bE H with⟨F,H⟩|⟨F,H⟩
  ·refine aC rfl F (ap (aa (ao (aQ (ao ?_)))))
   refine fj (dt 0 11) (dt 0 4) [1,3] fun _ _ _ _ _ sH dd pk=>?_
   refine bc 0 rfl sH aA (h:=bQ 1 rfl sH (aP 0) (h:=T' 2 rfl sH ar ?_))
   obtain⟨⟨s,u⟩,H⟩:=aO H
   refine bQ 3 rfl sH (bu (i:=a) Tryz.underlying24 cl rfl rfl (Src.ro (k:=1) rfl) s u) (h:=bQ 4 rfl sH (ci (enc:=cZ) (i:=a) (j:=a.toNat * 15) (m:=0) (sz:=15) (vs:=(bV (aY.mk ((rd a0.f2 a).f0) ((rd a0.f2 a).f1) ((rd a0.f2 a).f2) ((rd a0.f2 a).f3)))) Tryz.underlying55 rfl cl rfl rfl rfl (Src.ro (k:=1) rfl) s u (fun _ _ h=>h) rfl) (h:=bc 5 rfl sH aA (h:=bQ 6 rfl sH (aP 2) (h:=T' 7 rfl sH ar ?_))))
   obtain⟨⟨z,D⟩,H⟩:=aO H
   refine bQ 8 rfl sH (bu (i:=a) Tryz.underlying24 cl rfl rfl (Src.ro (k:=3) rfl) z D) (h:=bQ 9 rfl sH (ci (enc:=cZ) (i:=a) (j:=a.toNat * 15) (m:=0) (sz:=15) (vs:=(bV (aY.mk ((rd a1.f2 a).f0) ((rd a1.f2 a).f1) ((rd a1.f2 a).f2) ((rd a1.f2 a).f3)))) Tryz.underlying55 rfl cl rfl rfl rfl (Src.ro (k:=3) rfl) z D (fun _ _ h=>h) rfl) (h:=kV (.bool (decide ((rd a0.f2 a) ≠ (rd a1.f2 a)))) 10 rfl sH (lg (xs:=(bV (aY.mk ((rd a0.f2 a).f0) ((rd a0.f2 a).f1) ((rd a0.f2 a).f2) ((rd a0.f2 a).f3)))) (ys:=(bV (aY.mk ((rd a1.f2 a).f0) ((rd a1.f2 a).f1) ((rd a1.f2 a).f2) ((rd a1.f2 a).f3)))) (r:=((((rd a0.f2 a).f0) == ((rd a1.f2 a).f0)) && ((((((rd a0.f2 a).f1).f0) == (((rd a1.f2 a).f1).f0)) && (((((rd a0.f2 a).f1).f1) == (((rd a1.f2 a).f1).f1)) && (((((rd a0.f2 a).f1).f2) == (((rd a1.f2 a).f1).f2)) && true))) && ((((rd a0.f2 a).f2) == ((rd a1.f2 a).f2)) && ((((((rd a0.f2 a).f3).f0) == (((rd a1.f2 a).f3).f0)) && (((((rd a0.f2 a).f3).f1) == (((rd a1.f2 a).f3).f1)) && (((((rd a0.f2 a).f3).f2) == (((rd a1.f2 a).f3).f2)) && (((((rd a0.f2 a).f3).f3) == (((rd a1.f2 a).f3).f3)) && (((((rd a0.f2 a).f3).f4) == (((rd a1.f2 a).f3).f4)) && (((((rd a0.f2 a).f3).f5) == (((rd a1.f2 a).f3).f5)) && (((((rd a0.f2 a).f3).f6) == (((rd a1.f2 a).f3).f6)) && (((((rd a0.f2 a).f3).f7) == (((rd a1.f2 a).f3).f7)) && (((((rd a0.f2 a).f3).f8) == (((rd a1.f2 a).f3).f8)) && (((((rd a0.f2 a).f3).f9) == (((rd a1.f2 a).f3).f9)) && true)))))))))) && true))))) (p:=(rd a0.f2 a) = (rd a1.f2 a)) tw rfl rfl (by kernel_rfl) (tz (x:=rd a0.f2 a) (y:=rd a1.f2 a))) (h:=aV dd sH (aI (by kernel_rfl) (aa ?_)))))
   rcases bE H with⟨l,H⟩|⟨l,H⟩
   ·refine aC rfl l (aR (ad aW (h:=cC (ba (aG (aG (ba (aG (aG ?_)))))))))
    have h:=aN H;subst h
    have hb_:=dw c
    have hr_:=Option.some.inj hb_
    clear hb_
    subst hr_
    exact dX [] ⟨rfl,rfl⟩
   refine aB rfl l (ap (aF (aa (ak (ad ar (h:=S' (bW rfl rfl) ?_))))))
   obtain⟨L,M,H⟩:=bj H
   refine bP (ae L) (bo (v:=ae L) (congrArg (Value.int .i64) M.symm)) (h:=ah ?_)
   exact aa ⟨K,Nat.lt_succ_self _,_,H,dZ [0,1,2,3]⟩
  refine aB rfl F (cf (aX (aX (cg ?_))))
  have h:=aN H;subst h
  exact aa ⟨(),rfl,dZ []⟩
 rintro e ds As ⟨S,ht,J⟩
 clear H
 subst ht
 replace c:=fw c
 have H:=c
 clear c
 refine aa (SA.of_St J fun junk=>aR (ad aW (h:=cC ?_)))
 have h:=aN H;subst h
 exact dX [] ⟨rfl,rfl⟩


theorem DX.ok {a0 : aJ} {a1 : aJ} {r : Bool} (H : db.f k a0 a1 = some r) : dk Tryz.prog 10 #[.agg (al a0 af ag ay az au av aw ax).toArray,.agg (al a1 cQ cR dM dQ dF dG dN dR).toArray] (cH a0 af ag ay az au av aw ax++cH a1 cQ cR dM dQ dF dG dN dR) (fun v B=>v = .bool r∧B = []):=by
 refine aj Tryz.func10 rfl rfl ?_
 unfold db.f at H
 refine aR (o' (bO (h:=fun b=>o' (bO (h:=fun a=>ad aW (h:=eD (ad aA (h:=bp (cz b 0 8 [ae a0.f0.f0,ae a0.f0.f1,.slice af a0.f0.f2.length ag]) (h:=ad aA (h:=l' (cz a 0 9 [ae a1.f0.f0,ae a1.f0.f1,.slice cQ a1.f0.f2.length cR]) ?_))))))))))
 obtain⟨h8,g5,H⟩:=ac H
 refine o' (dc [0,4] [0,1,2,3,4,5,6,7,8,9] (BA.ok g5) ?_)
 refine ad (bX rfl) (h:=S' ar ?_)
 obtain⟨h0,H,h5⟩:=ac H
 refine dy 7 [(2,aH b),(3,aH a),(20,.bool h0)] (aK b 34 (al a0 af ag ay az au av aw ax)::(cH a0 af ag ay az au av aw ax++(fc a a1 cQ cR dM dQ dF dG dN dR))) ?_ fun junk=>?_
 ·rcases bE H with⟨R,H⟩|⟨R,H⟩
  ·refine cu 6 R (gN R ?_)
   have h:=aN H;subst h
   exact dL [8,0,1,2,3,9,4,5,6,7]
  refine bf (aM R) aA (h:=cE (aM R) (cz b 40 8 [ae a0.f16.f0,ae a0.f16.f1,.slice au a0.f16.f2.length av]) (h:=bf (aM R) aA (h:=z' (aM R) (cz a 40 9 [ae a1.f16.f0,ae a1.f16.f1,.slice dF a1.f16.f2.length dG]) ?_)))
  obtain⟨h9,h6,H⟩:=ac H
  refine fT (aM R) (dc [2,6] [0,1,2,3,4,5,6,7,8,9] (BA.ok h6) ?_)
  refine bf (aM R) (bX rfl) (h:=fZ (aM R) ?_)
  have h:=aN H;subst h
  exact dL [8,0,1,2,3,9,4,5,6,7]
 replace H:=h5
 refine S' ar ?_
 obtain⟨h1,e8,H⟩:=bj H
 refine dy 8 [(2,aH b),(3,aH a),(29,.bool h1)] (aK b 34 (al a0 af ag ay az au av aw ax)::(cH a0 af ag ay az au av aw ax++(fc a a1 cQ cR dM dQ dF dG dN dR))) ?_ fun junk=>?_
 ·by_cases N : h0 = true
  ·refine cu 7 N (cd N (h:=ah ?_))
   have x_:=ji e8 N;exact bK [0,1,2,3,4,5,6,7,8,9]
  refine bf (aM N) aA (h:=cE (aM N) (aP 0) (h:=iI (aM N) (ae (a0.f7.length : Int)) (cO Tryz.underlying29 rfl) (h:=bf (aM N) aA (h:=cE (aM N) (aP 5) (h:=iI (aM N) (ae (a1.f7.length : Int)) (cO Tryz.underlying29 rfl) (h:=bf (aM N) (dK rfl rfl) (h:=ck (aM N) (h:=ah ?_))))))))
  have x_:=jh e8 ((aM N));exact bK [0,1,2,3,4,5,6,7,8,9]
 refine S' ar ?_
 obtain⟨h7,e9,H⟩:=bj H
 refine cK 8 (St [(2,aH b),(3,aH a),(38,.bool h7)] (aK b 34 (al a0 af ag ay az au av aw ax)::(cH a0 af ag ay az au av aw ax++(fc a a1 cQ cR dM dQ dF dG dN dR)))) ?_ ?_
 ·by_cases O : h1 = true
  ·refine cu 7 O (cd O (h:=ah ?_))
   have x_:=ji e9 O;exact bK [0,1,2,3,4,5,6,7,8,9]
  refine bf (aM O) aA (h:=cE (aM O) (aP 0) (h:=iI (aM O) (ae (a0.f17.length : Int)) (cO Tryz.underlying32 rfl) (h:=bf (aM O) aA (h:=cE (aM O) (aP 5) (h:=iI (aM O) (ae (a1.f17.length : Int)) (cO Tryz.underlying32 rfl) (h:=bf (aM O) (dK rfl rfl) (h:=ck (aM O) (h:=ah ?_))))))))
  have x_:=jh e9 ((aM O));exact bK [0,1,2,3,4,5,6,7,8,9]
 rintro e ds As g7
 refine bA (SA.of_St g7 fun junk=>?_)
 rcases bE H with⟨e5,H⟩|⟨e5,H⟩
 ·refine aD rfl e5 (aR (ad aW (h:=cD ?_)))
  have h:=aN H;subst h
  exact dX [] ⟨rfl,rfl⟩
 refine aE rfl e5 (ap (aa (ao (aR (ad aW (h:=bA ?_))))))
 obtain⟨h4,H,U⟩:=ac H
 refine bI (fun e ds As=>∃ (h3 : Unit),h4 = Out.go h3∧St [(2,aH b),(3,aH a)] (aK b 34 (al a0 af ag ay az au av aw ax)::(cH a0 af ag ay az au av aw ax++(fc a a1 cQ cR dM dQ dF dG dN dR))) e ds As) ?_ ?_
 ·refine aQ (cj (fun k_ e ds As=>∃ (d : Int),db.l0 a0 a1 k_ d = some h4∧St [(2,aH b),(3,aH a),(5,ae d)] (aK b 34 (al a0 af ag ay az au av aw ax)::(cH a0 af ag ay az au av aw ax++(fc a a1 cQ cR dM dQ dF dG dN dR))) e ds As) (k:=k) ⟨_,H,jV [0,1,2,3,4,5,6,7,8,9]⟩ ?_)
  clear H
  rintro pF e ds As ⟨d,H,g8⟩
  obtain _ | pF:=pF
  ·cases H
  rw [db.l0] at H
  refine SA.of_St g8 fun junk=>ao (aR (ad ar (h:=ad aA (h:=bp (aP 0) (h:=bP (ae (a0.f7.length : Int)) (cO Tryz.underlying29 rfl) (h:=ad (ce rfl rfl) (h:=bA ?_)))))))
  rcases bE H with⟨e6,H⟩|⟨e6,H⟩
  ·refine aC rfl e6 (ap (aa (ao (aQ (ao ?_)))))
   refine fj (dt 0 11) (dt 0 10) [1,2,3,4,6,7,8,9] fun _ _ _ _ _ sH dd pk=>?_
   refine bc 0 rfl sH aA (h:=bQ 1 rfl sH (aP 0) (h:=T' 2 rfl sH ar ?_))
   obtain⟨⟨d9,e0⟩,H⟩:=aO H
   refine bQ 3 rfl sH (bu (i:=d) Tryz.underlying29 jl rfl rfl (Src.ro (k:=2) rfl) d9 e0) (h:=bQ 4 rfl sH (bJ (enc:=(fun x_ : Int=>[Value.int .i64 x_])) (i:=d) (j:=d.toNat * 1) (m:=0) (sz:=1) Tryz.underlying3 rfl rfl rfl rfl (Src.ro (k:=2) rfl) d9 e0 (fun _ _ h=>h) rfl) (h:=bc 5 rfl sH aA (h:=bQ 6 rfl sH (aP 5) (h:=T' 7 rfl sH ar ?_))))
   obtain⟨⟨e1,e2⟩,H⟩:=aO H
   refine bQ 8 rfl sH (bu (i:=d) Tryz.underlying29 jl rfl rfl (Src.ro (k:=7) rfl) e1 e2) (h:=bQ 9 rfl sH (bJ (enc:=(fun x_ : Int=>[Value.int .i64 x_])) (i:=d) (j:=d.toNat * 1) (m:=0) (sz:=1) Tryz.underlying3 rfl rfl rfl rfl (Src.ro (k:=7) rfl) e1 e2 (fun _ _ h=>h) rfl) (h:=bc 10 rfl sH (dK rfl rfl) (h:=aV dd sH (aI (by kernel_rfl) (aa (SA.of_St (l:=[(2,aH b),(3,aH a),(5,ae d),(56,.bool (decide ((rd a0.f7 d) ≠ (rd a1.f7 d))))]) (B:=(aK b 34 (al a0 af ag ay az au av aw ax)::(cH a0 af ag ay az au av aw ax++(fc a a1 cQ cR dM dQ dF dG dN dR)))) (St.mk1 (cB rfl (cB rfl (cB rfl (cB rfl dS)))) (Gh.sel [0,1,2,3,4,5,6,7,8,9] (by kernel_rfl) (by kernel_rfl))) fun junk=>?_))))))
   rcases bE H with⟨b4,H⟩|⟨b4,H⟩
   ·refine aC rfl b4 (aR (ad aW (h:=cC (ba (aG (aG (ba (aG (aG ?_)))))))))
    have h:=aN H;subst h
    have hb_:=dw U
    have hr_:=Option.some.inj hb_
    clear hb_
    subst hr_
    exact dX [] ⟨rfl,rfl⟩
   refine aB rfl b4 (ap (aF (aa (ak (ad ar (h:=S' (bW rfl rfl) ?_))))))
   obtain⟨g2,g6,H⟩:=bj H
   refine bP (ae g2) (bo (v:=ae g2) (congrArg (Value.int .i64) g6.symm)) (h:=ah ?_)
   exact aa ⟨pF,Nat.lt_succ_self _,_,H,dZ [0,1,2,3,4,5,6,7,8,9]⟩
  refine aB rfl e6 (cf (aX (aX (cg ?_))))
  have h:=aN H;subst h
  exact aa ⟨(),rfl,dZ [0,1,2,3,4,5,6,7,8,9]⟩
 rintro e ds As ⟨h3,ht,g0⟩
 clear H
 subst ht
 replace U:=fw U
 have H:=U
 clear U
 refine aa (SA.of_St g0 fun junk=>ao (aR (ad aW (h:=bA ?_))))
 obtain⟨g4,H,S⟩:=ac H
 refine bI (fun e ds As=>∃ (g3 : Unit),g4 = Out.go g3∧St [(2,aH b),(3,aH a)] (aK b 34 (al a0 af ag ay az au av aw ax)::(cH a0 af ag ay az au av aw ax++(fc a a1 cQ cR dM dQ dF dG dN dR))) e ds As) ?_ ?_
 ·refine aQ (cj (fun k_ e ds As=>∃ (c : Int),db.l1 a0 a1 k_ c = some g4∧St [(2,aH b),(3,aH a),(6,ae c)] (aK b 34 (al a0 af ag ay az au av aw ax)::(cH a0 af ag ay az au av aw ax++(fc a a1 cQ cR dM dQ dF dG dN dR))) e ds As) (k:=k) ⟨_,H,jV [0,1,2,3,4,5,6,7,8,9]⟩ ?_)
  clear H
  rintro b6 e ds As ⟨c,H,g1⟩
  obtain _ | b6:=b6
  ·cases H
  rw [db.l1] at H
  refine SA.of_St g1 fun junk=>ao (aR (ad ar (h:=ad aA (h:=bp (aP 0) (h:=bP (ae (a0.f17.length : Int)) (cO Tryz.underlying32 rfl) (h:=ad (ce rfl rfl) (h:=bA ?_)))))))
  rcases bE H with⟨b5,H⟩|⟨b5,H⟩
  ·refine aC rfl b5 (ap (aa (ao (aQ (ao ?_)))))
   refine fj (dt 0 11) (dt 0 10) [1,2,3,4,6,7,8,9] fun _ _ _ _ _ sH dd pk=>?_
   refine bc 0 rfl sH aA (h:=bQ 1 rfl sH (aP 0) (h:=T' 2 rfl sH ar ?_))
   obtain⟨⟨e3,e4⟩,H⟩:=aO H
   refine bQ 3 rfl sH (bu (i:=c) Tryz.underlying32 iB rfl rfl (Src.ro (k:=4) rfl) e3 e4) (h:=bQ 4 rfl sH (bJ (enc:=(fun x_ : Int=>[Value.int .i32 x_])) (i:=c) (j:=c.toNat * 1) (m:=0) (sz:=1) Tryz.underlying21 rfl rfl rfl rfl (Src.ro (k:=4) rfl) e3 e4 (fun _ _ h=>h) rfl) (h:=bc 5 rfl sH aA (h:=bQ 6 rfl sH (aP 5) (h:=T' 7 rfl sH ar ?_))))
   obtain⟨⟨b7,b8⟩,H⟩:=aO H
   refine bQ 8 rfl sH (bu (i:=c) Tryz.underlying32 iB rfl rfl (Src.ro (k:=9) rfl) b7 b8) (h:=bQ 9 rfl sH (bJ (enc:=(fun x_ : Int=>[Value.int .i32 x_])) (i:=c) (j:=c.toNat * 1) (m:=0) (sz:=1) Tryz.underlying21 rfl rfl rfl rfl (Src.ro (k:=9) rfl) b7 b8 (fun _ _ h=>h) rfl) (h:=bc 10 rfl sH (dK rfl rfl) (h:=aV dd sH (aI (by kernel_rfl) (aa (SA.of_St (l:=[(2,aH b),(3,aH a),(6,ae c),(74,.bool (decide ((rd a0.f17 c) ≠ (rd a1.f17 c))))]) (B:=(aK b 34 (al a0 af ag ay az au av aw ax)::(cH a0 af ag ay az au av aw ax++(fc a a1 cQ cR dM dQ dF dG dN dR)))) (St.mk1 (cB rfl (cB rfl (cB rfl (cB rfl dS)))) (Gh.sel [0,1,2,3,4,5,6,7,8,9] (by kernel_rfl) (by kernel_rfl))) fun junk=>?_))))))
   rcases bE H with⟨Y,H⟩|⟨Y,H⟩
   ·refine aC rfl Y (aR (ad aW (h:=cC (ba (aG (aG (ba (aG (aG ?_)))))))))
    have h:=aN H;subst h
    have hb_:=dw S
    have hr_:=Option.some.inj hb_
    clear hb_
    subst hr_
    exact dX [] ⟨rfl,rfl⟩
   refine aB rfl Y (ap (aF (aa (ak (ad ar (h:=S' (bW rfl rfl) ?_))))))
   obtain⟨c5,e7,H⟩:=bj H
   refine bP (ae c5) (bo (v:=ae c5) (congrArg (Value.int .i64) e7.symm)) (h:=ah ?_)
   exact aa ⟨b6,Nat.lt_succ_self _,_,H,dZ [0,1,2,3,4,5,6,7,8,9]⟩
  refine aB rfl b5 (cf (aX (aX (cg ?_))))
  have h:=aN H;subst h
  exact aa ⟨(),rfl,dZ [0,1,2,3,4,5,6,7,8,9]⟩
 rintro e ds As ⟨g3,ht,d8⟩
 clear H
 subst ht
 replace S:=fw S
 have H:=S
 clear S
 refine aa (SA.of_St d8 fun junk=>aR (ad aA (h:=bp (aP 0) (h:=ad aA (h:=bp (aP 5) (h:=ad (bk rfl rfl) (h:=S' ar ?_)))))))
 obtain⟨c6,Z,H⟩:=bj H
 refine dy 6 [(2,aH b),(3,aH a),(86,.bool c6)] (aK b 34 (al a0 af ag ay az au av aw ax)::(cH a0 af ag ay az au av aw ax++(fc a a1 cQ cR dM dQ dF dG dN dR))) ?_ fun junk=>?_
 ·by_cases o : a0.f1 = a1.f1
  ·refine bf (ai o) aA (h:=cE (ai o) (aP 0) (h:=bf (ai o) aA (h:=cE (ai o) (aP 5) (h:=bf (ai o) (bk rfl rfl) (h:=cd (ai o) (h:=ah ?_))))))
   have x_:=fD Z ((ai o));exact bK [0,1,2,3,4,5,6,7,8,9]
  refine cu 5 (am o) (ck (am o) (h:=ah ?_))
  have x_:=fC Z ((am o));exact bK [0,1,2,3,4,5,6,7,8,9]
 refine S' ar ?_
 obtain⟨c7,a2,H⟩:=bj H
 refine dy 6 [(2,aH b),(3,aH a),(93,.bool c7)] (aK b 34 (al a0 af ag ay az au av aw ax)::(cH a0 af ag ay az au av aw ax++(fc a a1 cQ cR dM dQ dF dG dN dR))) ?_ fun junk=>?_
 ·by_cases q : c6 = true
  ·refine bf q aA (h:=cE q (aP 0) (h:=bf q aA (h:=cE q (aP 5) (h:=iI q (.bool (decide (a0.f3 = a1.f3))) (gJ Tryz.underlying4 rfl rfl) (h:=cd q (h:=ah ?_))))))
   have x_:=fD a2 q;exact bK [0,1,2,3,4,5,6,7,8,9]
  refine cu 5 (aM q) (ck (aM q) (h:=ah ?_))
  have x_:=fC a2 ((aM q));exact bK [0,1,2,3,4,5,6,7,8,9]
 refine S' ar ?_
 obtain⟨c8,a3,H⟩:=bj H
 refine dy 6 [(2,aH b),(3,aH a),(100,.bool c8)] (aK b 34 (al a0 af ag ay az au av aw ax)::(cH a0 af ag ay az au av aw ax++(fc a a1 cQ cR dM dQ dF dG dN dR))) ?_ fun junk=>?_
 ·by_cases s : c7 = true
  ·refine bf s aA (h:=cE s (cz b 6 0 (bF a0.f4)) (h:=bf s aA (h:=cE s (cz a 6 5 (bF a1.f4)) (h:=iI s (.bool (decide (a0.f4 = a1.f4))) (kC (xs:=(bF a0.f4)) (ys:=(bF a1.f4)) (r:=((a0.f4.f0 == a1.f4.f0) && ((a0.f4.f1 == a1.f4.f1) && ((a0.f4.f2 == a1.f4.f2) && ((a0.f4.f3 == a1.f4.f3) && ((a0.f4.f4 == a1.f4.f4) && ((a0.f4.f5 == a1.f4.f5) && ((a0.f4.f6 == a1.f4.f6) && ((a0.f4.f7 == a1.f4.f7) && ((a0.f4.f8 == a1.f4.f8) && ((a0.f4.f9 == a1.f4.f9) && true))))))))))) (p:=a0.f4 = a1.f4) lR rfl rfl (by kernel_rfl) (lS (x:=a0.f4) (y:=a1.f4))) (h:=cd s (h:=ah ?_))))))
   have x_:=fD a3 s;exact bK [0,1,2,3,4,5,6,7,8,9]
  refine cu 5 (aM s) (ck (aM s) (h:=ah ?_))
  have x_:=fC a3 ((aM s));exact bK [0,1,2,3,4,5,6,7,8,9]
 refine S' ar ?_
 obtain⟨c9,a4,H⟩:=bj H
 refine dy 6 [(2,aH b),(3,aH a),(107,.bool c9)] (aK b 34 (al a0 af ag ay az au av aw ax)::(cH a0 af ag ay az au av aw ax++(fc a a1 cQ cR dM dQ dF dG dN dR))) ?_ fun junk=>?_
 ·by_cases u : c8 = true
  ·refine bf u aA (h:=cE u (aP 0) (h:=bf u aA (h:=cE u (aP 5) (h:=bf u (bk rfl rfl) (h:=cd u (h:=ah ?_))))))
   have x_:=fD a4 u;exact bK [0,1,2,3,4,5,6,7,8,9]
  refine cu 5 (aM u) (ck (aM u) (h:=ah ?_))
  have x_:=fC a4 ((aM u));exact bK [0,1,2,3,4,5,6,7,8,9]
 refine S' ar ?_
 obtain⟨d0,a5,H⟩:=bj H
 refine dy 6 [(2,aH b),(3,aH a),(114,.bool d0)] (aK b 34 (al a0 af ag ay az au av aw ax)::(cH a0 af ag ay az au av aw ax++(fc a a1 cQ cR dM dQ dF dG dN dR))) ?_ fun junk=>?_
 ·by_cases z : c9 = true
  ·refine bf z aA (h:=cE z (aP 0) (h:=bf z aA (h:=cE z (aP 5) (h:=bf z (bk rfl rfl) (h:=cd z (h:=ah ?_))))))
   have x_:=fD a5 z;exact bK [0,1,2,3,4,5,6,7,8,9]
  refine cu 5 (aM z) (ck (aM z) (h:=ah ?_))
  have x_:=fC a5 ((aM z));exact bK [0,1,2,3,4,5,6,7,8,9]
 refine S' ar ?_
 obtain⟨d1,a6,H⟩:=bj H
 refine dy 6 [(2,aH b),(3,aH a),(121,.bool d1)] (aK b 34 (al a0 af ag ay az au av aw ax)::(cH a0 af ag ay az au av aw ax++(fc a a1 cQ cR dM dQ dF dG dN dR))) ?_ fun junk=>?_
 ·by_cases D : d0 = true
  ·refine bf D aA (h:=cE D (aP 0) (h:=bf D aA (h:=cE D (aP 5) (h:=iI D (.bool (decide (a0.f8 = a1.f8))) (gJ Tryz.underlying4 rfl rfl) (h:=cd D (h:=ah ?_))))))
   have x_:=fD a6 D;exact bK [0,1,2,3,4,5,6,7,8,9]
  refine cu 5 (aM D) (ck (aM D) (h:=ah ?_))
  have x_:=fC a6 ((aM D));exact bK [0,1,2,3,4,5,6,7,8,9]
 refine S' ar ?_
 obtain⟨d2,a7,H⟩:=bj H
 refine dy 6 [(2,aH b),(3,aH a),(128,.bool d2)] (aK b 34 (al a0 af ag ay az au av aw ax)::(cH a0 af ag ay az au av aw ax++(fc a a1 cQ cR dM dQ dF dG dN dR))) ?_ fun junk=>?_
 ·by_cases E : d1 = true
  ·refine bf E aA (h:=cE E (aP 0) (h:=bf E aA (h:=cE E (aP 5) (h:=iI E (.bool (decide (a0.f9 = a1.f9))) (gJ Tryz.underlying4 rfl rfl) (h:=cd E (h:=ah ?_))))))
   have x_:=fD a7 E;exact bK [0,1,2,3,4,5,6,7,8,9]
  refine cu 5 (aM E) (ck (aM E) (h:=ah ?_))
  have x_:=fC a7 ((aM E));exact bK [0,1,2,3,4,5,6,7,8,9]
 refine S' ar ?_
 obtain⟨d3,a8,H⟩:=bj H
 refine dy 6 [(2,aH b),(3,aH a),(135,.bool d3)] (aK b 34 (al a0 af ag ay az au av aw ax)::(cH a0 af ag ay az au av aw ax++(fc a a1 cQ cR dM dQ dF dG dN dR))) ?_ fun junk=>?_
 ·by_cases F : d2 = true
  ·refine bf F aA (h:=cE F (aP 0) (h:=bf F aA (h:=cE F (aP 5) (h:=iI F (.bool (decide (a0.f10 = a1.f10))) (gJ Tryz.underlying4 rfl rfl) (h:=cd F (h:=ah ?_))))))
   have x_:=fD a8 F;exact bK [0,1,2,3,4,5,6,7,8,9]
  refine cu 5 (aM F) (ck (aM F) (h:=ah ?_))
  have x_:=fC a8 ((aM F));exact bK [0,1,2,3,4,5,6,7,8,9]
 refine S' ar ?_
 obtain⟨d4,a9,H⟩:=bj H
 refine dy 6 [(2,aH b),(3,aH a),(142,.bool d4)] (aK b 34 (al a0 af ag ay az au av aw ax)::(cH a0 af ag ay az au av aw ax++(fc a a1 cQ cR dM dQ dF dG dN dR))) ?_ fun junk=>?_
 ·by_cases I : d3 = true
  ·refine bf I aA (h:=cE I (aP 0) (h:=bf I aA (h:=cE I (aP 5) (h:=iI I (.bool (decide (a0.f11 = a1.f11))) (gJ Tryz.underlying4 rfl rfl) (h:=cd I (h:=ah ?_))))))
   have x_:=fD a9 I;exact bK [0,1,2,3,4,5,6,7,8,9]
  refine cu 5 (aM I) (ck (aM I) (h:=ah ?_))
  have x_:=fC a9 ((aM I));exact bK [0,1,2,3,4,5,6,7,8,9]
 refine S' ar ?_
 obtain⟨d5,b0,H⟩:=bj H
 refine dy 6 [(2,aH b),(3,aH a),(149,.bool d5)] (aK b 34 (al a0 af ag ay az au av aw ax)::(cH a0 af ag ay az au av aw ax++(fc a a1 cQ cR dM dQ dF dG dN dR))) ?_ fun junk=>?_
 ·by_cases J : d4 = true
  ·refine bf J aA (h:=cE J (aP 0) (h:=bf J aA (h:=cE J (aP 5) (h:=iI J (.bool (decide (a0.f12 = a1.f12))) (gJ Tryz.underlying4 rfl rfl) (h:=cd J (h:=ah ?_))))))
   have x_:=fD b0 J;exact bK [0,1,2,3,4,5,6,7,8,9]
  refine cu 5 (aM J) (ck (aM J) (h:=ah ?_))
  have x_:=fC b0 ((aM J));exact bK [0,1,2,3,4,5,6,7,8,9]
 refine S' ar ?_
 obtain⟨d6,b1,H⟩:=bj H
 refine dy 6 [(2,aH b),(3,aH a),(156,.bool d6)] (aK b 34 (al a0 af ag ay az au av aw ax)::(cH a0 af ag ay az au av aw ax++(fc a a1 cQ cR dM dQ dF dG dN dR))) ?_ fun junk=>?_
 ·by_cases K : d5 = true
  ·refine bf K aA (h:=cE K (aP 0) (h:=bf K aA (h:=cE K (aP 5) (h:=iI K (.bool (decide (a0.f13 = a1.f13))) (gJ Tryz.underlying4 rfl rfl) (h:=cd K (h:=ah ?_))))))
   have x_:=fD b1 K;exact bK [0,1,2,3,4,5,6,7,8,9]
  refine cu 5 (aM K) (ck (aM K) (h:=ah ?_))
  have x_:=fC b1 ((aM K));exact bK [0,1,2,3,4,5,6,7,8,9]
 refine S' ar ?_
 obtain⟨d7,b2,H⟩:=bj H
 refine dy 6 [(2,aH b),(3,aH a),(163,.bool d7)] (aK b 34 (al a0 af ag ay az au av aw ax)::(cH a0 af ag ay az au av aw ax++(fc a a1 cQ cR dM dQ dF dG dN dR))) ?_ fun junk=>?_
 ·by_cases L : d6 = true
  ·refine bf L aA (h:=cE L (cz b 25 0 (ii a0.f14)) (h:=bf L aA (h:=cE L (cz a 25 5 (ii a1.f14)) (h:=iI L (.bool (decide (a0.f14 = a1.f14))) (kC (xs:=(ii a0.f14)) (ys:=(ii a1.f14)) (r:=((a0.f14.f0 == a1.f14.f0) && ((a0.f14.f1 == a1.f14.f1) && ((a0.f14.f2 == a1.f14.f2) && ((a0.f14.f3 == a1.f14.f3) && (((a0.f14.f4.f0 == a1.f14.f4.f0) && ((a0.f14.f4.f1 == a1.f14.f4.f1) && ((a0.f14.f4.f2 == a1.f14.f4.f2) && ((a0.f14.f4.f3 == a1.f14.f4.f3) && ((a0.f14.f4.f4 == a1.f14.f4.f4) && ((a0.f14.f4.f5 == a1.f14.f4.f5) && ((a0.f14.f4.f6 == a1.f14.f4.f6) && ((a0.f14.f4.f7 == a1.f14.f4.f7) && ((a0.f14.f4.f8 == a1.f14.f4.f8) && ((a0.f14.f4.f9 == a1.f14.f4.f9) && true)))))))))) && true)))))) (p:=a0.f14 = a1.f14) vN rfl rfl (by kernel_rfl) (vP (x:=a0.f14) (y:=a1.f14))) (h:=cd L (h:=ah ?_))))))
   have x_:=fD b2 L;exact bK [0,1,2,3,4,5,6,7,8,9]
  refine cu 5 (aM L) (ck (aM L) (h:=ah ?_))
  have x_:=fC b2 ((aM L));exact bK [0,1,2,3,4,5,6,7,8,9]
 refine S' ar ?_
 obtain⟨g9,b3,H⟩:=bj H
 refine dy 6 [(170,.bool g9)] [] ?_ fun junk=>?_
 ·by_cases M : d7 = true
  ·refine bf M aA (h:=cE M (aP 0) (h:=bf M aA (h:=cE M (aP 5) (h:=iI M (.bool (decide (a0.f15 = a1.f15))) (gJ Tryz.underlying4 rfl rfl) (h:=cd M (h:=ah ?_))))))
   have x_:=fD b3 M;exact bK []
  refine cu 5 (aM M) (ck (aM M) (h:=ah ?_))
  have x_:=fC b3 ((aM M));exact bK []
 refine ad aW (h:=cC ?_)
 have h:=aN H;subst h
 exact dX [] ⟨rfl,rfl⟩

end Go.Proofs.YtckilbegmbaeeaaGreat.Z6

/- Walks. -/
import Derived.Test.YtckilbegmbaeeaaGreatZ613
namespace Go.Proofs.YtckilbegmbaeeaaGreat.Z6
open Go Go.RowKit Go.Proofs.YtckilbegmbaeeaaGreat.SL
open Go.IntKind (i64)
set_option linter.unusedVariables false
set_option maxHeartbeats 20000000
set_option maxRecDepth 100000
set_option linter.unusedSimpArgs false
attribute [local irreducible] IntKind.wrap da fk gR kN kD po ky eS kF rd sub bytesOf ib dj
variable {ag az av ax k : Nat}
variable {af ay au aw : Option Addr}
theorem Eb.ok {a0 : aJ} {a1 : Int} {r : aJ × Int} (H : jI.f k a0 a1 = some r) : dk Tryz.prog 41 #[.agg (al a0 af ag ay az au av aw ax).toArray,aL a1] (cH a0 af ag ay az au av aw ax) (fun v B=>∃ aS aT bv bx bq br bw bz,v = .tuple #[.agg (al r.1 aS aT bv bx bq br bw bz).toArray,ae r.2]∧B = (bn r.1 aS aT bv bx bq br bw bz)):=by
 refine aj Tryz.func41 rfl rfl ?_
 unfold jI.f at H
 refine aR (o' (bO (h:=fun D=>o' (cw (h:=fun z=>ad aW (h:=cP (l' (cm 4) ?_)))))))
 obtain⟨a,d7,H⟩:=ac H
 refine o' (ed [0,1,2,3] [0,1,2,3,4,5] (rK.ok d7) fun s u b o c p d q=>?_)
 refine ad ar (h:=ad cr (h:=ad cr (h:=o' (bi D 0 8 (al a.1 s u b o c p d q) (h:=ad aW (h:=eD (ad ar (h:=ad (bX rfl) (h:=bA ?_)))))))))
 rcases bE H with⟨b6,H⟩|⟨b6,H⟩
 ·refine aD rfl b6 (aR (bp (cm 8) (h:=o' (bi z 0 9 (al a.1 s u b o c p d q) (h:=ad aW (h:=cD ?_))))))
  have h:=aN H;subst h
  exact du [.cell 4 34,.tmp 5] [0,1,2,3] ⟨s,u,b,o,c,p,d,q,rfl,rfl⟩ ⟨cV 9,cW,trivial⟩
 refine aE rfl b6 (ap (aa (ao (aR (ad ar (h:=bA (aQ (aR (ad (bk rfl rfl) (h:=ad aW (h:=bA ?_)))))))))))
 rcases bE H with⟨b8,H⟩|⟨b8,H⟩
 ·refine aC rfl b8 (ak (ad aA (h:=bp (aP 8) (h:=ad (cT rfl rfl) (h:=bP (ae (fk 0 (i64.wrap (a.1.f2 - 1)))) (nJ rfl rfl) (h:=ad aA (h:=o' (cF 8 [ae (fk 0 (i64.wrap (a.1.f2 - 1)))] (h:=(ah (aF (aa (aR (S' aA ?_))))))))))))))
  refine o' (cF 8 [.bool false] (h:=(cP (bp (cm 8) (h:=o' (bi z 0 9 (al (aJ.mk a.1.f0 a.1.f1 (fk 0 (i64.wrap (a.1.f2 - 1))) false a.1.f4 a.1.f5 a.1.f6 a.1.f7 a.1.f8 a.1.f9 a.1.f10 a.1.f11 a.1.f12 a.1.f13 a.1.f14 a.1.f15 a.1.f16 a.1.f17) s u b o c p d q) (h:=ad aW (h:=cC ?_))))))))
  have h:=aN H;subst h
  exact du [.cell 4 34,.tmp 5] [0,1,2,3] ⟨s,u,b,o,c,p,d,q,rfl,rfl⟩ ⟨cV 9,cW,trivial⟩
 refine aB rfl b8 (aR (ad (bk rfl rfl) (h:=ad aW (h:=bA ?_))))
 rcases bE H with⟨b9,H⟩|⟨b9,H⟩
 ·refine aC rfl b9 (aR (ad aA (h:=ad aA (h:=bp (aP 8) (h:=S' (cT rfl rfl) ?_)))))
  obtain⟨n25,d8,H⟩:=bj H
  refine bP (ae n25) (bo (v:=ae n25) (congrArg (Value.int .i64) d8.symm)) (h:=eD (ad aA (h:=bp (aP 8) (h:=bP (ae (a.1.f7.length : Int)) (cO Tryz.underlying29 rfl) (h:=S' (cT rfl rfl) ?_)))))
  obtain⟨n26,d9,H⟩:=bj H
  refine bP (ae n26) (bo (v:=ae n26) (congrArg (Value.int .i64) d9.symm)) (h:=bA (SA.of_St (l:=[(2,aH D),(4,aH z),(7,ae n25),(8,ae n26)]) (B:=(aK D 34 (al a.1 s u b o c p d q)::(bn a.1 s u b o c p d q++[aK z 34 (al cy none 0 none 0 none 0 none 0)]))) (St.mk1 (cB rfl (cB rfl (cB rfl (cB rfl dS)))) (Gh.sel [8,0,1,2,3,9] (by kernel_rfl) (by kernel_rfl))) fun junk=>?_))
  obtain⟨Z,H,a6⟩:=ac H
  refine bI (St [(2,aH D),(4,aH z),(7,ae Z)] (aK D 34 (al a.1 s u b o c p d q)::(bn a.1 s u b o c p d q++[aK z 34 (al cy none 0 none 0 none 0 none 0)]))) ?_ ?_
  ·refine aQ (cj (fun k_ e ds As=>∃ (J : Int) (y : Int),jI.l0 a k_ J y = some Z∧St [(2,aH D),(4,aH z),(7,ae J),(8,ae y)] (aK D 34 (al a.1 s u b o c p d q)::(bn a.1 s u b o c p d q++[aK z 34 (al cy none 0 none 0 none 0 none 0)])) e ds As) (k:=k) ⟨_,_,H,jV [0,1,2,3,4,5]⟩ ?_)
   clear H
   rintro pF e ds As ⟨J,y,H,d4⟩
   obtain _ | pF:=pF
   ·cases H
   rw [jI.l0] at H
   refine SA.of_St d4 fun junk=>ao (aR (ad ar (h:=ad (dT rfl rfl) (h:=bA ?_))))
   rcases bE H with⟨c5,H⟩|⟨c5,H⟩
   ·refine aC rfl c5 (ap (aa (ao (aQ (ao ?_)))))
    refine fj (dt 0 8) [0,2] [1,3,4,5] fun _ _ _ _ _ sH dd pk=>?_
    refine bc 0 rfl sH aA (h:=bQ 1 rfl sH (aP 0) (h:=T' 2 rfl sH ar ?_))
    obtain⟨⟨b1,b2⟩,H⟩:=aO H
    refine bQ 3 rfl sH (bu (i:=y) Tryz.underlying29 jl rfl rfl (Src.buf (k:=1) rfl) b1 b2) (h:=bQ 4 rfl sH (bJ (enc:=(fun x_ : Int=>[Value.int .i64 x_])) (i:=y) (j:=y.toNat * 1) (m:=0) (sz:=1) Tryz.underlying3 rfl rfl rfl rfl (Src.buf (k:=1) rfl) b1 b2 (fun _ _ h=>h) rfl) (h:=bc 5 rfl sH aA (h:=bQ 6 rfl sH (aP 0) (h:=bc 7 rfl sH (eK rfl rfl) (h:=aV dd sH (aI (by kernel_rfl) (aa ?_)))))))
    rcases bE H with⟨K,H⟩|⟨K,H⟩
    ·refine aC rfl K (ak (ad aA (h:=bp (aP 0) (h:=S' ar ?_))))
     obtain⟨⟨b3,b4⟩,H⟩:=aO H
     refine bp (bu (i:=y) Tryz.underlying29 jl rfl rfl (Src.buf (k:=1) rfl) b3 b4) (h:=l' (bJ (enc:=(fun x_ : Int=>[Value.int .i64 x_])) (i:=y) (j:=y.toNat * 1) (m:=0) (sz:=1) Tryz.underlying3 rfl rfl rfl rfl (Src.buf (k:=1) rfl) b3 b4 (fun _ _ h=>h) rfl) ?_)
     obtain⟨c8,d1,H⟩:=bj H
     refine bP (ae c8) (bo (v:=ae c8) (congrArg (Value.int .i64) d1.symm)) (h:=ah (aF (aa (ak (ad ar (h:=S' (cT rfl rfl) ?_))))))
     obtain⟨c9,d2,H⟩:=bj H
     refine bP (ae c9) (bo (v:=ae c9) (congrArg (Value.int .i64) d2.symm)) (h:=ah ?_)
     exact aa ⟨pF,Nat.lt_succ_self _,_,_,H,dZ [0,2,1,3,4,5]⟩
    refine aB rfl K (ap (aF (aa (ak (ad ar (h:=S' (cT rfl rfl) ?_))))))
    obtain⟨d0,d3,H⟩:=bj H
    refine bP (ae d0) (bo (v:=ae d0) (congrArg (Value.int .i64) d3.symm)) (h:=ah ?_)
    exact aa ⟨pF,Nat.lt_succ_self _,_,_,H,dZ [0,2,1,3,4,5]⟩
   refine aB rfl c5 (cf (aX (aX (cg ?_))))
   have h:=aN H;subst h
   exact bK [0,1,2,3,4,5]
  rintro e ds As c6
  clear H
  have H:=a6
  clear a6
  refine aa (SA.of_St c6 fun junk=>ak (ad ar (h:=ad aA (h:=o' (cF 0 [ae Z] (h:=(ah (aF (aa (aR (ad aA (h:=o' (cF 0 [.bool false] (h:=(cP ?_)))))))))))))))
  refine bp (cm 0) (h:=o' (bi z 0 5 (al (aJ.mk a.1.f0 a.1.f1 Z false a.1.f4 a.1.f5 a.1.f6 a.1.f7 a.1.f8 a.1.f9 a.1.f10 a.1.f11 a.1.f12 a.1.f13 a.1.f14 a.1.f15 a.1.f16 a.1.f17) s u b o c p d q) (h:=ad aW (h:=cC ?_))))
  have h:=aN H;subst h
  exact du [.cell 4 34,.tmp 5] [1,2,3,4] ⟨s,u,b,o,c,p,d,q,rfl,rfl⟩ ⟨cV 5,cW,trivial⟩
 refine aB rfl b9 (ao (aR (ad (bk rfl rfl) (h:=ad aW (h:=bA ?_)))))
 obtain⟨e1,H,Y⟩:=ac H
 refine bI (St [(2,aH D),(4,aH z),(17,aL a1),(55,.bool e1)] (aK D 34 (al a.1 s u b o c p d q)::(bn a.1 s u b o c p d q++[aK z 34 (al cy none 0 none 0 none 0 none 0)]))) ?_ ?_
 ·rcases bE H with⟨L,H⟩|⟨L,H⟩
  ·refine aC rfl L (ap ?_)
   have h:=aN H;subst h
   exact bK [8,0,1,2,3,9]
  refine aB rfl L (aR (ad (bk rfl rfl) (h:=ad aW (h:=bA ?_))))
  rcases bE H with⟨M,H⟩|⟨M,H⟩
  ·refine aC rfl M (ap ?_)
   have h:=aN H;subst h
   exact bK [8,0,1,2,3,9]
  refine aB rfl M (ak (ad (bk rfl rfl) (h:=ad aW (h:=ah ?_))))
  have h:=aN H;subst h
  exact bK [8,0,1,2,3,9]
 rintro e ds As c7
 clear H
 have H:=Y
 clear Y
 refine aa (SA.of_St c7 fun junk=>?_)
 rcases bE H with⟨N,H⟩|⟨N,H⟩
 ·refine aD rfl N (bM 1 fun e2=>bM 2 fun e3=>bM 3 fun e4=>bM 4 fun e5=>ak ?_)
  obtain⟨e0,d5,H⟩:=ac H
  refine o' (ed [0,1,2,3,4] [5] (il.ok (bg:=D) d5) fun a2 a7 a3 a8 a4 a9 a5 b0=>?_)
  refine ah (aF (aa (aR (ad aA (h:=o' (cF 0 [.bool false] (h:=(cP (bp (cm 0) (h:=o' (bi z 0 5 (al ({ e0 with f3:=false }) a2 a7 a3 a8 a4 a9 a5 b0) (h:=ad aW (h:=cC ?_)))))))))))))
  have h:=aN H;subst h
  exact du [.cell 4 34,.tmp 5] [1,2,3,4] ⟨a2,a7,a3,a8,a4,a9,a5,b0,rfl,rfl⟩ ⟨cV 5,cW,trivial⟩
 refine aE rfl N (aR (ad (bk rfl rfl) (h:=ad aW (h:=bA ?_))))
 rcases bE H with⟨O,H⟩|⟨O,H⟩
 ·refine aC rfl O (ak (ad aA (h:=o' (cF 0 [ae 0] (h:=(ah (aF (aa (aR (ad aA (h:=o' (cF 0 [.bool false] (h:=(cP (bp (cm 0) (h:=o' (uB z 0 5 (al (aJ.mk a.1.f0 a.1.f1 0 false a.1.f4 a.1.f5 a.1.f6 a.1.f7 a.1.f8 a.1.f9 a.1.f10 a.1.f11 a.1.f12 a.1.f13 a.1.f14 a.1.f15 a.1.f16 a.1.f17) s u b o c p d q) ?_)))))))))))))))))
  refine ad aW (h:=cC ?_)
  have h:=aN H;subst h
  exact du [.cell 4 34,.tmp 5] [1,2,3,4] ⟨s,u,b,o,c,p,d,q,rfl,rfl⟩ ⟨cV 5,cW,trivial⟩
 refine aB rfl O (aR (ad (bk rfl rfl) (h:=ad aW (h:=bA ?_))))
 rcases bE H with⟨R,H⟩|⟨R,H⟩
 ·refine aC rfl R (aR (ad aA (h:=bp (aP 0) (h:=ad aA (h:=bp (aP 0) (h:=ad (bk rfl rfl) (h:=bA ?_)))))))
  rcases bE H with⟨S,H⟩|⟨S,H⟩
  ·refine aC rfl S (bM 1 fun e6=>bM 2 fun e7=>bM 3 fun e8=>bM 4 fun e9=>ak (ad aA (h:=bp (cz D 0 0 [ae a.1.f0.f0,ae a.1.f0.f1,.slice s a.1.f0.f2.length u]) (h:=ad aA (h:=l' (aP 0) ?_)))))
   refine ad aA (h:=bp (aP 0) (h:=ad aA (h:=l' (cz D 6 0 (bF a.1.f4)) ?_)))
   obtain⟨E,d6,H⟩:=ac H
   refine o' (gy [1] [0,2,3,4,5] (cA.ok d6) fun F I=>?_)
   refine ad ar (h:=ad cr (h:=ad cr (h:=ad aA (h:=o' (cF 2 [ae E.1.f0,ae E.1.f1,.slice F E.1.f2.length I] (h:=(ah (aF (aa (aR (ad aA (h:=o' (cF 2 [.bool false] (h:=(bA (SA.of_St (l:=[(2,aH D),(4,aH z)]) (B:=[aK D 34 (al (aJ.mk E.1 a.1.f1 a.1.f2 false a.1.f4 a.1.f5 a.1.f6 a.1.f7 a.1.f8 a.1.f9 a.1.f10 a.1.f11 a.1.f12 a.1.f13 a.1.f14 a.1.f15 a.1.f16 a.1.f17) F I b o c p d q),Buf bD 55 F I E.1.f2,gf 3 b o a.1.f7,Buf bD 55 c p a.1.f16.f2,kU 21 d q a.1.f17,aK z 34 (al cy none 0 none 0 none 0 none 0)]) (St.mk1 (cB rfl (cB rfl dS)) (Gh.sel [2,0,3,4,5,6] (by kernel_rfl) (by kernel_rfl))) fun junk=>?_))))))))))))))))
   refine aR (bp (cm 0) (h:=o' (bi z 0 5 (al (aJ.mk E.1 a.1.f1 a.1.f2 false a.1.f4 a.1.f5 a.1.f6 a.1.f7 a.1.f8 a.1.f9 a.1.f10 a.1.f11 a.1.f12 a.1.f13 a.1.f14 a.1.f15 a.1.f16 a.1.f17) F I b o c p d q) (h:=ad aW (h:=cC ?_)))))
   have h:=aN H;subst h
   exact du [.cell 4 34,.tmp 5] [1,2,3,4] ⟨F,I,b,o,c,p,d,q,rfl,rfl⟩ ⟨cV 5,cW,trivial⟩
  refine aB rfl S (aR (ad aA (h:=bp (aP 0) (h:=ad (eK rfl rfl) (h:=bA ?_)))))
  rcases bE H with⟨U,H⟩|⟨U,H⟩
  ·refine aC rfl U (ak (ad aA (h:=bp (aP 0) (h:=ad (cT rfl rfl) (h:=ad aA (h:=o' (cF 0 [ae (i64.wrap (a.1.f1 - 1))] (h:=(ah (aF (aa (aR (ad aA (h:=o' (cF 0 [.bool false] (h:=?_))))))))))))))))
   refine cP (bp (cm 0) (h:=o' (bi z 0 5 (al (aJ.mk a.1.f0 (i64.wrap (a.1.f1 - 1)) a.1.f2 false a.1.f4 a.1.f5 a.1.f6 a.1.f7 a.1.f8 a.1.f9 a.1.f10 a.1.f11 a.1.f12 a.1.f13 a.1.f14 a.1.f15 a.1.f16 a.1.f17) s u b o c p d q) (h:=ad aW (h:=cC ?_)))))
   have h:=aN H;subst h
   exact du [.cell 4 34,.tmp 5] [1,2,3,4] ⟨s,u,b,o,c,p,d,q,rfl,rfl⟩ ⟨cV 5,cW,trivial⟩
  refine aB rfl U (ap (aF (aa (aR (ad aA (h:=o' (cF 0 [.bool false] (h:=(cP (bp (cm 0) (h:=o' (bi z 0 5 (al (aJ.mk a.1.f0 a.1.f1 a.1.f2 false a.1.f4 a.1.f5 a.1.f6 a.1.f7 a.1.f8 a.1.f9 a.1.f10 a.1.f11 a.1.f12 a.1.f13 a.1.f14 a.1.f15 a.1.f16 a.1.f17) s u b o c p d q) (h:=ad aW (h:=cC ?_))))))))))))))
  have h:=aN H;subst h
  exact du [.cell 4 34,.tmp 5] [1,2,3,4] ⟨s,u,b,o,c,p,d,q,rfl,rfl⟩ ⟨cV 5,cW,trivial⟩
 refine aB rfl R (aR (bp (cm 0) (h:=o' (bi z 0 5 (al a.1 s u b o c p d q) (h:=ad aW (h:=cC (ba (aG ?_))))))))
 have h:=aN H;subst h
 exact du [.cell 4 34,.tmp 5] [1,2,3,4] ⟨s,u,b,o,c,p,d,q,rfl,rfl⟩ ⟨cV 5,cW,trivial⟩


theorem Ec.ok {a0 : aJ} {a1 : Int} {a2 : Int} {r : aJ × Int} (H : pS.f k a0 a1 a2 = some r) : dk Tryz.prog 42 #[.agg (al a0 af ag ay az au av aw ax).toArray,ae a1,ae a2] (cH a0 af ag ay az au av aw ax) (fun v B=>∃ aS aT bv bx bq br bw bz,v = .tuple #[.agg (al r.1 aS aT bv bx bq br bw bz).toArray,ae r.2]∧B = (bn r.1 aS aT bv bx bq br bw bz)):=by
 refine aj Tryz.func42 rfl rfl ?_
 unfold pS.f at H
 refine aR (o' (bO (h:=fun u=>o' (cw (h:=fun s=>ad aW (h:=cP (l' (cm 4) ?_)))))))
 obtain⟨a,U,H⟩:=ac H
 refine o' (ed [0,1,2,3] [0,1,2,3,4,5] (rK.ok U) fun b m c o d p j q=>?_)
 refine ad ar (h:=ad cr (h:=ad cr (h:=o' (bi u 0 8 (al a.1 b m c o d p j q) (h:=ad aW (h:=eD (ad ar (h:=ad (bX rfl) (h:=bA ?_)))))))))
 rcases bE H with⟨I,H⟩|⟨I,H⟩
 ·refine aD rfl I (aR (bp (cm 8) (h:=o' (bi s 0 9 (al a.1 b m c o d p j q) (h:=ad aW (h:=cD ?_))))))
  have h:=aN H;subst h
  exact du [.cell 6 34,.tmp 7] [0,1,2,3] ⟨b,m,c,o,d,p,j,q,rfl,rfl⟩ ⟨cV 9,cW,trivial⟩
 refine aE rfl I (ap (aa (ao ?_)))
 refine fj (dt 0 6) (dt 4 5) [0,1,2,3,4,5,6,7,9] fun _ _ _ _ _ sH dd pk=>?_
 refine bc 0 rfl sH aA (h:=bc 1 rfl sH aA (h:=bQ 2 rfl sH (aP 4) (h:=bc 3 rfl sH (cT rfl rfl) (h:=T' 4 rfl sH aW ?_))))
 obtain⟨D,O,H⟩:=bj H
 refine kV (ae D) 5 rfl sH (bo (v:=ae D) (congrArg (Value.int .i64) O.symm)) (h:=aV dd sH (aI (by kernel_rfl) (aa (SA.of_St (l:=[(1,ae a1),(2,ae a2),(3,aH u),(6,aH s),(9,ae 0),(10,ae D)]) (B:=(aK u 34 (al a.1 b m c o d p j q)::(bn a.1 b m c o d p j q++[aK s 34 (al cy none 0 none 0 none 0 none 0)]))) (St.mk1 (cB rfl (cB rfl (cB rfl (cB rfl (cB rfl (cB rfl dS)))))) (Gh.sel [4,5,6,7,8,13] (by kernel_rfl) (by kernel_rfl))) fun junk=>ao (aR (ad aA (h:=bp (aP 0) (h:=ad aA (h:=l' (aP 0) ?_)))))))))
 refine ad (gG rfl rfl) (h:=bA ?_)
 obtain⟨N,H,E⟩:=ac H
 refine bI (St [(1,ae a1),(2,ae a2),(3,aH u),(6,aH s),(9,ae 0),(10,ae N)] (aK u 34 (al a.1 b m c o d p j q)::(bn a.1 b m c o d p j q++[aK s 34 (al cy none 0 none 0 none 0 none 0)]))) ?_ ?_
 ·rcases bE H with⟨y,H⟩|⟨y,H⟩
  ·refine aC rfl y (ak (ad aA (h:=bp (aP 0) (h:=ad aW (h:=ah ?_)))))
   have h:=aN H;subst h
   exact bK [0,1,2,3,4,5]
  refine aB rfl y (ap ?_)
  have h:=aN H;subst h
  exact bK [0,1,2,3,4,5]
 rintro e ds As J
 clear H
 have H:=E
 clear E
 refine aa (SA.of_St J fun junk=>ao (aR (ad aA (h:=bp (aP 0) (h:=ad aA (h:=bp (aP 0) (h:=ad (dT rfl rfl) (h:=bA ?_))))))))
 obtain⟨Y,H,F⟩:=ac H
 refine bI (St [(1,ae a1),(2,ae a2),(3,aH u),(6,aH s),(9,ae Y),(10,ae N)] (aK u 34 (al a.1 b m c o d p j q)::(bn a.1 b m c o d p j q++[aK s 34 (al cy none 0 none 0 none 0 none 0)]))) ?_ ?_
 ·rcases bE H with⟨z,H⟩|⟨z,H⟩
  ·refine aC rfl z (ak (ad aA (h:=bp (aP 0) (h:=ad aW (h:=ah ?_)))))
   have h:=aN H;subst h
   exact bK [0,1,2,3,4,5]
  refine aB rfl z (ap ?_)
  have h:=aN H;subst h
  exact bK [0,1,2,3,4,5]
 rintro e ds As K
 clear H
 have H:=F
 clear F
 refine aa (SA.of_St K fun junk=>aR (ad aA (h:=bp (aP 0) (h:=ad ar (h:=ad ar (h:=S' ar ?_))))))
 obtain⟨L,S,H⟩:=ac H
 refine o' (dc [] [0,1,2,3,4,5] (kz.ok S) ?_)
 refine ad aA (h:=o' (cF 0 [ae L] (h:=(cP (ad aA (h:=bp (aP 0) (h:=ad ar (h:=ad aA (h:=ad aA (h:=bp (aP 0) (h:=S' (cT rfl rfl) ?_)))))))))))
 obtain⟨M,R,H⟩:=ac H
 refine o' (dc [] [0,1,2,3,4,5] (kz.ok R) ?_)
 refine ad aA (h:=o' (cF 0 [ae M] (h:=(cP (ad aA (h:=o' (cF 0 [.bool false] (h:=(cP (bp (cm 0) (h:=o' (bi s 0 5 (al (aJ.mk a.1.f0 L M false a.1.f4 a.1.f5 a.1.f6 a.1.f7 a.1.f8 a.1.f9 a.1.f10 a.1.f11 a.1.f12 a.1.f13 a.1.f14 a.1.f15 a.1.f16 a.1.f17) b m c o d p j q) (h:=ad aW (h:=cC ?_))))))))))))))
 have h:=aN H;subst h
 exact du [.cell 6 34,.tmp 7] [1,2,3,4] ⟨b,m,c,o,d,p,j,q,rfl,rfl⟩ ⟨cV 5,cW,trivial⟩


theorem Ed.ok {a0 : aJ} {a1 : Int} {a2 : Int} {r : aJ × Int} (H : jW.f k a0 a1 a2 = some r) : dk Tryz.prog 43 #[.agg (al a0 af ag ay az au av aw ax).toArray,ae a1,ae a2] (cH a0 af ag ay az au av aw ax) (fun v B=>∃ aS aT bv bx bq br bw bz,v = .tuple #[.agg (al r.1 aS aT bv bx bq br bw bz).toArray,ae r.2]∧B = (bn r.1 aS aT bv bx bq br bw bz)):=by
 refine aj Tryz.func43 rfl rfl ?_
 unfold jW.f at H
 refine aR (o' (bO (h:=fun D=>o' (cw (h:=fun z=>ad aW (h:=cP (l' (cm 4) ?_)))))))
 obtain⟨a,O,H⟩:=ac H
 refine o' (ed [0,1,2,3] [0,1,2,3,4,5] (rK.ok O) fun b m c o d p j q=>?_)
 refine ad ar (h:=ad cr (h:=ad cr (h:=o' (bi D 0 8 (al a.1 b m c o d p j q) (h:=ad aW (h:=eD (ad ar (h:=ad (bX rfl) (h:=bA ?_)))))))))
 rcases bE H with⟨E,H⟩|⟨E,H⟩
 ·refine aD rfl E (aR (bp (cm 8) (h:=o' (bi z 0 9 (al a.1 b m c o d p j q) (h:=ad aW (h:=cD ?_))))))
  have h:=aN H;subst h
  exact du [.cell 6 34,.tmp 7] [0,1,2,3] ⟨b,m,c,o,d,p,j,q,rfl,rfl⟩ ⟨cV 9,cW,trivial⟩
 refine aE rfl E (ap (aa (ao ?_)))
 refine fj (dt 0 6) (dt 4 5) [0,1,2,3,4,5,6,7,9] fun _ _ _ _ _ sH dd pk=>?_
 refine bc 0 rfl sH aA (h:=bc 1 rfl sH aA (h:=bQ 2 rfl sH (aP 4) (h:=bc 3 rfl sH (cT rfl rfl) (h:=T' 4 rfl sH aW ?_))))
 obtain⟨u,L,H⟩:=bj H
 refine kV (ae u) 5 rfl sH (bo (v:=ae u) (congrArg (Value.int .i64) L.symm)) (h:=aV dd sH (aI (by kernel_rfl) (aa (SA.of_St (l:=[(1,ae a1),(2,ae a2),(3,aH D),(6,aH z),(9,ae 0),(10,ae u)]) (B:=(aK D 34 (al a.1 b m c o d p j q)::(bn a.1 b m c o d p j q++[aK z 34 (al cy none 0 none 0 none 0 none 0)]))) (St.mk1 (cB rfl (cB rfl (cB rfl (cB rfl (cB rfl (cB rfl dS)))))) (Gh.sel [4,5,6,7,8,13] (by kernel_rfl) (by kernel_rfl))) fun junk=>ao (aR (ad aA (h:=bp (aP 0) (h:=bA ?_))))))))
 obtain⟨K,H,y⟩:=ac H
 refine bI (St [(1,ae a1),(2,ae a2),(3,aH D),(6,aH z),(9,ae K.1),(10,ae K.2)] (aK D 34 (al a.1 b m c o d p j q)::(bn a.1 b m c o d p j q++[aK z 34 (al cy none 0 none 0 none 0 none 0)]))) ?_ ?_
 ·rcases bE H with⟨s,H⟩|⟨s,H⟩
  ·refine aD rfl s ?_
   refine fj (dt 0 6) [0] (dt 1 5) fun _ _ _ _ _ sH dd pk=>?_
   refine bc 0 rfl sH aA (h:=bQ 1 rfl sH (aP 0) (h:=bc 2 rfl sH aA (h:=bQ 3 rfl sH (aP 0) (h:=bc 4 rfl sH aW (h:=bc 5 rfl sH aW (h:=aV dd sH (aI (by kernel_rfl) ?_)))))))
   have h:=aN H;subst h
   exact bK [0,1,2,3,4,5]
  refine aE rfl s (ap ?_)
  have h:=aN H;subst h
  exact bK [0,1,2,3,4,5]
 rintro e ds As F
 clear H
 have H:=y
 clear y
 refine aa (SA.of_St F fun junk=>aR (ad ar (h:=ad ar (h:=ad ar (h:=S' ar ?_)))))
 obtain⟨I,N,H⟩:=ac H
 refine o' (dc [] [0,1,2,3,4,5] (kz.ok N) ?_)
 refine ad aA (h:=o' (cF 0 [ae I] (h:=(cP (ad ar (h:=ad aA (h:=ad aA (h:=bp (aP 0) (h:=S' (cT rfl rfl) ?_)))))))))
 obtain⟨J,M,H⟩:=ac H
 refine o' (dc [] [0,1,2,3,4,5] (kz.ok M) ?_)
 refine ad aA (h:=o' (cF 0 [ae J] (h:=(cP (ad aA (h:=o' (cF 0 [.bool false] (h:=(cP (bp (cm 0) (h:=o' (bi z 0 5 (al (aJ.mk a.1.f0 I J false a.1.f4 a.1.f5 a.1.f6 a.1.f7 a.1.f8 a.1.f9 a.1.f10 a.1.f11 a.1.f12 a.1.f13 a.1.f14 a.1.f15 a.1.f16 a.1.f17) b m c o d p j q) (h:=ad aW (h:=cC ?_))))))))))))))
 have h:=aN H;subst h
 exact du [.cell 6 34,.tmp 7] [1,2,3,4] ⟨b,m,c,o,d,p,j,q,rfl,rfl⟩ ⟨cV 5,cW,trivial⟩


theorem Ee.ok {a0 : aJ} {a1 : Bool} {a2 : Int} {r : aJ × Int} (H : jJ.f k a0 a1 a2 = some r) : dk Tryz.prog 44 #[.agg (al a0 af ag ay az au av aw ax).toArray,.bool a1,ae a2] (cH a0 af ag ay az au av aw ax) (fun v B=>∃ aS aT bv bx bq br bw bz,v = .tuple #[.agg (al r.1 aS aT bv bx bq br bw bz).toArray,ae r.2]∧B = (bn r.1 aS aT bv bx bq br bw bz)):=by
 refine aj Tryz.func44 rfl rfl ?_
 unfold jJ.f at H
 refine aR (o' (bO (h:=fun b5=>o' (cw (h:=fun u=>ad aW (h:=cP (l' (cm 4) ?_)))))))
 obtain⟨r9,f7,H⟩:=ac H
 refine o' (ed [0,1,2,3] [0,1,2,3,4,5] (rK.ok f7) fun a7 b2 a8 b3 a9 b4 b0 b6=>?_)
 refine ad ar (h:=ad cr (h:=ad cr (h:=o' (bi b5 0 8 (al r9.1 a7 b2 a8 b3 a9 b4 b0 b6) (h:=ad aW (h:=eD (ad ar (h:=ad (bX rfl) (h:=bA ?_)))))))))
 rcases bE H with⟨d4,H⟩|⟨d4,H⟩
 ·refine aD rfl d4 (aR (bp (cm 8) (h:=o' (bi u 0 9 (al r9.1 a7 b2 a8 b3 a9 b4 b0 b6) (h:=ad aW (h:=cD ?_))))))
  have h:=aN H;subst h
  exact du [.cell 6 34,.tmp 7] [0,1,2,3] ⟨a7,b2,a8,b3,a9,b4,b0,b6,rfl,rfl⟩ ⟨cV 9,cW,trivial⟩
 refine aE rfl d4 (ap (aa (ao (aR (ad aW (h:=bA ?_))))))
 obtain⟨c8,H,d0⟩:=ac H
 refine bI (fun e ds As=>∃ (d2 : Nat),∃ (L : Option Addr) (R : Nat),∃ (M : Option Addr) (S : Nat),∃ (N : Option Addr) (U : Nat),∃ (O : Option Addr) (Y : Nat),St [(3,aH d2),(6,aH u)] (aK d2 34 (al c8 L R M S N U O Y)::(bn c8 L R M S N U O Y++[aK u 34 (al cy none 0 none 0 none 0 none 0)])) e ds As) ?_ ?_
 ·refine aQ (cj (fun k_ e ds As=>∃ (a : aJ) (c : Int),∃ (b : Nat),∃ (d : Option Addr) (o : Nat),∃ (j : Option Addr) (p : Nat),∃ (l : Option Addr) (q : Nat),∃ (m : Option Addr) (s : Nat),jJ.l0 a1 a2 k_ a c = some c8∧St [(1,.bool a1),(2,ae a2),(3,aH b),(6,aH u),(9,ae c)] (aK b 34 (al a d o j p l q m s)::(bn a d o j p l q m s++[aK u 34 (al cy none 0 none 0 none 0 none 0)])) e ds As) (k:=k) ⟨_,_,b5,a7,b2,a8,b3,a9,b4,b0,b6,H,jV [8,0,1,2,3,9]⟩ ?_)
  clear H
  rintro e1 e ds As ⟨a,c,b,d,o,j,p,l,q,m,s,H,e9⟩
  obtain _ | e1:=e1
  ·cases H
  rw [jJ.l0] at H
  refine SA.of_St e9 fun junk=>ao (aR (ad ar (h:=ad aA (h:=ad aA (h:=bp (aP 0) (h:=ad (ce rfl rfl) (h:=bA ?_)))))))
  rcases bE H with⟨d5,H⟩|⟨d5,H⟩
  ·refine aC rfl d5 (ap (aa (ao (aQ (aR (ad aW (h:=ad aW (h:=bA (ao ?_)))))))))
   obtain⟨f5,H,d1⟩:=ac H
   refine bI (St [(1,.bool a1),(2,ae a2),(3,aH b),(6,aH u),(9,ae c),(10,ae f5.1),(11,ae f5.2)] (aK b 34 (al a d o j p l q m s)::(bn a d o j p l q m s++[aK u 34 (al cy none 0 none 0 none 0 none 0)]))) ?_ ?_
   ·refine aQ (aR (ad ar (h:=ad aA (h:=bp (aP 0) (h:=ad (bk rfl rfl) (h:=S' ar ?_))))))
    obtain⟨g3,d7,H⟩:=bj H
    refine dy 3 [(1,.bool a1),(2,ae a2),(3,aH b),(6,aH u),(9,ae c),(10,ae 0),(11,ae 0),(35,.bool g3)] (aK b 34 (al a d o j p l q m s)::(bn a d o j p l q m s++[aK u 34 (al cy none 0 none 0 none 0 none 0)])) ?_ fun junk=>?_
    ·by_cases K : c = a.f1
     ·refine bf (ai K) ar (h:=bf (ai K) (bk rfl rfl) (h:=cd (ai K) (h:=ah ?_)))
      have x_:=fD d7 ((ai K));exact bK [0,1,2,3,4,5]
     refine cu 2 (am K) (ck (am K) (h:=ah ?_))
     have x_:=fC d7 ((am K));exact bK [0,1,2,3,4,5]
    refine ad aW (h:=bA ?_)
    rcases bE H with⟨d6,H⟩|⟨d6,H⟩
    ·refine aD rfl d6 ?_
     refine fj (dt 0 7) [0] (dt 1 5) fun _ _ _ _ _ sH dd pk=>?_
     refine bc 0 rfl sH aA (h:=bQ 1 rfl sH (aP 0) (h:=bc 2 rfl sH aA (h:=bc 3 rfl sH aA (h:=bQ 4 rfl sH (aP 0) (h:=bc 5 rfl sH aW (h:=bc 6 rfl sH aW (h:=aV dd sH (aI (by kernel_rfl) (aF ?_)))))))))
     have h:=aN H;subst h
     exact bK [0,1,2,3,4,5]
    refine aE rfl d6 (aR (ad ar (h:=ad aA (h:=bp (aP 0) (h:=ad (bk rfl rfl) (h:=S' ar ?_))))))
    obtain⟨f8,b8,H⟩:=bj H
    refine dy 3 [(1,.bool a1),(2,ae a2),(3,aH b),(6,aH u),(9,ae c),(10,ae 0),(11,ae 0),(49,.bool f8)] (aK b 34 (al a d o j p l q m s)::(bn a d o j p l q m s++[aK u 34 (al cy none 0 none 0 none 0 none 0)])) ?_ fun junk=>?_
    ·by_cases F : c = a.f1
     ·refine bf (ai F) ar (h:=bf (ai F) (bk rfl rfl) (h:=cd (ai F) (h:=ah ?_)))
      have x_:=fD b8 ((ai F));exact bK [0,1,2,3,4,5]
     refine cu 2 (am F) (ck (am F) (h:=ah ?_))
     have x_:=fC b8 ((am F));exact bK [0,1,2,3,4,5]
    refine ad aW (h:=bA ?_)
    rcases bE H with⟨Z,H⟩|⟨Z,H⟩
    ·refine aD rfl Z (ak (ad aA (h:=bp (aP 0) (h:=S' (bW rfl rfl) ?_))))
     obtain⟨e2,e7,H⟩:=bj H
     refine bP (ae e2) (bo (v:=ae e2) (congrArg (Value.int .i64) e7.symm)) (h:=ah (aF ?_))
     have h:=aN H;subst h
     exact bK [0,1,2,3,4,5]
    refine aE rfl Z (ao (aR (ad ar (h:=ad (bk rfl rfl) (h:=S' ar ?_)))))
    obtain⟨f9,H,e6⟩:=ac H
    refine dy 8 [(1,.bool a1),(2,ae a2),(3,aH b),(6,aH u),(9,ae c),(10,ae 0),(11,ae 0),(64,.bool f9)] (aK b 34 (al a d o j p l q m s)::(bn a d o j p l q m s++[aK u 34 (al cy none 0 none 0 none 0 none 0)])) ?_ fun junk=>?_
    ·rcases bE H with⟨y,H⟩|⟨y,H⟩
     ·refine bf (ai y) ar (h:=Y' (ai y) ar ?_)
      rcases bE H with⟨E,H⟩|⟨E,H⟩
      ·refine cu 4 E (fT (ai y) (dr rfl (bS rfl (E) rfl) (gN (ai y) ?_)))
       have h:=aN H;subst h
       exact dL [0,1,2,3,4,5]
      refine bf (aM E) ar (h:=bf (aM E) aA (h:=cE (aM E) (aP 0) (h:=bf (aM E) (bk rfl rfl) (h:=fT (ai y) (dr rfl (bR rfl (aM E) rfl) (gN (ai y) ?_))))))
      have h:=aN H;subst h
      exact dL [0,1,2,3,4,5]
     refine cu 2 (am y) (fY (fY (fY (fY (cu 1 (am y) (fZ (am y) ?_))))))
     have h:=aN H;subst h
     exact dL [0,1,2,3,4,5]
    replace H:=e6
    refine ad aW (h:=bA ?_)
    obtain⟨g2,H,b1⟩:=ac H
    refine bI (St [(1,.bool a1),(2,ae a2),(3,aH b),(6,aH u),(9,ae c),(10,ae 0),(11,ae 0),(53,.bool g2)] (aK b 34 (al a d o j p l q m s)::(bn a d o j p l q m s++[aK u 34 (al cy none 0 none 0 none 0 none 0)]))) ?_ ?_
    ·rcases bE H with⟨a3,H⟩|⟨a3,H⟩
     ·refine aD rfl a3 (ap ?_)
      have h:=aN H;subst h
      exact bK [0,1,2,3,4,5]
     refine aE rfl a3 (aR (ad ar (h:=S' ar ?_)))
     obtain⟨e4,b9,H⟩:=bj H
     refine dy 3 [(1,.bool a1),(2,ae a2),(3,aH b),(6,aH u),(9,ae c),(10,ae 0),(11,ae 0),(69,.bool e4)] (aK b 34 (al a d o j p l q m s)::(bn a d o j p l q m s++[aK u 34 (al cy none 0 none 0 none 0 none 0)])) ?_ fun junk=>?_
     ·by_cases I : a1 = true
      ·refine bf I ar (h:=bf I (bk rfl rfl) (h:=cd I (h:=ah ?_)))
       have x_:=fD b9 I;exact bK [0,1,2,3,4,5]
      refine cu 2 (aM I) (ck (aM I) (h:=ah ?_))
      have x_:=fC b9 ((aM I));exact bK [0,1,2,3,4,5]
     refine S' ar ?_
     obtain⟨g0,c5,H⟩:=bj H
     refine dy 5 [(1,.bool a1),(2,ae a2),(3,aH b),(6,aH u),(9,ae c),(10,ae 0),(11,ae 0),(75,.bool g0)] (aK b 34 (al a d o j p l q m s)::(bn a d o j p l q m s++[aK u 34 (al cy none 0 none 0 none 0 none 0)])) ?_ fun junk=>?_
     ·by_cases z : e4 = true
      ·refine bf z ar (h:=bf z aA (h:=cE z (aP 0) (h:=bf z (eK rfl rfl) (h:=cd z (h:=ah ?_)))))
       have x_:=fD c5 z;exact bK [0,1,2,3,4,5]
      refine cu 4 (aM z) (ck (aM z) (h:=ah ?_))
      have x_:=fC c5 ((aM z));exact bK [0,1,2,3,4,5]
     refine ad aW (h:=bA ?_)
     rcases bE H with⟨a4,H⟩|⟨a4,H⟩
     ·refine aD rfl a4 (ap ?_)
      have h:=aN H;subst h
      exact bK [0,1,2,3,4,5]
     refine aE rfl a4 (ak (ad ar (h:=S' ar ?_)))
     obtain⟨e5,c6,H⟩:=bj H
     refine dy 3 [(1,.bool a1),(2,ae a2),(3,aH b),(6,aH u),(9,ae c),(10,ae 0),(11,ae 0),(80,.bool e5)] (aK b 34 (al a d o j p l q m s)::(bn a d o j p l q m s++[aK u 34 (al cy none 0 none 0 none 0 none 0)])) ?_ fun junk=>?_
     ·by_cases J : a1 = true
      ·refine bf J ar (h:=bf J (bk rfl rfl) (h:=cd J (h:=ah ?_)))
       have x_:=fD c6 J;exact bK [0,1,2,3,4,5]
      refine cu 2 (aM J) (ck (aM J) (h:=ah ?_))
      have x_:=fC c6 ((aM J));exact bK [0,1,2,3,4,5]
     refine S' ar ?_
     obtain⟨g1,c7,H⟩:=bj H
     refine dy 5 [(1,.bool a1),(2,ae a2),(3,aH b),(6,aH u),(9,ae c),(10,ae 0),(11,ae 0),(86,.bool g1)] (aK b 34 (al a d o j p l q m s)::(bn a d o j p l q m s++[aK u 34 (al cy none 0 none 0 none 0 none 0)])) ?_ fun junk=>?_
     ·by_cases D : e5 = true
      ·refine bf D ar (h:=bf D aA (h:=cE D (aP 0) (h:=bf D (ce rfl rfl) (h:=cd D (h:=ah ?_)))))
       have x_:=fD c7 D;exact bK [0,1,2,3,4,5]
      refine cu 4 (aM D) (ck (aM D) (h:=ah ?_))
      have x_:=fC c7 ((aM D));exact bK [0,1,2,3,4,5]
     refine ad aW (h:=ah ?_)
     have h:=aN H;subst h
     exact bK [0,1,2,3,4,5]
    rintro e ds As d8
    clear H
    have H:=b1
    clear b1
    refine aa (SA.of_St d8 fun junk=>?_)
    rcases bE H with⟨a5,H⟩|⟨a5,H⟩
    ·refine aD rfl a5 (ak (ad aA (h:=ad aA (h:=bp (aP 0) (h:=ad aW (h:=ah (aF ?_)))))))
     have h:=aN H;subst h
     exact bK [0,1,2,3,4,5]
    refine aE rfl a5 (ap (aF ?_))
    have h:=aN H;subst h
    exact bK [0,1,2,3,4,5]
   rintro e ds As d9
   clear H
   have H:=d1
   clear d1
   refine aa (SA.of_St d9 fun junk=>bM 1 fun g4=>bM 2 fun g5=>bM 3 fun g6=>bM 4 fun g7=>ak (ad aA (h:=bp (cz b 0 0 [ae a.f0.f0,ae a.f0.f1,.slice d a.f0.f2.length o]) (h:=S' ar ?_))))
   refine ad ar (h:=ad ar (h:=ad aA (h:=l' (cz b 6 0 (bF a.f4)) ?_)))
   obtain⟨a6,f6,H⟩:=ac H
   refine o' (gy [1] [0,2,3,4,5] (fy.ok f6) fun c9 d3=>?_)
   refine ad ar (h:=ad cr (h:=ad cr (h:=ad aA (h:=o' (cF 2 [ae a6.1.f0,ae a6.1.f1,.slice c9 a6.1.f2.length d3] (h:=(ah (aF (aa (ak (ad ar (h:=S' (bW rfl rfl) ?_))))))))))))
   obtain⟨e3,e8,H⟩:=bj H
   refine bP (ae e3) (bo (v:=ae e3) (congrArg (Value.int .i64) e8.symm)) (h:=ah ?_)
   exact aa ⟨e1,Nat.lt_succ_self _,_,_,b,c9,d3,j,p,l,q,m,s,H,dZ [2,0,3,4,5,6]⟩
  refine aB rfl d5 (cf (aX (aX (cg ?_))))
  have h:=aN H;subst h
  exact aa ⟨b,d,o,j,p,l,q,m,s,dZ [0,1,2,3,4,5]⟩
 rintro e ds As ⟨d2,L,R,M,S,N,U,O,Y,e0⟩
 clear H
 have H:=d0
 clear d0
 refine aa (SA.of_St e0 fun junk=>aR (ad aA (h:=o' (cF 0 [.bool false] (h:=(cP (bp (cm 0) (h:=o' (bi u 0 5 (al ({ c8 with f3:=false }) L R M S N U O Y) (h:=ad aW (h:=cC ?_)))))))))))
 have h:=aN H;subst h
 exact du [.cell 6 34,.tmp 7] [1,2,3,4] ⟨L,R,M,S,N,U,O,Y,rfl,rfl⟩ ⟨cV 5,cW,trivial⟩


theorem Ef.ok {a0 : aJ} {a1 : Int} {r : aJ × Int} (H : pT.f k a0 a1 = some r) : dk Tryz.prog 45 #[.agg (al a0 af ag ay az au av aw ax).toArray,ae a1] (cH a0 af ag ay az au av aw ax) (fun v B=>∃ aS aT bv bx bq br bw bz,v = .tuple #[.agg (al r.1 aS aT bv bx bq br bw bz).toArray,ae r.2]∧B = (bn r.1 aS aT bv bx bq br bw bz)):=by
 refine aj Tryz.func45 rfl rfl ?_
 unfold pT.f at H
 refine aR (o' (bO (h:=fun z=>o' (cw (h:=fun D=>ad aW (h:=cP (l' (cm 4) ?_)))))))
 obtain⟨a,J,H⟩:=ac H
 refine o' (ed [0,1,2,3] [0,1,2,3,4,5] (rK.ok J) fun u y j o l p m q=>?_)
 refine ad ar (h:=ad cr (h:=ad cr (h:=o' (bi z 0 8 (al a.1 u y j o l p m q) (h:=ad aW (h:=eD (ad ar (h:=ad (bX rfl) (h:=bA ?_)))))))))
 rcases bE H with⟨E,H⟩|⟨E,H⟩
 ·refine aD rfl E (aR (bp (cm 8) (h:=o' (bi D 0 9 (al a.1 u y j o l p m q) (h:=ad aW (h:=cD ?_))))))
  have h:=aN H;subst h
  exact du [.cell 4 34,.tmp 5] [0,1,2,3] ⟨u,y,j,o,l,p,m,q,rfl,rfl⟩ ⟨cV 9,cW,trivial⟩
 refine aE rfl E (ap (aa (ao (aR (ad aA (h:=bp (aP 8) (h:=ad aA (h:=bp (aP 8) (h:=ad (ce rfl rfl) (h:=S' ar ?_))))))))))
 obtain⟨N,I,H⟩:=bj H
 refine cK 6 (St [(1,ae a1),(2,aH z),(4,aH D),(26,.bool N)] (aK z 34 (al a.1 u y j o l p m q)::(bn a.1 u y j o l p m q++[aK D 34 (al cy none 0 none 0 none 0 none 0)]))) ?_ ?_
 ·by_cases s : a.1.f1 < a.1.f5
  ·refine cu 5 (ai s) (cd (ai s) (h:=ah ?_))
   have x_:=ji I ((ai s));exact bK [8,0,1,2,3,9]
  refine bf (am s) aA (h:=cE (am s) (aP 8) (h:=bf (am s) aA (h:=cE (am s) (aP 8) (h:=bf (am s) (eK rfl rfl) (h:=ck (am s) (h:=ah ?_))))))
  have x_:=jh I ((am s));exact bK [8,0,1,2,3,9]
 rintro e ds As K
 refine bA (SA.of_St K fun junk=>?_)
 rcases bE H with⟨F,H⟩|⟨F,H⟩
 ·refine aD rfl F (aR (bp (cm 0) (h:=o' (bi D 0 5 (al a.1 u y j o l p m q) (h:=ad aW (h:=cD ?_))))))
  have h:=aN H;subst h
  exact du [.cell 4 34,.tmp 5] [1,2,3,4] ⟨u,y,j,o,l,p,m,q,rfl,rfl⟩ ⟨cV 5,cW,trivial⟩
 refine aE rfl F (ap (aa (ao (bM 1 fun O=>bM 2 fun R=>bM 3 fun S=>bM 4 fun U=>?_))))
 refine fj [0,1,2,3,4,5,6,7,8,10,11,13] [0] (dt 1 5) fun _ _ _ _ _ sH dd pk=>?_
 refine bc 0 rfl sH aA (h:=bQ 1 rfl sH (cz z 0 0 [ae a.1.f0.f0,ae a.1.f0.f1,.slice u a.1.f0.f2.length y]) (h:=bc 2 rfl sH aA (h:=bQ 3 rfl sH (aP 0) (h:=bc 4 rfl sH aA (h:=bQ 5 rfl sH (aP 0) (h:=bc 6 rfl sH ar (h:=kV (ae (fk a1 (-1000))) 7 rfl sH (nJ rfl rfl) (h:=kV (ae (i64.wrap (0 - (fk a1 (-1000))))) 8 rfl sH (mr rfl) (h:=T' 10 rfl sH aA ?_)))))))))
 refine r' 11 rfl sH (cz z 6 0 (bF a.1.f4)) ?_
 obtain⟨Y,L,H⟩:=ac H
 refine dU 9 rfl dd (dc [] [0,1,2,3,4] (kz.ok L) ?_)
 obtain⟨b,M,H⟩:=ac H
 refine dU 12 rfl dd (gy [0] [1,2,3,4] (cA.ok M) fun c d=>?_)
 refine T' 13 rfl sH ar ?_
 refine iE (rs:=[14,15]) dd (by kernel_rfl) (by decide) (bG ⟨_,rfl,(.no rfl),?_⟩ (bG ⟨_,rfl,(.no rfl),?_⟩ df))
 ·refine id (dr (v:=.agg #[ae b.1.f0,ae b.1.f1,.slice c b.1.f2.length d]) rfl cr ?_)
  refine iE (rs:=[15,16]) dd (by kernel_rfl) (by decide) (bG ⟨_,rfl,(.no rfl),?_⟩ (bG ⟨_,rfl,(.no rfl),?_⟩ df))
  ·refine id (dr (v:=ae b.2) rfl cr (dU 16 rfl dd (dr (v:=aH z) rfl (kv z 0 0) (aV dd sH (eC 17 rfl (cF 0 [ae b.1.f0,ae b.1.f1,.slice c b.1.f2.length d] (h:=(aI (by kernel_rfl) (aa (aR (ad aA (h:=o' (cF 0 [ae 0] (h:=(ad aA (h:=o' (cF 0 [.bool false] (h:=?_))))))))))))))))))
   refine cP (bp (cm 0) (h:=o' (bi D 0 6 (al (aJ.mk b.1 a.1.f1 0 false a.1.f4 a.1.f5 a.1.f6 a.1.f7 a.1.f8 a.1.f9 a.1.f10 a.1.f11 a.1.f12 a.1.f13 a.1.f14 a.1.f15 a.1.f16 a.1.f17) c d j o l p m q) (h:=ad aW (h:=cC ?_)))))
   have h:=aN H;subst h
   exact du [.cell 4 34,.tmp 5] [1,3,4,5] ⟨c,d,j,o,l,p,m,q,rfl,rfl⟩ ⟨cV 6,cW,trivial⟩
  refine id (dr (v:=aH z) rfl (kv z 0 0) (aV dd sH ?_))
  refine eI (rs:=[15,17]) (by kernel_rfl) (by decide) (bG ⟨rfl,_,rfl,(.no rfl),?_⟩ (bG ⟨rfl,_,rfl,(.no rfl),?_⟩ df))
  ·refine id (dr (v:=ae b.2) rfl cr (eC 17 rfl (cF 0 [ae b.1.f0,ae b.1.f1,.slice c b.1.f2.length d] (h:=(aI (by kernel_rfl) (aa (aR (ad aA (h:=o' (cF 0 [ae 0] (h:=(ad aA (h:=o' (cF 0 [.bool false] (h:=(cP (l' (cm 0) ?_)))))))))))))))))
   refine o' (bi D 0 6 (al (aJ.mk b.1 a.1.f1 0 false a.1.f4 a.1.f5 a.1.f6 a.1.f7 a.1.f8 a.1.f9 a.1.f10 a.1.f11 a.1.f12 a.1.f13 a.1.f14 a.1.f15 a.1.f16 a.1.f17) c d j o l p m q) (h:=ad aW (h:=cC ?_)))
   have h:=aN H;subst h
   exact du [.cell 4 34,.tmp 5] [1,3,4,5] ⟨c,d,j,o,l,p,m,q,rfl,rfl⟩ ⟨cV 6,cW,trivial⟩
  refine id (cF 0 [ae b.1.f0,ae b.1.f1,.slice c b.1.f2.length d] (h:=(eC 15 rfl (dr (v:=ae b.2) rfl cr (aI (by kernel_rfl) (aa (aR (ad aA (h:=o' (cF 0 [ae 0] (h:=(ad aA (h:=o' (cF 0 [.bool false] (h:=(cP (l' (cm 0) ?_)))))))))))))))))
  refine o' (bi D 0 6 (al (aJ.mk b.1 a.1.f1 0 false a.1.f4 a.1.f5 a.1.f6 a.1.f7 a.1.f8 a.1.f9 a.1.f10 a.1.f11 a.1.f12 a.1.f13 a.1.f14 a.1.f15 a.1.f16 a.1.f17) c d j o l p m q) (h:=ad aW (h:=cC ?_)))
  have h:=aN H;subst h
  exact du [.cell 4 34,.tmp 5] [1,3,4,5] ⟨c,d,j,o,l,p,m,q,rfl,rfl⟩ ⟨cV 6,cW,trivial⟩
 refine id (dr (v:=ae b.2) rfl cr (dU 14 rfl dd (dr (v:=.agg #[ae b.1.f0,ae b.1.f1,.slice c b.1.f2.length d]) rfl cr (dU 16 rfl dd (dr (v:=aH z) rfl (kv z 0 0) (aV dd sH (eC 17 rfl (cF 0 [ae b.1.f0,ae b.1.f1,.slice c b.1.f2.length d] (h:=(aI (by kernel_rfl) (aa (aR (ad aA (h:=o' (cF 0 [ae 0] (h:=(S' aA ?_)))))))))))))))))
 refine o' (cF 0 [.bool false] (h:=(cP (bp (cm 0) (h:=o' (bi D 0 6 (al (aJ.mk b.1 a.1.f1 0 false a.1.f4 a.1.f5 a.1.f6 a.1.f7 a.1.f8 a.1.f9 a.1.f10 a.1.f11 a.1.f12 a.1.f13 a.1.f14 a.1.f15 a.1.f16 a.1.f17) c d j o l p m q) (h:=ad aW (h:=cC ?_))))))))
 have h:=aN H;subst h
 exact du [.cell 4 34,.tmp 5] [1,3,4,5] ⟨c,d,j,o,l,p,m,q,rfl,rfl⟩ ⟨cV 6,cW,trivial⟩


theorem Eg.ok {a0 : aJ} {a1 : Int} {r : aJ × Int} (H : pU.f k a0 a1 = some r) : dk Tryz.prog 46 #[.agg (al a0 af ag ay az au av aw ax).toArray,ae a1] (cH a0 af ag ay az au av aw ax) (fun v B=>∃ aS aT bv bx bq br bw bz,v = .tuple #[.agg (al r.1 aS aT bv bx bq br bw bz).toArray,ae r.2]∧B = (bn r.1 aS aT bv bx bq br bw bz)):=by
 refine aj Tryz.func46 rfl rfl ?_
 unfold pU.f at H
 refine aR (o' (bO (h:=fun z=>o' (cw (h:=fun E=>ad aW (h:=cP (l' (cm 4) ?_)))))))
 obtain⟨a,I,H⟩:=ac H
 refine o' (ed [0,1,2,3] [0,1,2,3,4,5] (rK.ok I) fun u y b j c m d o=>?_)
 refine ad ar (h:=ad cr (h:=ad cr (h:=o' (bi z 0 8 (al a.1 u y b j c m d o) (h:=ad aW (h:=eD (ad ar (h:=ad (bX rfl) (h:=bA ?_)))))))))
 rcases bE H with⟨D,H⟩|⟨D,H⟩
 ·refine aD rfl D (aR (bp (cm 8) (h:=o' (bi E 0 9 (al a.1 u y b j c m d o) (h:=ad aW (h:=cD ?_))))))
  have h:=aN H;subst h
  exact du [.cell 4 34,.tmp 5] [0,1,2,3] ⟨u,y,b,j,c,m,d,o,rfl,rfl⟩ ⟨cV 9,cW,trivial⟩
 refine aE rfl D (ap (aa (ao (bM 0 fun J=>bM 1 fun K=>bM 2 fun L=>bM 3 fun M=>ak (ad aA (h:=bp (cz z 0 8 [ae a.1.f0.f0,ae a.1.f0.f1,.slice u a.1.f0.f2.length y]) (h:=S' aA ?_)))))))
 refine bp (aP 8) (h:=ad aA (h:=bp (aP 8) (h:=ad ar (h:=ad aA (h:=l' (cz z 6 8 (bF a.1.f4)) ?_)))))
 obtain⟨p,F,H⟩:=ac H
 refine o' (gy [0] [1,2,3,4,5,6,7,8,9] (fx.ok F) fun q s=>?_)
 refine ad ar (h:=ad cr (h:=ad cr (h:=ad aA (h:=o' (cF 9 [ae p.1.f0,ae p.1.f1,.slice q p.1.f2.length s] (h:=(bA (SA.of_St (l:=[(2,aH z),(4,aH E)]) (B:=[aK z 34 (al (aJ.mk p.1 a.1.f1 a.1.f2 a.1.f3 a.1.f4 a.1.f5 a.1.f6 a.1.f7 a.1.f8 a.1.f9 a.1.f10 a.1.f11 a.1.f12 a.1.f13 a.1.f14 a.1.f15 a.1.f16 a.1.f17) q s b j c m d o),Buf bD 55 q s p.1.f2,gf 3 b j a.1.f7,Buf bD 55 c m a.1.f16.f2,kU 21 d o a.1.f17,aK E 34 (al cy none 0 none 0 none 0 none 0)]) (St.mk1 (cB rfl (cB rfl dS)) (Gh.sel [9,0,2,3,4,10] (by kernel_rfl) (by kernel_rfl))) fun junk=>aR (ad aA (h:=o' (cF 0 [.bool false] (h:=?_))))))))))))
 refine cP (bp (cm 0) (h:=o' (bi E 0 5 (al (aJ.mk p.1 a.1.f1 a.1.f2 false a.1.f4 a.1.f5 a.1.f6 a.1.f7 a.1.f8 a.1.f9 a.1.f10 a.1.f11 a.1.f12 a.1.f13 a.1.f14 a.1.f15 a.1.f16 a.1.f17) q s b j c m d o) (h:=ad aW (h:=cC ?_)))))
 have h:=aN H;subst h
 exact du [.cell 4 34,.tmp 5] [1,2,3,4] ⟨q,s,b,j,c,m,d,o,rfl,rfl⟩ ⟨cV 5,cW,trivial⟩


theorem Eh.ok {a0 : aJ} {a1 : Int} {r : aJ × Int} (H : pV.f k a0 a1 = some r) : dk Tryz.prog 47 #[.agg (al a0 af ag ay az au av aw ax).toArray,ae a1] (cH a0 af ag ay az au av aw ax) (fun v B=>∃ aS aT bv bx bq br bw bz,v = .tuple #[.agg (al r.1 aS aT bv bx bq br bw bz).toArray,ae r.2]∧B = (bn r.1 aS aT bv bx bq br bw bz)):=by
 refine aj Tryz.func47 rfl rfl ?_
 unfold pV.f at H
 refine aR (o' (bO (h:=fun z=>o' (cw (h:=fun E=>ad aW (h:=cP (l' (cm 4) ?_)))))))
 obtain⟨a,I,H⟩:=ac H
 refine o' (ed [0,1,2,3] [0,1,2,3,4,5] (rK.ok I) fun u y b j c m d o=>?_)
 refine ad ar (h:=ad cr (h:=ad cr (h:=o' (bi z 0 8 (al a.1 u y b j c m d o) (h:=ad aW (h:=eD (ad ar (h:=ad (bX rfl) (h:=bA ?_)))))))))
 rcases bE H with⟨D,H⟩|⟨D,H⟩
 ·refine aD rfl D (aR (bp (cm 8) (h:=o' (bi E 0 9 (al a.1 u y b j c m d o) (h:=ad aW (h:=cD ?_))))))
  have h:=aN H;subst h
  exact du [.cell 4 34,.tmp 5] [0,1,2,3] ⟨u,y,b,j,c,m,d,o,rfl,rfl⟩ ⟨cV 9,cW,trivial⟩
 refine aE rfl D (ap (aa (ao (bM 0 fun J=>bM 1 fun K=>bM 2 fun L=>bM 3 fun M=>ak (ad aA (h:=bp (cz z 0 8 [ae a.1.f0.f0,ae a.1.f0.f1,.slice u a.1.f0.f2.length y]) (h:=S' aA ?_)))))))
 refine bp (aP 8) (h:=ad aA (h:=bp (aP 8) (h:=ad ar (h:=ad aA (h:=l' (cz z 6 8 (bF a.1.f4)) ?_)))))
 obtain⟨p,F,H⟩:=ac H
 refine o' (gy [0] [1,2,3,4,5,6,7,8,9] (cA.ok F) fun q s=>?_)
 refine ad ar (h:=ad cr (h:=ad cr (h:=ad aA (h:=o' (cF 9 [ae p.1.f0,ae p.1.f1,.slice q p.1.f2.length s] (h:=(bA (SA.of_St (l:=[(2,aH z),(4,aH E)]) (B:=[aK z 34 (al (aJ.mk p.1 a.1.f1 a.1.f2 a.1.f3 a.1.f4 a.1.f5 a.1.f6 a.1.f7 a.1.f8 a.1.f9 a.1.f10 a.1.f11 a.1.f12 a.1.f13 a.1.f14 a.1.f15 a.1.f16 a.1.f17) q s b j c m d o),Buf bD 55 q s p.1.f2,gf 3 b j a.1.f7,Buf bD 55 c m a.1.f16.f2,kU 21 d o a.1.f17,aK E 34 (al cy none 0 none 0 none 0 none 0)]) (St.mk1 (cB rfl (cB rfl dS)) (Gh.sel [9,0,2,3,4,10] (by kernel_rfl) (by kernel_rfl))) fun junk=>aR (ad aA (h:=o' (cF 0 [.bool false] (h:=?_))))))))))))
 refine cP (bp (cm 0) (h:=o' (bi E 0 5 (al (aJ.mk p.1 a.1.f1 a.1.f2 false a.1.f4 a.1.f5 a.1.f6 a.1.f7 a.1.f8 a.1.f9 a.1.f10 a.1.f11 a.1.f12 a.1.f13 a.1.f14 a.1.f15 a.1.f16 a.1.f17) q s b j c m d o) (h:=ad aW (h:=cC ?_)))))
 have h:=aN H;subst h
 exact du [.cell 4 34,.tmp 5] [1,2,3,4] ⟨q,s,b,j,c,m,d,o,rfl,rfl⟩ ⟨cV 5,cW,trivial⟩


theorem Ei.ok {a0 : aJ} {a1 : Int} {a2 : Int} {r : aJ × Int} (H : pW.f k a0 a1 a2 = some r) : dk Tryz.prog 48 #[.agg (al a0 af ag ay az au av aw ax).toArray,ae a1,ae a2] (cH a0 af ag ay az au av aw ax) (fun v B=>∃ aS aT bv bx bq br bw bz,v = .tuple #[.agg (al r.1 aS aT bv bx bq br bw bz).toArray,ae r.2]∧B = (bn r.1 aS aT bv bx bq br bw bz)):=by
 refine aj Tryz.func48 rfl rfl ?_
 unfold pW.f at H
 refine aR (o' (bO (h:=fun y=>o' (cw (h:=fun s=>ad aW (h:=cP (l' (cm 4) ?_)))))))
 obtain⟨u,Z,H⟩:=ac H
 refine o' (ed [0,1,2,3] [0,1,2,3,4,5] (rK.ok Z) fun b l c m d o j p=>?_)
 refine ad ar (h:=ad cr (h:=ad cr (h:=o' (bi y 0 8 (al u.1 b l c m d o j p) (h:=ad aW (h:=eD (ad ar (h:=ad (bX rfl) (h:=bA ?_)))))))))
 rcases bE H with⟨z,H⟩|⟨z,H⟩
 ·refine aD rfl z (aR (bp (cm 8) (h:=o' (bi s 0 9 (al u.1 b l c m d o j p) (h:=ad aW (h:=cD ?_))))))
  have h:=aN H;subst h
  exact du [.cell 6 34,.tmp 7] [0,1,2,3] ⟨b,l,c,m,d,o,j,p,rfl,rfl⟩ ⟨cV 9,cW,trivial⟩
 refine aE rfl z (ap (aa (ao (aR (ad ar (h:=ad (ce rfl rfl) (h:=S' ar ?_)))))))
 obtain⟨U,E,H⟩:=bj H
 refine dy 4 [(1,ae a1),(2,ae a2),(3,aH y),(6,aH s),(23,.bool U)] (aK y 34 (al u.1 b l c m d o j p)::(bn u.1 b l c m d o j p++[aK s 34 (al cy none 0 none 0 none 0 none 0)])) ?_ fun junk=>?_
 ·by_cases q : a1 < 0
  ·refine cu 3 (ai q) (cd (ai q) (h:=ah ?_))
   have x_:=ji E ((ai q));exact bK [8,0,1,2,3,9]
  refine bf (am q) ar (h:=bf (am q) ar (h:=bf (am q) (dT rfl rfl) (h:=ck (am q) (h:=ah ?_))))
  have x_:=jh E ((am q));exact bK [8,0,1,2,3,9]
 refine S' ar ?_
 obtain⟨a3,F,H⟩:=bj H
 refine cK 6 (St [(1,ae a1),(2,ae a2),(3,aH y),(6,aH s),(30,.bool a3)] (aK y 34 (al u.1 b l c m d o j p)::(bn u.1 b l c m d o j p++[aK s 34 (al cy none 0 none 0 none 0 none 0)]))) ?_ ?_
 ·by_cases a : U = true
  ·refine cu 5 a (cd a (h:=ah ?_))
   have x_:=ji F a;exact bK [0,1,2,3,4,5]
  refine bf (aM a) ar (h:=bf (aM a) aA (h:=bf (aM a) aA (h:=cE (aM a) (aP 0) (h:=bf (aM a) (dT rfl rfl) (h:=ck (aM a) (h:=ah ?_))))))
  have x_:=jh F ((aM a));exact bK [0,1,2,3,4,5]
 rintro e ds As I
 refine bA (SA.of_St I fun junk=>?_)
 rcases bE H with⟨D,H⟩|⟨D,H⟩
 ·refine aD rfl D (aR (bp (cm 0) (h:=o' (bi s 0 5 (al u.1 b l c m d o j p) (h:=ad aW (h:=cD ?_))))))
  have h:=aN H;subst h
  exact du [.cell 6 34,.tmp 7] [1,2,3,4] ⟨b,l,c,m,d,o,j,p,rfl,rfl⟩ ⟨cV 5,cW,trivial⟩
 refine aE rfl D (ap (aa (aR (ad ar (h:=ad ar (h:=ad aA (h:=o' (cF 0 [ae a1] (h:=(ad aA (h:=o' (cF 0 [ae a2] (h:=(bA (ao (bM 1 fun a5=>?_))))))))))))))))
 refine bM 2 fun a6=>bM 3 fun a7=>bM 4 fun a8=>ak (l' (cm 0) ?_)
 obtain⟨a4,Y,H⟩:=ac H
 refine o' (ed [1,2,3,4] [0,5] (jW.ok Y) fun J N K O L R M S=>?_)
 refine ad cr (h:=ad cr (h:=o' (bi s 0 9 (al a4.1 J N K O L R M S) (h:=ad aW (h:=cC ?_)))))
 have h:=aN H;subst h
 exact du [.cell 6 34,.tmp 7] [0,1,2,3] ⟨J,N,K,O,L,R,M,S,rfl,rfl⟩ ⟨cV 9,cW,trivial⟩

end Go.Proofs.YtckilbegmbaeeaaGreat.Z6

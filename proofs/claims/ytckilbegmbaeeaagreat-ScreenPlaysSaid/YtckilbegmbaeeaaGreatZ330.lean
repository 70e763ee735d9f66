/- What functions compute, and that they do: 13b0, 53b0. -/
import Derived.Test.YtckilbegmbaeeaaGreatZ324
import Derived.Test.YtckilbegmbaeeaaGreatZ328
import Derived.Test.YtckilbegmbaeeaaGreatZ329
namespace Go.Proofs.YtckilbegmbaeeaaGreat.Z3
open Go Go.RowKit Go.Proofs.YtckilbegmbaeeaaGreat.SL
open Go.IntKind (i64)
set_option linter.unusedVariables false
set_option maxHeartbeats 20000000
set_option maxRecDepth 100000
set_option linter.unusedSimpArgs false
attribute [local irreducible] IntKind.wrap cC dO eX gp gl lH fU cN gm rd sub bytesOf eG cL
variable {af ay ar au k : Nat}
variable {ag az aw av : Option Addr}
def oy.f (k : Nat) (a0 : aG) (a1 : Int) (a2 : Int) : Option (aG × Int):=(eN.f k a0).bind (fun a=>if (!a.2) = true then (some ((a.1,2))) else ((fP.f k a.1.f0 a1 a2 a.1.f4).bind (fun jH=>if jH.2 ≠ 0 then (some (((aG.mk (bF.mk 0 0 ([] : (List aZ))) 0 0 false (cA.mk 0 0 false false false false false false false false) 0 0 ([] : (List Int)) false false false false false false (dq.mk 0 0 false false (cA.mk 0 0 false false false false false false false false)) false (bF.mk 0 0 ([] : (List aZ))) ([] : (List Int))),jH.2))) else ((if a.1.f15 = true then ((fP.f k a.1.f16 a1 a2 a.1.f4).bind (fun c=>some (aG.mk jH.1 a.1.f1 a.1.f2 a.1.f3 a.1.f4 a.1.f5 a.1.f6 a.1.f7 a.1.f8 a.1.f9 a.1.f10 a.1.f11 a.1.f12 a.1.f13 a.1.f14 a.1.f15 c.1 a.1.f17))) else (some (aG.mk jH.1 a.1.f1 a.1.f2 a.1.f3 a.1.f4 a.1.f5 a.1.f6 a.1.f7 a.1.f8 a.1.f9 a.1.f10 a.1.f11 a.1.f12 a.1.f13 a.1.f14 a.1.f15 a.1.f16 a.1.f17)) : Option (aG)).bind (fun b=>(pL.f k a1).bind (fun d=>some ((({ b with f1:=(cC b.f1 (i64.wrap (a2 - 1))),f2:=(cC b.f2 (i64.wrap (a1 - 1))),f3:=false,f5:=0,f6:=(i64.wrap (a2 - 1)),f7:=d,f14:=(dq.mk (cC b.f14.f0 (i64.wrap (a2 - 1))) (cC b.f14.f1 (i64.wrap (a1 - 1))) false b.f14.f3 b.f14.f4) }),0))))))))
theorem oy.ok {a0 : aG} {a1 : Int} {a2 : Int} {r : aG × Int} (H : oy.f k a0 a1 a2 = some r) : df Tryz.prog 53 #[.agg (al a0 ag af az ay aw ar av au).toArray,ae a1,ae a2] (aS a0 ag af az ay aw ar av au) (fun v B=>∃ aP aO bA bv bq bp bB bw,v = .tuple #[.agg (al r.1 aP aO bA bv bq bp bB bw).toArray,ae r.2]∧B = (aS r.1 aP aO bA bv bq bp bB bw++aS a0 ag af az ay aw ar av au)):=by
 refine ai Tryz.func53 rfl rfl ?_
 unfold oy.f at H
 refine aQ (o' (bN (h:=fun K=>o' (cy (h:=fun L=>ad aV (h:=bC (ao (bj 0 fun c9=>bj 1 fun b4=>bj 2 fun b6=>bj 3 fun b8=>ah ?_))))))))
 refine l' (ck 4) ?_
 obtain⟨b,b0,H⟩:=ac H
 refine o' (dN [0,1,2,3] [4,5] (eN.ok b0) fun I J c d j m o p=>?_)
 refine ad ax (h:=ad cg (h:=ad cg (h:=o' (bg K 0 8 (al b.1 I J c d j m o p) (h:=ad aV (h:=eJ (ad ax (h:=ad (ca rfl) (h:=bC ?_)))))))))
 rcases bH H with⟨S,H⟩|⟨S,H⟩
 ·refine aC rfl S (aQ (bD (ck 8) (h:=o' (bg L 0 9 (al b.1 I J c d j m o p) (h:=ad aV (h:=cE ?_))))))
  have h:=aN H;subst h
  exact dt [.cell 6 34,.tmp 7] [0,1,2,3,4,5,6,7] ⟨I,J,c,d,j,m,o,p,rfl,rfl⟩ ⟨cR 9,cP,trivial⟩
 refine aD rfl S (ap (aa (ao (bj 0 fun b9=>bj 1 fun c5=>bj 2 fun c6=>bj 3 fun c7=>ah (ad aE (h:=bD (cG K 0 8 [ae b.1.f0.f0,ae b.1.f0.f1,.slice I b.1.f0.f2.length J]) (h:=S' ax ?_)))))))
 refine ad ax (h:=ad aE (h:=l' (cG K 6 8 (bG b.1.f4)) ?_))
 obtain⟨jH,b1,H⟩:=ac H
 refine o' (gu [0] [1,2,3,4,5,6,7,8,9] (fP.ok b1) fun q s=>?_)
 refine ad ax (h:=ad cg (h:=ad cg (h:=o' (cy (h:=fun R=>o' (bg R 0 11 [ae jH.1.f0,ae jH.1.f1,.slice q jH.1.f2.length s] (h:=ad aV (h:=bC (SA.of_St (l:=[(1,ae a1),(2,ae a2),(3,aK K),(6,aK L),(9,aK R),(10,ae jH.2)]) (B:=(aS a0 ag af az ay aw ar av au++(aL K 34 (al b.1 I J c d j m o p)::(aS b.1 I J c d j m o p++[aL L 34 (al cx none 0 none 0 none 0 none 0),aL R 26 [ae jH.1.f0,ae jH.1.f1,.slice q jH.1.f2.length s],Buf bE 55 q s jH.1.f2])))) (St.mk1 (cJ rfl (cJ rfl (cJ rfl (cJ rfl (cJ rfl (cJ rfl dQ)))))) (Gh.sel [5,6,7,8,9,1,2,3,4,10,11,0] (by kernel_rfl) (by kernel_rfl))) fun junk=>ao (aQ (S' ax ?_)))))))))))
 refine ad (dK rfl rfl) (h:=bC ?_)
 rcases bH H with⟨U,H⟩|⟨U,H⟩
 ·refine aB rfl U (aQ (bO (.agg (al cx none 0 none 0 none 0 none 0).toArray) dA (h:=ad ax (h:=o' (bg L 0 9 (al cx none 0 none 0 none 0 none 0) (h:=ad aV (h:=cE ?_)))))))
  have h:=aN H;subst h
  exact lT [.cell 6 34,.tmp 7] ((Gh.nilBuf bE 55).trans ((Gh.nilBuf (Kd.int .i64) 3).trans ((Gh.nilBuf bE 55).trans ((Gh.nilBuf (Kd.int .i32) 21).trans (eY [12,13,14,15,0,1,2,3]))))) ⟨none,0,none,0,none,0,none,0,rfl,rfl⟩ ⟨cR 9,cP,trivial⟩
 refine aA rfl U (ap (aa (aQ (bD (cG R 0 10 [ae jH.1.f0,ae jH.1.f1,.slice q jH.1.f2.length s]) (h:=ad aE (h:=o' (cH 4 [ae jH.1.f0,ae jH.1.f1,.slice q jH.1.f2.length s] (h:=(eJ (ad aE (h:=bD (aT 4) (h:=bC ?_))))))))))))
 obtain⟨a,H,Y⟩:=ac H
 refine bI (fun e ds As=>∃ (M : Nat),∃ (u : Option Addr) (y : Nat),∃ (N : Option Addr) (O : Nat),∃ (z : Option Addr) (D : Nat),∃ (E : Option Addr) (F : Nat),St [(1,ae a1),(2,ae a2),(3,aK M),(6,aK L)] (aL M 34 (al a u y N O z D E F)::(aS a u y N O z D E F++(aS a0 ag af az ay aw ar av au++[aL L 34 (al cx none 0 none 0 none 0 none 0)]))) e ds As) ?_ ?_
 ·rcases bH H with⟨Z,H⟩|⟨Z,H⟩
  ·refine aC rfl Z (bj 11 fun c8=>ah (ad aE (h:=bD (cG K 40 4 [ae b.1.f16.f0,ae b.1.f16.f1,.slice j b.1.f16.f2.length m]) (h:=ad ax (h:=ad ax (h:=ad aE (h:=l' (cG K 6 4 (bG b.1.f4)) ?_)))))))
   obtain⟨a3,b2,H⟩:=ac H
   refine o' (gu [7] [0,1,2,3,4,5,6,8,9,10,11] (fP.ok b2) fun a7 a8=>?_)
   refine ad ax (h:=ad cg (h:=ad cg (h:=ad aE (h:=o' (cH 6 [ae a3.1.f0,ae a3.1.f1,.slice a7 a3.1.f2.length a8] (h:=(aj ?_)))))))
   have h:=aN H;subst h
   exact aa ⟨K,q,s,c,d,a7,a8,o,p,ed [6,12,8,0,9,2,3,4,5,10]⟩
  refine aD rfl Z (ap ?_)
  have h:=aN H;subst h
  exact aa ⟨K,q,s,c,d,j,m,o,p,ed [4,11,6,7,8,0,1,2,3,9]⟩
 rintro e ds As ⟨M,u,y,N,O,z,D,E,F,a6⟩
 clear H
 have H:=Y
 clear Y
 refine aa (SA.of_St a6 fun junk=>aQ (ad aE (h:=bD (aT 0) (h:=ad ax (h:=ad (cY rfl rfl) (h:=bO (ae (cC a.f1 (i64.wrap (a2 - 1)))) (jR rfl rfl) (h:=ad aE (h:=l' (aT 0) ?_))))))))
 refine ad ax (h:=ad (cY rfl rfl) (h:=bO (ae (cC a.f2 (i64.wrap (a1 - 1)))) (jR rfl rfl) (h:=ad aE (h:=o' (cH 0 [ae (cC a.f1 (i64.wrap (a2 - 1)))] (h:=(ad aE (h:=o' (cH 0 [ae (cC a.f2 (i64.wrap (a1 - 1)))] (h:=(ad aE (h:=o' (cH 0 [.bool false] (h:=(cV ?_)))))))))))))))
 refine ad aE (h:=ad aE (h:=bD (aT 0) (h:=ad ax (h:=ad (cY rfl rfl) (h:=bO (ae (cC a.f14.f0 (i64.wrap (a2 - 1)))) (jR rfl rfl) (h:=ad aE (h:=ad aE (h:=bD (aT 0) (h:=S' ax ?_)))))))))
 refine ad (cY rfl rfl) (h:=bO (ae (cC a.f14.f1 (i64.wrap (a1 - 1)))) (jR rfl rfl) (h:=ad aE (h:=ad aE (h:=o' (cH 0 [ae (cC a.f14.f0 (i64.wrap (a2 - 1)))] (h:=(ad aE (h:=ad aE (h:=o' (cH 0 [ae (cC a.f14.f1 (i64.wrap (a1 - 1)))] (h:=(ad aE (h:=S' aE ?_)))))))))))))
 refine o' (cH 0 [.bool false] (h:=(bC (SA.of_St (l:=[(1,ae a1),(2,ae a2),(3,aK M),(6,aK L)]) (B:=(aS a0 ag af az ay aw ar av au++(aL M 34 (al ({ a with f1:=(cC a.f1 (i64.wrap (a2 - 1))),f2:=(cC a.f2 (i64.wrap (a1 - 1))),f3:=false,f14:=(dq.mk (cC a.f14.f0 (i64.wrap (a2 - 1))) (cC a.f14.f1 (i64.wrap (a1 - 1))) false a.f14.f3 a.f14.f4) }) u y N O z D E F)::(aS a u y N O z D E F++[aL L 34 (al cx none 0 none 0 none 0 none 0)])))) (St.mk1 (cJ rfl (cJ rfl (cJ rfl (cJ rfl dQ)))) (Gh.sel [5,6,7,8,0,1,2,3,4,9] (by kernel_rfl) (by kernel_rfl))) fun junk=>aQ (ad ax (h:=ad (cY rfl rfl) (h:=S' ax ?_)))))))
 obtain⟨a9,b3,H⟩:=ac H
 refine o' (gu [] [0,1,2,3,4,5,6,7,8,9] (pL.ok b3) fun a4 a5=>?_)
 refine ad aE (h:=o' (cH 5 [ae 0] (h:=(ad aE (h:=o' (cH 5 [ae (i64.wrap (a2 - 1))] (h:=(ad aE (h:=o' (cH 5 [.slice a4 a9.length a5] (h:=(cV (bD (ck 5) (h:=o' (bg L 0 10 (al ({ a with f1:=(cC a.f1 (i64.wrap (a2 - 1))),f2:=(cC a.f2 (i64.wrap (a1 - 1))),f3:=false,f5:=0,f6:=(i64.wrap (a2 - 1)),f7:=a9,f14:=(dq.mk (cC a.f14.f0 (i64.wrap (a2 - 1))) (cC a.f14.f1 (i64.wrap (a1 - 1))) false a.f14.f3 a.f14.f4) }) u y a4 a5 z D E F) (h:=S' aV ?_))))))))))))))))
 refine cF ?_
 have h:=aN H;subst h
 exact dt [.cell 6 34,.tmp 7] [6,0,8,9,1,2,3,4] ⟨u,y,a4,a5,z,D,E,F,rfl,rfl⟩ ⟨cR 10,cP,trivial⟩


def ns.f (k : Nat) (a0 : aG) (a1 : pM) : Option (aG × Int):=if a1.f0 = 0 then ((nJ.f k a0 (IntKind.i32.wrap (a1.f1))).bind (fun p=>some ((p.1,p.2)))) else (if a1.f0 = 1 then ((jg.f k a0 (IntKind.i32.wrap (a1.f1))).bind (fun q=>some ((q.1,q.2)))) else (if a1.f0 = 2 then ((nN.f k a0 a1.f1 a1.f2).bind (fun r=>some ((r.1,r.2)))) else (if a1.f0 = 3 then ((kR.f k a0 a1.f1 a1.f2).bind (fun s=>some ((s.1,s.2)))) else (if a1.f0 = 4 then ((jd.f k a0 a1.f3 a1.f1).bind (fun u=>some ((u.1,u.2)))) else (if a1.f0 = 5 then ((oh.f k a0 a1.f1).bind (fun a=>some ((a.1,a.2)))) else (if a1.f0 = 6 then ((nZ.f k a0 a1.f1).bind (fun b=>some ((b.1,b.2)))) else (if a1.f0 = 7 then ((nX.f k a0 a1.f1).bind (fun c=>some ((c.1,c.2)))) else (if a1.f0 = 8 then ((nP.f k a0 a1.f1 a1.f2).bind (fun d=>some ((d.1,d.2)))) else (if a1.f0 = 9 then ((ju.f k a0 a1.f3).bind (fun h=>some ((h.1,h.2)))) else (if a1.f0 = 10 then ((nK.f k a0 a1.f3 a1.f1 (decide (a1.f2 > 0))).bind (fun j=>some ((j.1,j.2)))) else (if a1.f0 = 11 then ((fB.f k a0 a1.f1).bind (fun l=>some ((l.1,l.2)))) else (if a1.f0 = 12 then ((oB.f k a0 a1.f1).bind (fun m=>some ((m.1,m.2)))) else ((oy.f k a0 a1.f1 a1.f2).bind (fun o=>some ((o.1,o.2))))))))))))))))
theorem ns.ok {a0 : aG} {a1 : pM} {r : aG × Int} (H : ns.f k a0 a1 = some r) : df Tryz.prog 13 #[.agg (al a0 ag af az ay aw ar av au).toArray,.agg #[.int .u8 a1.f0,ae a1.f1,ae a1.f2,.bool a1.f3]] (aS a0 ag af az ay aw ar av au) (fun v B=>∃ aP aO bA bv bq bp bB bw,v = .tuple #[.agg (al r.1 aP aO bA bv bq bp bB bw).toArray,ae r.2]∧B = (aS r.1 aP aO bA bv bq bp bB bw++aS a0 ag af az ay aw ar av au)):=by
 refine ai Tryz.func13 rfl rfl ?_
 unfold ns.f at H
 refine aQ (o' (bN (h:=fun b5=>o' (bN (h:=fun b7=>o' (cy (h:=fun a=>ad aV (h:=eJ (ad aE (h:=bD (aT 5) (h:=bC (aU (aQ (S' (bk rfl rfl) ?_))))))))))))))
 refine ad aV (h:=bC ?_)
 rcases bH H with⟨s,H⟩|⟨s,H⟩
 ·refine aB rfl s (ao (bj 0 fun s6=>bj 1 fun s7=>bj 2 fun s8=>bj 3 fun s9=>ah (bD (ck 4) (h:=ad aE (h:=l' (aT 5) ?_)))))
  refine s' (aJ (IntKind.i32.wrap (a1.f1))) (jS (T:=3) (by kernel_rfl) Tryz.underlying21 rfl) ?_
  obtain⟨n2,n3,H⟩:=ac H
  refine o' (dN [0,1,2,3] [4,5,6] (nJ.ok n3) fun h6 h7 h8 h9 i0 i1 i2 i3=>?_)
  refine ad cg (h:=ad cg (h:=o' (bg a 0 10 (al n2.1 h6 h7 h8 h9 i0 i1 i2 i3) (h:=ad aV (h:=cF (bi (aI ?_)))))))
  have h:=aN H;subst h
  exact dt [.cell 4 34,.tmp 5] [0,1,2,3,4,5,6,7] ⟨h6,h7,h8,h9,i0,i1,i2,i3,rfl,rfl⟩ ⟨cR 10,cP,trivial⟩
 refine aA rfl s (aQ (ad (bk rfl rfl) (h:=ad aV (h:=bC ?_))))
 rcases bH H with⟨u,H⟩|⟨u,H⟩
 ·refine aB rfl u (ao (bj 0 fun t0=>bj 1 fun t1=>bj 2 fun t2=>bj 3 fun t3=>ah (bD (ck 4) (h:=ad aE (h:=l' (aT 5) ?_)))))
  refine s' (aJ (IntKind.i32.wrap (a1.f1))) (jS (T:=3) (by kernel_rfl) Tryz.underlying21 rfl) ?_
  obtain⟨o0,o1,H⟩:=ac H
  refine o' (dN [0,1,2,3] [4,5,6] (jg.ok o1) fun i4 i5 i6 i7 i8 i9 j0 j1=>?_)
  refine ad cg (h:=ad cg (h:=o' (bg a 0 10 (al o0.1 i4 i5 i6 i7 i8 i9 j0 j1) (h:=ad aV (h:=cF (bi (aI ?_)))))))
  have h:=aN H;subst h
  exact dt [.cell 4 34,.tmp 5] [0,1,2,3,4,5,6,7] ⟨i4,i5,i6,i7,i8,i9,j0,j1,rfl,rfl⟩ ⟨cR 10,cP,trivial⟩
 refine aA rfl u (aQ (ad (bk rfl rfl) (h:=ad aV (h:=bC ?_))))
 rcases bH H with⟨y,H⟩|⟨y,H⟩
 ·refine aB rfl y (ao (bj 0 fun t4=>bj 1 fun t5=>bj 2 fun t6=>bj 3 fun t7=>ah (bD (ck 4) (h:=ad aE (h:=l' (aT 5) ?_)))))
  refine ad aE (h:=l' (aT 5) ?_)
  obtain⟨o2,o3,H⟩:=ac H
  refine o' (dN [0,1,2,3] [4,5,6] (nN.ok o3) fun j2 j3 j4 j5 j6 j7 j8 j9=>?_)
  refine ad cg (h:=ad cg (h:=o' (bg a 0 10 (al o2.1 j2 j3 j4 j5 j6 j7 j8 j9) (h:=ad aV (h:=cF (bi (aI ?_)))))))
  have h:=aN H;subst h
  exact dt [.cell 4 34,.tmp 5] [0,1,2,3,4,5,6,7] ⟨j2,j3,j4,j5,j6,j7,j8,j9,rfl,rfl⟩ ⟨cR 10,cP,trivial⟩
 refine aA rfl y (aQ (ad (bk rfl rfl) (h:=ad aV (h:=bC ?_))))
 rcases bH H with⟨z,H⟩|⟨z,H⟩
 ·refine aB rfl z (ao (bj 0 fun t8=>bj 1 fun t9=>bj 2 fun u0=>bj 3 fun u1=>ah (bD (ck 4) (h:=ad aE (h:=l' (aT 5) ?_)))))
  refine ad aE (h:=l' (aT 5) ?_)
  obtain⟨o4,o5,H⟩:=ac H
  refine o' (dN [0,1,2,3] [4,5,6] (kR.ok o5) fun k0 k1 k2 k3 k4 k5 k6 k7=>?_)
  refine ad cg (h:=ad cg (h:=o' (bg a 0 10 (al o4.1 k0 k1 k2 k3 k4 k5 k6 k7) (h:=ad aV (h:=cF (bi (aI ?_)))))))
  have h:=aN H;subst h
  exact dt [.cell 4 34,.tmp 5] [0,1,2,3,4,5,6,7] ⟨k0,k1,k2,k3,k4,k5,k6,k7,rfl,rfl⟩ ⟨cR 10,cP,trivial⟩
 refine aA rfl z (aQ (ad (bk rfl rfl) (h:=ad aV (h:=bC ?_))))
 rcases bH H with⟨D,H⟩|⟨D,H⟩
 ·refine aB rfl D (ao (bj 0 fun u2=>bj 1 fun u3=>bj 2 fun u4=>bj 3 fun u5=>ah (bD (ck 4) (h:=ad aE (h:=l' (aT 5) ?_)))))
  refine ad aE (h:=l' (aT 5) ?_)
  obtain⟨o6,l3,H⟩:=ac H
  refine o' (dN [0,1,2,3] [4,5,6] (jd.ok l3) fun k8 k9 l0 l1 l2 E F I=>?_)
  refine ad cg (h:=ad cg (h:=o' (bg a 0 10 (al o6.1 k8 k9 l0 l1 l2 E F I) (h:=ad aV (h:=cF (bi (aI ?_)))))))
  have h:=aN H;subst h
  exact dt [.cell 4 34,.tmp 5] [0,1,2,3,4,5,6,7] ⟨k8,k9,l0,l1,l2,E,F,I,rfl,rfl⟩ ⟨cR 10,cP,trivial⟩
 refine aA rfl D (aQ (ad (bk rfl rfl) (h:=ad aV (h:=bC ?_))))
 rcases bH H with⟨b,H⟩|⟨b,H⟩
 ·refine aB rfl b (ao (bj 0 fun o7=>bj 1 fun o8=>bj 2 fun o9=>bj 3 fun p0=>ah (bD (ck 4) (h:=ad aE (h:=l' (aT 5) ?_)))))
  obtain⟨l4,l5,H⟩:=ac H
  refine o' (dN [0,1,2,3] [4,5,6] (oh.ok l5) fun J K L M N O R S=>?_)
  refine ad cg (h:=ad cg (h:=o' (bg a 0 10 (al l4.1 J K L M N O R S) (h:=ad aV (h:=cF (bi (aI ?_)))))))
  have h:=aN H;subst h
  exact dt [.cell 4 34,.tmp 5] [0,1,2,3,4,5,6,7] ⟨J,K,L,M,N,O,R,S,rfl,rfl⟩ ⟨cR 10,cP,trivial⟩
 refine aA rfl b (aQ (ad (bk rfl rfl) (h:=ad aV (h:=bC ?_))))
 rcases bH H with⟨c,H⟩|⟨c,H⟩
 ·refine aB rfl c (ao (bj 0 fun p1=>bj 1 fun p5=>bj 2 fun p6=>bj 3 fun p7=>ah (bD (ck 4) (h:=ad aE (h:=l' (aT 5) ?_)))))
  obtain⟨l6,l7,H⟩:=ac H
  refine o' (dN [0,1,2,3] [4,5,6] (nZ.ok l7) fun U Y Z a2 a3 a4 a5 a6=>?_)
  refine ad cg (h:=ad cg (h:=o' (bg a 0 10 (al l6.1 U Y Z a2 a3 a4 a5 a6) (h:=ad aV (h:=cF (bi (aI ?_)))))))
  have h:=aN H;subst h
  exact dt [.cell 4 34,.tmp 5] [0,1,2,3,4,5,6,7] ⟨U,Y,Z,a2,a3,a4,a5,a6,rfl,rfl⟩ ⟨cR 10,cP,trivial⟩
 refine aA rfl c (aQ (ad (bk rfl rfl) (h:=ad aV (h:=bC ?_))))
 rcases bH H with⟨d,H⟩|⟨d,H⟩
 ·refine aB rfl d (ao (bj 0 fun p8=>bj 1 fun p9=>bj 2 fun q0=>bj 3 fun q1=>ah (bD (ck 4) (h:=ad aE (h:=l' (aT 5) ?_)))))
  obtain⟨l8,l9,H⟩:=ac H
  refine o' (dN [0,1,2,3] [4,5,6] (nX.ok l9) fun a7 a8 a9 b0 b1 b2 b3 b4=>?_)
  refine ad cg (h:=ad cg (h:=o' (bg a 0 10 (al l8.1 a7 a8 a9 b0 b1 b2 b3 b4) (h:=ad aV (h:=cF (bi (aI ?_)))))))
  have h:=aN H;subst h
  exact dt [.cell 4 34,.tmp 5] [0,1,2,3,4,5,6,7] ⟨a7,a8,a9,b0,b1,b2,b3,b4,rfl,rfl⟩ ⟨cR 10,cP,trivial⟩
 refine aA rfl d (aQ (ad (bk rfl rfl) (h:=ad aV (h:=bC ?_))))
 rcases bH H with⟨j,H⟩|⟨j,H⟩
 ·refine aB rfl j (ao (bj 0 fun q2=>bj 1 fun q3=>bj 2 fun q4=>bj 3 fun q5=>ah (bD (ck 4) (h:=ad aE (h:=l' (aT 5) ?_)))))
  refine ad aE (h:=l' (aT 5) ?_)
  obtain⟨m0,m1,H⟩:=ac H
  refine o' (dN [0,1,2,3] [4,5,6] (nP.ok m1) fun b6 b8 c5 c6 c7 c8 c9 d0=>?_)
  refine ad cg (h:=ad cg (h:=o' (bg a 0 10 (al m0.1 b6 b8 c5 c6 c7 c8 c9 d0) (h:=ad aV (h:=cF (bi (aI ?_)))))))
  have h:=aN H;subst h
  exact dt [.cell 4 34,.tmp 5] [0,1,2,3,4,5,6,7] ⟨b6,b8,c5,c6,c7,c8,c9,d0,rfl,rfl⟩ ⟨cR 10,cP,trivial⟩
 refine aA rfl j (aQ (ad (bk rfl rfl) (h:=ad aV (h:=bC (SA.of_St (l:=[(2,aK b5),(3,aK b7),(4,aK a),(7,.int .u8 a1.f0),(90,.bool (decide (a1.f0 = 9)))]) (B:=(aS a0 ag af az ay aw ar av au++[aL b5 34 (al a0 ag af az ay aw ar av au),aL b7 44 [.int .u8 a1.f0,ae a1.f1,ae a1.f2,.bool a1.f3],aL a 34 (al cx none 0 none 0 none 0 none 0)])) (St.mk1 (cJ rfl (cJ rfl (cJ rfl (cJ rfl (cJ rfl dQ))))) (Gh.sel [0,1,2,3,4,5,6] (by kernel_rfl) (by kernel_rfl))) fun junk=>?_)))))
 rcases bH H with⟨m,H⟩|⟨m,H⟩
 ·refine aB rfl m (ao (bj 0 fun q6=>bj 1 fun q7=>bj 2 fun q8=>bj 3 fun q9=>ah (bD (ck 4) (h:=ad aE (h:=l' (aT 5) ?_)))))
  obtain⟨m2,m3,H⟩:=ac H
  refine o' (dN [0,1,2,3] [4,5,6] (ju.ok m3) fun d1 d2 d3 d4 d5 d6 d7 d8=>?_)
  refine ad cg (h:=ad cg (h:=o' (bg a 0 10 (al m2.1 d1 d2 d3 d4 d5 d6 d7 d8) (h:=ad aV (h:=cF (bi (aI ?_)))))))
  have h:=aN H;subst h
  exact dt [.cell 4 34,.tmp 5] [0,1,2,3,4,5,6,7] ⟨d1,d2,d3,d4,d5,d6,d7,d8,rfl,rfl⟩ ⟨cR 10,cP,trivial⟩
 refine aA rfl m (aQ (ad (bk rfl rfl) (h:=ad aV (h:=bC ?_))))
 rcases bH H with⟨o,H⟩|⟨o,H⟩
 ·refine aB rfl o (ao (bj 0 fun r0=>bj 1 fun r1=>bj 2 fun r2=>bj 3 fun r3=>ah (bD (ck 4) (h:=ad aE (h:=l' (aT 5) ?_)))))
  refine ad aE (h:=bD (aT 5) (h:=ad aE (h:=bD (aT 5) (h:=S' (eR rfl rfl) ?_))))
  obtain⟨m4,m5,H⟩:=ac H
  refine o' (dN [0,1,2,3] [4,5,6] (nK.ok m5) fun d9 e0 e1 e2 e3 e4 e5 e6=>?_)
  refine ad cg (h:=ad cg (h:=o' (bg a 0 10 (al m4.1 d9 e0 e1 e2 e3 e4 e5 e6) (h:=ad aV (h:=cF (bi (aI ?_)))))))
  have h:=aN H;subst h
  exact dt [.cell 4 34,.tmp 5] [0,1,2,3,4,5,6,7] ⟨d9,e0,e1,e2,e3,e4,e5,e6,rfl,rfl⟩ ⟨cR 10,cP,trivial⟩
 refine aA rfl o (aQ (ad (bk rfl rfl) (h:=ad aV (h:=bC ?_))))
 rcases bH H with⟨p,H⟩|⟨p,H⟩
 ·refine aB rfl p (ao (bj 0 fun r4=>bj 1 fun r5=>bj 2 fun r6=>bj 3 fun r7=>ah (bD (ck 4) (h:=ad aE (h:=l' (aT 5) ?_)))))
  obtain⟨m6,m7,H⟩:=ac H
  refine o' (dN [0,1,2,3] [4,5,6] (fB.ok m7) fun e7 e8 e9 f4 f5 f6 f7 f8=>?_)
  refine ad cg (h:=ad cg (h:=o' (bg a 0 10 (al m6.1 e7 e8 e9 f4 f5 f6 f7 f8) (h:=ad aV (h:=cF (bi (aI ?_)))))))
  have h:=aN H;subst h
  exact dt [.cell 4 34,.tmp 5] [0,1,2,3,4,5,6,7] ⟨e7,e8,e9,f4,f5,f6,f7,f8,rfl,rfl⟩ ⟨cR 10,cP,trivial⟩
 refine aA rfl p (aQ (ad (bk rfl rfl) (h:=ad aV (h:=bC ?_))))
 rcases bH H with⟨q,H⟩|⟨q,H⟩
 ·refine aB rfl q (ao (bj 0 fun r8=>bj 1 fun r9=>bj 2 fun s0=>bj 3 fun s1=>ah (bD (ck 4) (h:=ad aE (h:=l' (aT 5) ?_)))))
  obtain⟨m8,m9,H⟩:=ac H
  refine o' (dN [0,1,2,3] [4,5,6] (oB.ok m9) fun f9 g0 g1 g2 g3 g4 g5 g6=>?_)
  refine ad cg (h:=ad cg (h:=o' (bg a 0 10 (al m8.1 f9 g0 g1 g2 g3 g4 g5 g6) (h:=ad aV (h:=cF (bi (aI ?_)))))))
  have h:=aN H;subst h
  exact dt [.cell 4 34,.tmp 5] [0,1,2,3,4,5,6,7] ⟨f9,g0,g1,g2,g3,g4,g5,g6,rfl,rfl⟩ ⟨cR 10,cP,trivial⟩
 refine aA rfl q (ap (aF (aa (ao (bj 0 fun s2=>bj 1 fun s3=>bj 2 fun s4=>bj 3 fun s5=>ah (bD (ck 4) (h:=ad aE (h:=l' (aT 5) ?_))))))))
 refine ad aE (h:=l' (aT 5) ?_)
 obtain⟨n0,n1,H⟩:=ac H
 refine o' (dN [0,1,2,3] [4,5,6] (oy.ok n1) fun g7 g8 g9 h0 h1 h3 h4 h5=>?_)
 refine ad cg (h:=ad cg (h:=o' (bg a 0 10 (al n0.1 g7 g8 g9 h0 h1 h3 h4 h5) (h:=ad aV (h:=cF ?_)))))
 have h:=aN H;subst h
 exact dt [.cell 4 34,.tmp 5] [0,1,2,3,4,5,6,7] ⟨g7,g8,g9,h0,h1,h3,h4,h5,rfl,rfl⟩ ⟨cR 10,cP,trivial⟩

end Go.Proofs.YtckilbegmbaeeaaGreat.Z3

/- What functions compute, and that they do: 12, 39. -/
import Derived.Test.YtckilbegmbaeeaaGreatZ313
import Derived.Test.YtckilbegmbaeeaaGreatZ315
namespace Go.Proofs.YtckilbegmbaeeaaGreat.Z3
open Go Go.RowKit Go.Proofs.YtckilbegmbaeeaaGreat.SL
open Go.IntKind (i64)
set_option linter.unusedVariables false
set_option maxHeartbeats 20000000
set_option maxRecDepth 100000
set_option linter.unusedSimpArgs false
attribute [local irreducible] IntKind.wrap cC dO eX gp gl lH fU cN gm rd sub bytesOf eG cL
variable {af ay ar au k : Nat}
variable {ag az aw av : Option Addr}
def wu.f (k : Nat) (a0 : aG) (a1 : Int) (a2 : Int) : Option (aG × Int):=(ei.f k a0).bind (fun l=>if (!l) = true then (some (((aG.mk (bF.mk 0 0 ([] : (List aZ))) 0 0 false (cA.mk 0 0 false false false false false false false false) 0 0 ([] : (List Int)) false false false false false false (dq.mk 0 0 false false (cA.mk 0 0 false false false false false false false false)) false (bF.mk 0 0 ([] : (List aZ))) ([] : (List Int))),2))) else ((qX.f k a0.f0 a1 a2 a0.f4).bind (fun c=>if c.2 ≠ 0 then (some (((aG.mk (bF.mk 0 0 ([] : (List aZ))) 0 0 false (cA.mk 0 0 false false false false false false false false) 0 0 ([] : (List Int)) false false false false false false (dq.mk 0 0 false false (cA.mk 0 0 false false false false false false false false)) false (bF.mk 0 0 ([] : (List aZ))) ([] : (List Int))),c.2))) else ((lL.f a0).bind (fun b=>(if b.f15 = true then ((jA.f k b.f16 a1 a2 b.f4).bind (fun d=>if d.2 ≠ 0 then (some (Out.ret (((aG.mk (bF.mk 0 0 ([] : (List aZ))) 0 0 false (cA.mk 0 0 false false false false false false false false) 0 0 ([] : (List Int)) false false false false false false (dq.mk 0 0 false false (cA.mk 0 0 false false false false false false false false)) false (bF.mk 0 0 ([] : (List aZ))) ([] : (List Int))),d.2)))) else (some (Out.go (({ b with f16:=d.1 }),(aG.mk (bF.mk 0 0 ([] : (List aZ))) 0 0 false (cA.mk 0 0 false false false false false false false false) 0 0 ([] : (List Int)) false false false false false false (dq.mk 0 0 false false (cA.mk 0 0 false false false false false false false false)) false (bF.mk 0 0 ([] : (List aZ))) ([] : (List Int)))))))) else (some (Out.go (b,(aG.mk (bF.mk 0 0 ([] : (List aZ))) 0 0 false (cA.mk 0 0 false false false false false false false false) 0 0 ([] : (List Int)) false false false false false false (dq.mk 0 0 false false (cA.mk 0 0 false false false false false false false false)) false (bF.mk 0 0 ([] : (List aZ))) ([] : (List Int)))))) : Option (Out (aG × Int) (aG × aG))).bind (fun h=>Out.el h (fun r_=>some r_) (fun a=>(oN.f k a1).bind (fun j=>some (((aG.mk c.1 (cC a.1.f1 (i64.wrap (a2 - 1))) (cC a.1.f2 (i64.wrap (a1 - 1))) false a.1.f4 0 (i64.wrap (a2 - 1)) j a.1.f8 a.1.f9 a.1.f10 a.1.f11 a.1.f12 a.1.f13 (dq.mk (cC a.1.f14.f0 (i64.wrap (a2 - 1))) (cC a.1.f14.f1 (i64.wrap (a1 - 1))) false a.1.f14.f3 a.1.f14.f4) a.1.f15 a.1.f16 a.1.f17),0))))))))))
theorem wu.ok {a0 : aG} {a1 : Int} {a2 : Int} {r : aG × Int} (H : wu.f k a0 a1 a2 = some r) : df Tryz.prog 39 #[.agg (al a0 ag af az ay aw ar av au).toArray,ae a1,ae a2] (eK a0 ag af az ay aw ar av au) (fun v B=>∃ aP aO bA bv bq bp bB bw,v = .tuple #[.agg (al r.1 aP aO bA bv bq bp bB bw).toArray,ae r.2]∧B = (aS r.1 aP aO bA bv bq bp bB bw)):=by
 refine ai Tryz.func39 rfl rfl ?_
 unfold wu.f at H
 refine aQ (o' (bN (h:=fun z=>o' (cy (h:=fun S=>ad aV (h:=eJ (l' (ck 4) ?_)))))))
 obtain⟨r9,c8,H⟩:=ac H
 refine o' (da [0,1,2,3] [0,1,2,3,4,5] (rM.ok c8) ?_)
 refine ad (ca rfl) (h:=bC ?_)
 rcases bH H with⟨a9,H⟩|⟨a9,H⟩
 ·refine aC rfl a9 (aQ (bO (.agg (al cx none 0 none 0 none 0 none 0).toArray) dA (h:=o' (bg S 0 5 (al cx none 0 none 0 none 0 none 0) (h:=ad aV (h:=cE ?_))))))
  have h:=aN H;subst h
  exact lT [.cell 6 34,.tmp 7] ((Gh.nilBuf bE 55).trans ((Gh.nilBuf (Kd.int .i64) 3).trans ((Gh.nilBuf bE 55).trans ((Gh.nilBuf (Kd.int .i32) 21).trans (eY [6,7,8,9]))))) ⟨none,0,none,0,none,0,none,0,rfl,rfl⟩ ⟨cR 5,cP,trivial⟩
 refine aD rfl a9 (ap (aa (aQ (ad aE (h:=bD (cG z 0 4 [ae a0.f0.f0,ae a0.f0.f1,.slice ag a0.f0.f2.length af]) (h:=ad ax (h:=ad ax (h:=ad aE (h:=l' (cG z 6 4 (bG a0.f4)) ?_)))))))))
 obtain⟨b,c9,H⟩:=ac H
 refine o' (gu [0] [0,1,2,3,4,5] (qX.ok c9) fun c d=>?_)
 refine ad ax (h:=ad cg (h:=ad cg (h:=o' (cy (h:=fun u=>o' (bg u 0 7 [ae b.1.f0,ae b.1.f1,.slice c b.1.f2.length d] (h:=ad aV (h:=eJ (ad ax (h:=ad (dK rfl rfl) (h:=bC ?_)))))))))))
 rcases bH H with⟨b0,H⟩|⟨b0,H⟩
 ·refine aB rfl b0 (aQ (bO (.agg (al cx none 0 none 0 none 0 none 0).toArray) dA (h:=ad ax (h:=o' (bg S 0 6 (al cx none 0 none 0 none 0 none 0) (h:=ad aV (h:=cE ?_)))))))
  have h:=aN H;subst h
  exact lT [.cell 6 34,.tmp 7] ((Gh.nilBuf bE 55).trans ((Gh.nilBuf (Kd.int .i64) 3).trans ((Gh.nilBuf bE 55).trans ((Gh.nilBuf (Kd.int .i32) 21).trans (eY [8,9,10,11]))))) ⟨none,0,none,0,none,0,none,0,rfl,rfl⟩ ⟨cR 6,cP,trivial⟩
 refine aA rfl b0 (ap (aa (aQ (l' (ck 5) ?_))))
 obtain⟨j,d0,H⟩:=ac H
 refine o' (dN [1,2,3,4] [0,1,2,3,4,5,6,7] (lL.ok d0) fun D E F I J K L M=>?_)
 refine o' (bg z 0 9 (al j D E F I J K L M) (h:=eJ (ad aE (h:=bD (aT 9) (h:=bC (SA.of_St (l:=[(1,ae a1),(2,ae a2),(3,aK z),(6,aK S),(8,aK u),(31,.bool j.f15)]) (B:=(aL z 34 (al j D E F I J K L M)::(aS j D E F I J K L M++[aL S 34 (al cx none 0 none 0 none 0 none 0),aL u 26 [ae b.1.f0,ae b.1.f1,.slice c b.1.f2.length d],Buf bE 55 c d b.1.f2]))) (St.mk1 (cJ rfl (cJ rfl (cJ rfl (cJ rfl (cJ rfl (cJ rfl dQ)))))) (Gh.sel [9,0,1,2,3,10,11,4] (by kernel_rfl) (by kernel_rfl))) fun junk=>?_))))))
 obtain⟨d1,H,m⟩:=ac H
 refine bI (fun e ds As=>∃ (a : aG × aG),d1 = Out.go a∧∃ (N : Nat),∃ (b1 : Option Addr) (b2 : Nat),∃ (O : Option Addr) (R : Nat),∃ (o : Option Addr) (p : Nat),∃ (q : Option Addr) (s : Nat),∃ (y : Nat),∃ (U : Option Addr) (Y : Nat),∃ (Z : Option Addr) (a3 : Nat),∃ (a4 : Option Addr) (a5 : Nat),∃ (a6 : Option Addr) (a7 : Nat),St [(1,ae a1),(2,ae a2),(3,aK N),(6,aK y),(8,aK u)] (aL N 34 (al a.1 b1 b2 O R o p q s)::(aS a.1 b1 b2 O R o p q s++(aL y 34 (al a.2 U Y Z a3 a4 a5 a6 a7)::(aS a.2 U Y Z a3 a4 a5 a6 a7++[aL u 26 [ae b.1.f0,ae b.1.f1,.slice c b.1.f2.length d],Buf bE 55 c d b.1.f2])))) e ds As) ?_ ?_
 ·rcases bH H with⟨b3,H⟩|⟨b3,H⟩
  ·refine aC rfl b3 (ao (bj 1 fun d4=>bj 2 fun d5=>bj 3 fun d6=>bj 4 fun d7=>bj 7 fun d8=>ah (ad aE (h:=l' (cG z 40 0 [ae j.f16.f0,ae j.f16.f1,.slice J j.f16.f2.length K]) ?_))))
   refine ad ax (h:=ad ax (h:=ad aE (h:=l' (cG z 6 0 (bG j.f4)) ?_)))
   obtain⟨a8,d2,H⟩:=ac H
   refine o' (gu [3] [0,1,2,4,5,6,7] (jA.ok d2) fun c5 c6=>?_)
   refine ad ax (h:=ad cg (h:=ad cg (h:=ad aE (h:=o' (cH 2 [ae a8.1.f0,ae a8.1.f1,.slice c5 a8.1.f2.length c6] (h:=(ad aV (h:=cV (ad ax (h:=ad (dK rfl rfl) (h:=bC ?_)))))))))))
   rcases bH H with⟨b4,H⟩|⟨b4,H⟩
   ·refine aB rfl b4 (aQ (bO (.agg (al cx none 0 none 0 none 0 none 0).toArray) dA (h:=ad ax (h:=o' (bg S 0 6 (al cx none 0 none 0 none 0 none 0) (h:=ad aV (h:=cE (aI ?_))))))))
    have h:=aN H;subst h
    have hb_:=dS m
    have hr_:=Option.some.inj hb_
    clear hb_
    subst hr_
    exact lT [.cell 6 34,.tmp 7] ((Gh.nilBuf bE 55).trans ((Gh.nilBuf (Kd.int .i64) 3).trans ((Gh.nilBuf bE 55).trans ((Gh.nilBuf (Kd.int .i32) 21).trans (eY [9,10,11,12]))))) ⟨none,0,none,0,none,0,none,0,rfl,rfl⟩ ⟨cR 6,cP,trivial⟩
   refine aA rfl b4 (ap ?_)
   have h:=aN H;subst h
   exact aa ⟨(({ j with f16:=a8.1 }),cx),rfl,z,D,E,F,I,c5,c6,L,M,S,none,0,none,0,none,0,none,0,St.mk1 (cJ rfl (cJ rfl (cJ rfl (cJ rfl (cJ rfl dQ))))) ((Gh.nilBuf bE 55).trans ((Gh.nilBuf (Kd.int .i64) 3).trans ((Gh.nilBuf bE 55).trans ((Gh.nilBuf (Kd.int .i32) 21).trans (eY [2,3,4,0,5,6,9,10,11,12,7,8])))))⟩
  refine aD rfl b3 (ap ?_)
  have h:=aN H;subst h
  exact aa ⟨(j,cx),rfl,z,D,E,F,I,J,K,L,M,S,none,0,none,0,none,0,none,0,St.mk1 (cJ rfl (cJ rfl (cJ rfl (cJ rfl (cJ rfl dQ))))) ((Gh.nilBuf bE 55).trans ((Gh.nilBuf (Kd.int .i64) 3).trans ((Gh.nilBuf bE 55).trans ((Gh.nilBuf (Kd.int .i32) 21).trans (eY [0,1,2,3,4,5,8,9,10,11,6,7])))))⟩
 rintro e ds As ⟨a,ht,N,b1,b2,O,R,o,p,q,s,y,U,Y,Z,a3,a4,a5,a6,a7,b9⟩
 clear H
 subst ht
 replace m:=fW m
 have H:=m
 clear m
 refine aa (SA.of_St b9 fun junk=>aQ (bD (cG u 0 10 [ae b.1.f0,ae b.1.f1,.slice c b.1.f2.length d]) (h:=ad aE (h:=o' (cH 0 [ae b.1.f0,ae b.1.f1,.slice c b.1.f2.length d] (h:=(cV (ad aE (h:=bD (aT 0) (h:=S' ax ?_))))))))))
 refine ad (cY rfl rfl) (h:=bO (ae (cC a.1.f1 (i64.wrap (a2 - 1)))) (jR rfl rfl) (h:=ad aE (h:=bD (aT 0) (h:=ad ax (h:=ad (cY rfl rfl) (h:=bO (ae (cC a.1.f2 (i64.wrap (a1 - 1)))) (jR rfl rfl) (h:=ad aE (h:=o' (cH 0 [ae (cC a.1.f1 (i64.wrap (a2 - 1)))] (h:=(S' aE ?_)))))))))))
 refine o' (cH 0 [ae (cC a.1.f2 (i64.wrap (a1 - 1)))] (h:=(ad aE (h:=o' (cH 0 [.bool false] (h:=(cV (ad aE (h:=ad aE (h:=bD (aT 0) (h:=ad ax (h:=ad (cY rfl rfl) (h:=s' (ae (cC a.1.f14.f0 (i64.wrap (a2 - 1)))) (jR rfl rfl) ?_)))))))))))))
 refine ad aE (h:=ad aE (h:=bD (aT 0) (h:=ad ax (h:=ad (cY rfl rfl) (h:=bO (ae (cC a.1.f14.f1 (i64.wrap (a1 - 1)))) (jR rfl rfl) (h:=ad aE (h:=ad aE (h:=o' (cH 0 [ae (cC a.1.f14.f0 (i64.wrap (a2 - 1)))] (h:=(S' aE ?_)))))))))))
 refine ad aE (h:=o' (cH 0 [ae (cC a.1.f14.f1 (i64.wrap (a1 - 1)))] (h:=(ad aE (h:=ad aE (h:=o' (cH 0 [.bool false] (h:=(bC (SA.of_St (l:=[(1,ae a1),(2,ae a2),(3,aK N),(6,aK y)]) (B:=(aL N 34 (al (aG.mk b.1 (cC a.1.f1 (i64.wrap (a2 - 1))) (cC a.1.f2 (i64.wrap (a1 - 1))) false a.1.f4 a.1.f5 a.1.f6 a.1.f7 a.1.f8 a.1.f9 a.1.f10 a.1.f11 a.1.f12 a.1.f13 (dq.mk (cC a.1.f14.f0 (i64.wrap (a2 - 1))) (cC a.1.f14.f1 (i64.wrap (a1 - 1))) false a.1.f14.f3 a.1.f14.f4) a.1.f15 a.1.f16 a.1.f17) c d O R o p q s)::Buf bE 55 c d b.1.f2::fm 3 O R a.1.f7::Buf bE 55 o p a.1.f16.f2::jf 21 q s a.1.f17::cK y a.2 U Y Z a3 a4 a5 a6 a7)) (St.mk1 (cJ rfl (cJ rfl (cJ rfl (cJ rfl dQ)))) (Gh.sel [0,11,2,3,4,5,6,7,8,9] (by kernel_rfl) (by kernel_rfl))) fun junk=>aQ (ad ax (h:=S' (cY rfl rfl) ?_))))))))))))
 refine S' ax ?_
 obtain⟨c7,d3,H⟩:=ac H
 refine o' (gu [] [0,1,2,3,4,5,6,7,8,9] (oN.ok d3) fun b6 b8=>?_)
 refine ad aE (h:=o' (cH 1 [ae 0] (h:=(ad aE (h:=o' (cH 1 [ae (i64.wrap (a2 - 1))] (h:=(ad aE (h:=o' (cH 1 [.slice b6 c7.length b8] (h:=(cV (bD (ck 1) (h:=o' (bg y 0 6 (al (aG.mk b.1 (cC a.1.f1 (i64.wrap (a2 - 1))) (cC a.1.f2 (i64.wrap (a1 - 1))) false a.1.f4 0 (i64.wrap (a2 - 1)) c7 a.1.f8 a.1.f9 a.1.f10 a.1.f11 a.1.f12 a.1.f13 (dq.mk (cC a.1.f14.f0 (i64.wrap (a2 - 1))) (cC a.1.f14.f1 (i64.wrap (a1 - 1))) false a.1.f14.f3 a.1.f14.f4) a.1.f15 a.1.f16 a.1.f17) c d b6 b8 o p q s) (h:=S' aV ?_))))))))))))))))
 refine cF ?_
 have h:=aN H;subst h
 exact dt [.cell 6 34,.tmp 7] [2,0,4,5] ⟨c,d,b6,b8,o,p,q,s,rfl,rfl⟩ ⟨cR 6,cP,trivial⟩


def vD.f (k : Nat) (a0 : aG) (a1 : pM) : Option (aG × Int):=if a1.f0 = 0 then ((uM.f k a0 (IntKind.i32.wrap (a1.f1))).bind (fun o=>some ((o.1,o.2)))) else (if a1.f0 = 1 then ((xA.f k a0 (IntKind.i32.wrap (a1.f1))).bind (fun p=>some ((p.1,p.2)))) else (if a1.f0 = 2 then ((wh.f k a0 a1.f1 a1.f2).bind (fun q=>some ((q.1,q.2)))) else (if a1.f0 = 3 then ((xb.f k a0 a1.f1 a1.f2).bind (fun r=>some ((r.1,r.2)))) else (if a1.f0 = 4 then ((wM.f k a0 a1.f3 a1.f1).bind (fun s=>some ((s.1,s.2)))) else (if a1.f0 = 5 then ((wV.f k a0 a1.f1).bind (fun u=>some ((u.1,u.2)))) else (if a1.f0 = 6 then ((xj.f k a0 a1.f1).bind (fun a=>some ((a.1,a.2)))) else (if a1.f0 = 7 then ((wg.f k a0 a1.f1).bind (fun b=>some ((b.1,b.2)))) else (if a1.f0 = 8 then ((wR.f k a0 a1.f1 a1.f2).bind (fun c=>some ((c.1,c.2)))) else (if a1.f0 = 9 then ((wI.f k a0 a1.f3).bind (fun d=>some ((d.1,d.2)))) else (if a1.f0 = 10 then ((wz.f k a0 a1.f3 a1.f1 (decide (a1.f2 > 0))).bind (fun h=>some ((h.1,h.2)))) else (if a1.f0 = 11 then ((xi.f k a0 a1.f1).bind (fun j=>some ((j.1,j.2)))) else (if a1.f0 = 12 then ((xx.f k a0 a1.f1).bind (fun l=>some ((l.1,l.2)))) else ((wu.f k a0 a1.f1 a1.f2).bind (fun m=>some ((m.1,m.2))))))))))))))))
theorem vD.ok {a0 : aG} {a1 : pM} {r : aG × Int} (H : vD.f k a0 a1 = some r) : df Tryz.prog 12 #[.agg (al a0 ag af az ay aw ar av au).toArray,.agg #[.int .u8 a1.f0,ae a1.f1,ae a1.f2,.bool a1.f3]] (eK a0 ag af az ay aw ar av au) (fun v B=>∃ aP aO bA bv bq bp bB bw,v = .tuple #[.agg (al r.1 aP aO bA bv bq bp bB bw).toArray,ae r.2]∧B = (aS r.1 aP aO bA bv bq bp bB bw)):=by
 refine ai Tryz.func12 rfl rfl ?_
 unfold vD.f at H
 refine aQ (o' (bN (h:=fun b5=>o' (bN (h:=fun b7=>o' (cy (h:=fun a=>ad aV (h:=eJ (ad aE (h:=bD (aT 5) (h:=bC (aU (aQ (S' (bk rfl rfl) ?_))))))))))))))
 refine ad aV (h:=bC ?_)
 rcases bH H with⟨q,H⟩|⟨q,H⟩
 ·refine aB rfl q (aQ (bD (ck 4) (h:=ad aE (h:=bD (aT 5) (h:=s' (aJ (IntKind.i32.wrap (a1.f1))) (jS (T:=3) (by kernel_rfl) Tryz.underlying21 rfl) ?_)))))
  obtain⟨n0,n1,H⟩:=ac H
  refine o' (dN [0,1,2,3] [0,1,2,3,4,5,6] (uM.ok n1) fun g4 g5 g6 g7 g8 g9 h0 h1=>?_)
  refine ad cg (h:=ad cg (h:=o' (bg a 0 10 (al n0.1 g4 g5 g6 g7 g8 g9 h0 h1) (h:=ad aV (h:=cF (bi (aI ?_)))))))
  have h:=aN H;subst h
  exact dt [.cell 4 34,.tmp 5] [0,1,2,3] ⟨g4,g5,g6,g7,g8,g9,h0,h1,rfl,rfl⟩ ⟨cR 10,cP,trivial⟩
 refine aA rfl q (aQ (ad (bk rfl rfl) (h:=ad aV (h:=bC ?_))))
 rcases bH H with⟨s,H⟩|⟨s,H⟩
 ·refine aB rfl s (aQ (bD (ck 4) (h:=ad aE (h:=bD (aT 5) (h:=s' (aJ (IntKind.i32.wrap (a1.f1))) (jS (T:=3) (by kernel_rfl) Tryz.underlying21 rfl) ?_)))))
  obtain⟨n2,n3,H⟩:=ac H
  refine o' (dN [0,1,2,3] [0,1,2,3,4,5,6] (xA.ok n3) fun h3 h4 h5 h6 h7 h8 h9 i0=>?_)
  refine ad cg (h:=ad cg (h:=o' (bg a 0 10 (al n2.1 h3 h4 h5 h6 h7 h8 h9 i0) (h:=ad aV (h:=cF (bi (aI ?_)))))))
  have h:=aN H;subst h
  exact dt [.cell 4 34,.tmp 5] [0,1,2,3] ⟨h3,h4,h5,h6,h7,h8,h9,i0,rfl,rfl⟩ ⟨cR 10,cP,trivial⟩
 refine aA rfl s (aQ (ad (bk rfl rfl) (h:=ad aV (h:=bC ?_))))
 rcases bH H with⟨u,H⟩|⟨u,H⟩
 ·refine aB rfl u (aQ (bD (ck 4) (h:=ad aE (h:=bD (aT 5) (h:=ad aE (h:=l' (aT 5) ?_))))))
  obtain⟨o0,o1,H⟩:=ac H
  refine o' (dN [0,1,2,3] [0,1,2,3,4,5,6] (wh.ok o1) fun i1 i2 i3 i4 i5 i6 i7 i8=>?_)
  refine ad cg (h:=ad cg (h:=o' (bg a 0 10 (al o0.1 i1 i2 i3 i4 i5 i6 i7 i8) (h:=ad aV (h:=cF (bi (aI ?_)))))))
  have h:=aN H;subst h
  exact dt [.cell 4 34,.tmp 5] [0,1,2,3] ⟨i1,i2,i3,i4,i5,i6,i7,i8,rfl,rfl⟩ ⟨cR 10,cP,trivial⟩
 refine aA rfl u (aQ (ad (bk rfl rfl) (h:=ad aV (h:=bC ?_))))
 rcases bH H with⟨y,H⟩|⟨y,H⟩
 ·refine aB rfl y (aQ (bD (ck 4) (h:=ad aE (h:=bD (aT 5) (h:=ad aE (h:=l' (aT 5) ?_))))))
  obtain⟨o2,o3,H⟩:=ac H
  refine o' (dN [0,1,2,3] [0,1,2,3,4,5,6] (xb.ok o3) fun i9 j0 j1 j2 j3 j4 j5 j6=>?_)
  refine ad cg (h:=ad cg (h:=o' (bg a 0 10 (al o2.1 i9 j0 j1 j2 j3 j4 j5 j6) (h:=ad aV (h:=cF (bi (aI ?_)))))))
  have h:=aN H;subst h
  exact dt [.cell 4 34,.tmp 5] [0,1,2,3] ⟨i9,j0,j1,j2,j3,j4,j5,j6,rfl,rfl⟩ ⟨cR 10,cP,trivial⟩
 refine aA rfl y (aQ (ad (bk rfl rfl) (h:=ad aV (h:=bC ?_))))
 rcases bH H with⟨z,H⟩|⟨z,H⟩
 ·refine aB rfl z (aQ (bD (ck 4) (h:=ad aE (h:=bD (aT 5) (h:=ad aE (h:=l' (aT 5) ?_))))))
  obtain⟨o4,o5,H⟩:=ac H
  refine o' (dN [0,1,2,3] [0,1,2,3,4,5,6] (wM.ok o5) fun j7 j8 j9 k0 k1 k2 k3 k4=>?_)
  refine ad cg (h:=ad cg (h:=o' (bg a 0 10 (al o4.1 j7 j8 j9 k0 k1 k2 k3 k4) (h:=ad aV (h:=cF (bi (aI ?_)))))))
  have h:=aN H;subst h
  exact dt [.cell 4 34,.tmp 5] [0,1,2,3] ⟨j7,j8,j9,k0,k1,k2,k3,k4,rfl,rfl⟩ ⟨cR 10,cP,trivial⟩
 refine aA rfl z (aQ (ad (bk rfl rfl) (h:=ad aV (h:=bC ?_))))
 rcases bH H with⟨D,H⟩|⟨D,H⟩
 ·refine aB rfl D (aQ (bD (ck 4) (h:=ad aE (h:=l' (aT 5) ?_))))
  obtain⟨o6,l3,H⟩:=ac H
  refine o' (dN [0,1,2,3] [0,1,2,3,4,5,6] (wV.ok l3) fun k5 k6 k7 k8 k9 l0 l1 l2=>?_)
  refine ad cg (h:=ad cg (h:=o' (bg a 0 10 (al o6.1 k5 k6 k7 k8 k9 l0 l1 l2) (h:=ad aV (h:=cF (bi (aI ?_)))))))
  have h:=aN H;subst h
  exact dt [.cell 4 34,.tmp 5] [0,1,2,3] ⟨k5,k6,k7,k8,k9,l0,l1,l2,rfl,rfl⟩ ⟨cR 10,cP,trivial⟩
 refine aA rfl D (aQ (ad (bk rfl rfl) (h:=ad aV (h:=bC ?_))))
 rcases bH H with⟨b,H⟩|⟨b,H⟩
 ·refine aB rfl b (aQ (bD (ck 4) (h:=ad aE (h:=l' (aT 5) ?_))))
  obtain⟨l4,l5,H⟩:=ac H
  refine o' (dN [0,1,2,3] [0,1,2,3,4,5,6] (xj.ok l5) fun E F I J K L M N=>?_)
  refine ad cg (h:=ad cg (h:=o' (bg a 0 10 (al l4.1 E F I J K L M N) (h:=ad aV (h:=cF (bi (aI ?_)))))))
  have h:=aN H;subst h
  exact dt [.cell 4 34,.tmp 5] [0,1,2,3] ⟨E,F,I,J,K,L,M,N,rfl,rfl⟩ ⟨cR 10,cP,trivial⟩
 refine aA rfl b (aQ (ad (bk rfl rfl) (h:=ad aV (h:=bC ?_))))
 rcases bH H with⟨c,H⟩|⟨c,H⟩
 ·refine aB rfl c (aQ (bD (ck 4) (h:=ad aE (h:=l' (aT 5) ?_))))
  obtain⟨l6,l7,H⟩:=ac H
  refine o' (dN [0,1,2,3] [0,1,2,3,4,5,6] (wg.ok l7) fun O R S U Y Z a2 a3=>?_)
  refine ad cg (h:=ad cg (h:=o' (bg a 0 10 (al l6.1 O R S U Y Z a2 a3) (h:=ad aV (h:=cF (bi (aI ?_)))))))
  have h:=aN H;subst h
  exact dt [.cell 4 34,.tmp 5] [0,1,2,3] ⟨O,R,S,U,Y,Z,a2,a3,rfl,rfl⟩ ⟨cR 10,cP,trivial⟩
 refine aA rfl c (aQ (ad (bk rfl rfl) (h:=ad aV (h:=bC ?_))))
 rcases bH H with⟨d,H⟩|⟨d,H⟩
 ·refine aB rfl d (aQ (bD (ck 4) (h:=ad aE (h:=bD (aT 5) (h:=ad aE (h:=l' (aT 5) ?_))))))
  obtain⟨l8,l9,H⟩:=ac H
  refine o' (dN [0,1,2,3] [0,1,2,3,4,5,6] (wR.ok l9) fun a4 a5 a6 a7 a8 a9 b0 b1=>?_)
  refine ad cg (h:=ad cg (h:=o' (bg a 0 10 (al l8.1 a4 a5 a6 a7 a8 a9 b0 b1) (h:=ad aV (h:=cF (bi (aI ?_)))))))
  have h:=aN H;subst h
  exact dt [.cell 4 34,.tmp 5] [0,1,2,3] ⟨a4,a5,a6,a7,a8,a9,b0,b1,rfl,rfl⟩ ⟨cR 10,cP,trivial⟩
 refine aA rfl d (aQ (ad (bk rfl rfl) (h:=ad aV (h:=bC (SA.of_St (l:=[(2,aK b5),(3,aK b7),(4,aK a),(7,.int .u8 a1.f0),(90,.bool (decide (a1.f0 = 9)))]) (B:=(aL b5 34 (al a0 ag af az ay aw ar av au)::(eK a0 ag af az ay aw ar av au++[aL b7 44 [.int .u8 a1.f0,ae a1.f1,ae a1.f2,.bool a1.f3],aL a 34 (al cx none 0 none 0 none 0 none 0)]))) (St.mk1 (cJ rfl (cJ rfl (cJ rfl (cJ rfl (cJ rfl dQ))))) (Gh.sel [4,0,1,2,3,5,6] (by kernel_rfl) (by kernel_rfl))) fun junk=>?_)))))
 rcases bH H with⟨j,H⟩|⟨j,H⟩
 ·refine aB rfl j (aQ (bD (ck 0) (h:=ad aE (h:=l' (aT 5) ?_))))
  obtain⟨m0,m1,H⟩:=ac H
  refine o' (dN [1,2,3,4] [0,1,2,3,4,5,6] (wI.ok m1) fun b2 b3 b4 b6 b8 c5 c6 c7=>?_)
  refine ad cg (h:=ad cg (h:=o' (bg a 0 10 (al m0.1 b2 b3 b4 b6 b8 c5 c6 c7) (h:=ad aV (h:=cF (bi (aI ?_)))))))
  have h:=aN H;subst h
  exact dt [.cell 4 34,.tmp 5] [0,1,2,3] ⟨b2,b3,b4,b6,b8,c5,c6,c7,rfl,rfl⟩ ⟨cR 10,cP,trivial⟩
 refine aA rfl j (aQ (ad (bk rfl rfl) (h:=ad aV (h:=bC ?_))))
 rcases bH H with⟨m,H⟩|⟨m,H⟩
 ·refine aB rfl m (aQ (bD (ck 0) (h:=ad aE (h:=bD (aT 5) (h:=ad aE (h:=bD (aT 5) (h:=ad aE (h:=bD (aT 5) (h:=S' (eR rfl rfl) ?_)))))))))
  obtain⟨m2,m3,H⟩:=ac H
  refine o' (dN [1,2,3,4] [0,1,2,3,4,5,6] (wz.ok m3) fun c8 c9 d0 d1 d2 d3 d4 d5=>?_)
  refine ad cg (h:=ad cg (h:=o' (bg a 0 10 (al m2.1 c8 c9 d0 d1 d2 d3 d4 d5) (h:=ad aV (h:=cF (bi (aI ?_)))))))
  have h:=aN H;subst h
  exact dt [.cell 4 34,.tmp 5] [0,1,2,3] ⟨c8,c9,d0,d1,d2,d3,d4,d5,rfl,rfl⟩ ⟨cR 10,cP,trivial⟩
 refine aA rfl m (aQ (ad (bk rfl rfl) (h:=ad aV (h:=bC ?_))))
 rcases bH H with⟨o,H⟩|⟨o,H⟩
 ·refine aB rfl o (aQ (bD (ck 0) (h:=ad aE (h:=l' (aT 5) ?_))))
  obtain⟨m4,m5,H⟩:=ac H
  refine o' (dN [1,2,3,4] [0,1,2,3,4,5,6] (xi.ok m5) fun d6 d7 d8 d9 e0 e1 e2 e3=>?_)
  refine ad cg (h:=ad cg (h:=o' (bg a 0 10 (al m4.1 d6 d7 d8 d9 e0 e1 e2 e3) (h:=ad aV (h:=cF (bi (aI ?_)))))))
  have h:=aN H;subst h
  exact dt [.cell 4 34,.tmp 5] [0,1,2,3] ⟨d6,d7,d8,d9,e0,e1,e2,e3,rfl,rfl⟩ ⟨cR 10,cP,trivial⟩
 refine aA rfl o (aQ (ad (bk rfl rfl) (h:=ad aV (h:=bC ?_))))
 rcases bH H with⟨p,H⟩|⟨p,H⟩
 ·refine aB rfl p (aQ (bD (ck 0) (h:=ad aE (h:=l' (aT 5) ?_))))
  obtain⟨m6,m7,H⟩:=ac H
  refine o' (dN [1,2,3,4] [0,1,2,3,4,5,6] (xx.ok m7) fun e4 e5 e6 e7 e8 e9 f4 f5=>?_)
  refine ad cg (h:=ad cg (h:=o' (bg a 0 10 (al m6.1 e4 e5 e6 e7 e8 e9 f4 f5) (h:=ad aV (h:=cF (bi (aI ?_)))))))
  have h:=aN H;subst h
  exact dt [.cell 4 34,.tmp 5] [0,1,2,3] ⟨e4,e5,e6,e7,e8,e9,f4,f5,rfl,rfl⟩ ⟨cR 10,cP,trivial⟩
 refine aA rfl p (ap (aF (aa (aQ (bD (ck 0) (h:=ad aE (h:=bD (aT 5) (h:=ad aE (h:=l' (aT 5) ?_)))))))))
 obtain⟨m8,m9,H⟩:=ac H
 refine o' (dN [1,2,3,4] [0,1,2,3,4,5,6] (wu.ok m9) fun f6 f7 f8 f9 g0 g1 g2 g3=>?_)
 refine ad cg (h:=ad cg (h:=o' (bg a 0 10 (al m8.1 f6 f7 f8 f9 g0 g1 g2 g3) (h:=ad aV (h:=cF ?_)))))
 have h:=aN H;subst h
 exact dt [.cell 4 34,.tmp 5] [0,1,2,3] ⟨f6,f7,f8,f9,g0,g1,g2,g3,rfl,rfl⟩ ⟨cR 10,cP,trivial⟩

end Go.Proofs.YtckilbegmbaeeaaGreat.Z3

/- Walks. -/
import Derived.Test.YtckilbegmbaeeaaGreatZ75
namespace Go.Proofs.YtckilbegmbaeeaaGreat.Z7
open Go Go.RowKit Go.Proofs.YtckilbegmbaeeaaGreat.SL
open Go.IntKind (i64)
set_option linter.unusedVariables false
set_option maxHeartbeats 20000000
set_option maxRecDepth 100000
set_option linter.unusedSimpArgs false
attribute [local irreducible] IntKind.wrap dm fE iD md lW rn lM fG ma rd sub bytesOf jD dv
variable {ag az av ax k : Nat}
variable {af ay au aw : Option Addr}
def wG.f (k : Nat) (a0 : aJ) (a1 : Int) (a2 : Int) : Option (aJ × Int):=(eu.f k a0).bind (fun l=>if (!l) = true then (some (((aJ.mk (bJ.mk 0 0 ([] : (List ba))) 0 0 false (cN.mk 0 0 false false false false false false false false) 0 0 ([] : (List Int)) false false false false false false (dH.mk 0 0 false false (cN.mk 0 0 false false false false false false false false)) false (bJ.mk 0 0 ([] : (List ba))) ([] : (List Int))),2))) else ((qS.f k a0.f0 a1 a2 a0.f4).bind (fun c=>if c.2 ≠ 0 then (some (((aJ.mk (bJ.mk 0 0 ([] : (List ba))) 0 0 false (cN.mk 0 0 false false false false false false false false) 0 0 ([] : (List Int)) false false false false false false (dH.mk 0 0 false false (cN.mk 0 0 false false false false false false false false)) false (bJ.mk 0 0 ([] : (List ba))) ([] : (List Int))),c.2))) else ((ly.f a0).bind (fun b=>(if b.f15 = true then ((js.f k b.f16 a1 a2 b.f4).bind (fun d=>if d.2 ≠ 0 then (some (Out.ret (((aJ.mk (bJ.mk 0 0 ([] : (List ba))) 0 0 false (cN.mk 0 0 false false false false false false false false) 0 0 ([] : (List Int)) false false false false false false (dH.mk 0 0 false false (cN.mk 0 0 false false false false false false false false)) false (bJ.mk 0 0 ([] : (List ba))) ([] : (List Int))),d.2)))) else (some (Out.go (({ b with f16:=d.1 }),(aJ.mk (bJ.mk 0 0 ([] : (List ba))) 0 0 false (cN.mk 0 0 false false false false false false false false) 0 0 ([] : (List Int)) false false false false false false (dH.mk 0 0 false false (cN.mk 0 0 false false false false false false false false)) false (bJ.mk 0 0 ([] : (List ba))) ([] : (List Int)))))))) else (some (Out.go (b,(aJ.mk (bJ.mk 0 0 ([] : (List ba))) 0 0 false (cN.mk 0 0 false false false false false false false false) 0 0 ([] : (List Int)) false false false false false false (dH.mk 0 0 false false (cN.mk 0 0 false false false false false false false false)) false (bJ.mk 0 0 ([] : (List ba))) ([] : (List Int)))))) : Option (Out (aJ × Int) (aJ × aJ))).bind (fun j=>Out.el j (fun r_=>some r_) (fun a=>(oD.f k a1).bind (fun h=>some (((aJ.mk c.1 (dm a.1.f1 (i64.wrap (a2 - 1))) (dm a.1.f2 (i64.wrap (a1 - 1))) false a.1.f4 0 (i64.wrap (a2 - 1)) h a.1.f8 a.1.f9 a.1.f10 a.1.f11 a.1.f12 a.1.f13 (dH.mk (dm a.1.f14.f0 (i64.wrap (a2 - 1))) (dm a.1.f14.f1 (i64.wrap (a1 - 1))) false a.1.f14.f3 a.1.f14.f4) a.1.f15 a.1.f16 a.1.f17),0))))))))))
theorem wG.ok {a0 : aJ} {a1 : Int} {a2 : Int} {r : aJ × Int} (H : wG.f k a0 a1 a2 = some r) : dp Tryz.prog 39 #[.agg (am a0 af ag ay az au av aw ax).toArray,ae a1,ae a2] (co a0 af ag ay az au av aw ax) (fun v B=>∃ aQ aR bv bx bo bp bw bz,v = .tuple #[.agg (am r.1 aQ aR bv bx bo bp bw bz).toArray,ae r.2]∧B = (bn r.1 aQ aR bv bx bo bp bw bz)):=by
 refine aj Tryz.func39 rfl rfl ?_
 unfold wG.f at H
 refine aP (o' (bO (h:=fun z=>o' (cC (h:=fun S=>ad aW (h:=eA (l' (cm 4) ?_)))))))
 obtain⟨r9,d2,H⟩:=ac H
 refine o' (da [0,1,2,3] [0,1,2,3,4,5] (qR.ok d2) ?_)
 refine ad (bU rfl) (h:=bA ?_)
 rcases bD H with⟨b3,H⟩|⟨b3,H⟩
 ·refine aD rfl b3 (aP (bT (.agg (am cB none 0 none 0 none 0 none 0).toArray) dS (h:=o' (bj S 0 5 (am cB none 0 none 0 none 0 none 0) (h:=ad aW (h:=cA ?_))))))
  have h:=aN H;subst h
  exact lX [.cell 6 34,.tmp 7] ((Gh.nilBuf bI 55).trans ((Gh.nilBuf (Kd.int .i64) 3).trans ((Gh.nilBuf bI 55).trans ((Gh.nilBuf (Kd.int .i32) 21).trans (fk [6,7,8,9]))))) ⟨none,0,none,0,none,0,none,0,rfl,rfl⟩ ⟨cW 5,cX,trivial⟩
 refine aE rfl b3 (ao (aa (aP (ad aA (h:=bq (cx z 0 4 [ae a0.f0.f0,ae a0.f0.f1,.slice af a0.f0.f2.length ag]) (h:=ad ar (h:=ad ar (h:=ad aA (h:=l' (cx z 6 4 (bF a0.f4)) ?_)))))))))
 obtain⟨b,d1,H⟩:=ac H
 refine o' (gy [0] [0,1,2,3,4,5] (qS.ok d1) fun c d=>?_)
 refine ad ar (h:=ad cw (h:=ad cw (h:=o' (cC (h:=fun u=>o' (bj u 0 7 [ae b.1.f0,ae b.1.f1,.slice c b.1.f2.length d] (h:=ad aW (h:=eA (ad ar (h:=ad (dt rfl rfl) (h:=bA ?_)))))))))))
 rcases bD H with⟨b4,H⟩|⟨b4,H⟩
 ·refine aC rfl b4 (aP (bT (.agg (am cB none 0 none 0 none 0 none 0).toArray) dS (h:=ad ar (h:=o' (bj S 0 6 (am cB none 0 none 0 none 0 none 0) (h:=ad aW (h:=cA ?_)))))))
  have h:=aN H;subst h
  exact lX [.cell 6 34,.tmp 7] ((Gh.nilBuf bI 55).trans ((Gh.nilBuf (Kd.int .i64) 3).trans ((Gh.nilBuf bI 55).trans ((Gh.nilBuf (Kd.int .i32) 21).trans (fk [8,9,10,11]))))) ⟨none,0,none,0,none,0,none,0,rfl,rfl⟩ ⟨cW 6,cX,trivial⟩
 refine aB rfl b4 (ao (aa (aP (l' (cm 5) ?_))))
 obtain⟨j,d0,H⟩:=ac H
 refine o' (ef [1,2,3,4] [0,1,2,3,4,5,6,7] (ly.ok d0) fun D L E M F N I O=>?_)
 refine o' (bj z 0 9 (am j D L E M F N I O) (h:=eA (ad aA (h:=bq (aO 9) (h:=bA (SA.of_St (l:=[(1,ae a1),(2,ae a2),(3,aI z),(6,aI S),(8,aI u),(31,.bool j.f15)]) (B:=(aL z 34 (am j D L E M F N I O)::(bn j D L E M F N I O++[aL S 34 (am cB none 0 none 0 none 0 none 0),aL u 26 [ae b.1.f0,ae b.1.f1,.slice c b.1.f2.length d],Buf bI 55 c d b.1.f2]))) (St.mk1 (cO rfl (cO rfl (cO rfl (cO rfl (cO rfl (cO rfl dY)))))) (Gh.sel [9,0,1,2,3,10,11,4] (by kernel_rfl) (by kernel_rfl))) fun junk=>?_))))))
 obtain⟨d3,H,p⟩:=ac H
 refine bK (fun e ds As=>∃ (a : aJ × aJ),d3 = Out.go a∧∃ (K : Nat),∃ (a9 : Option Addr) (b1 : Nat),∃ (J : Option Addr) (R : Nat),∃ (m : Option Addr) (q : Nat),∃ (o : Option Addr) (s : Nat),∃ (y : Nat),∃ (U : Option Addr) (a4 : Nat),∃ (Y : Option Addr) (a5 : Nat),∃ (Z : Option Addr) (a6 : Nat),∃ (a3 : Option Addr) (a7 : Nat),St [(1,ae a1),(2,ae a2),(3,aI K),(6,aI y),(8,aI u)] (aL K 34 (am a.1 a9 b1 J R m q o s)::(bn a.1 a9 b1 J R m q o s++(aL y 34 (am a.2 U a4 Y a5 Z a6 a3 a7)::(bn a.2 U a4 Y a5 Z a6 a3 a7++[aL u 26 [ae b.1.f0,ae b.1.f1,.slice c b.1.f2.length d],Buf bI 55 c d b.1.f2])))) e ds As) ?_ ?_
 ·rcases bD H with⟨b6,H⟩|⟨b6,H⟩
  ·refine aD rfl b6 (ap (bQ 1 fun d4=>bQ 2 fun d5=>bQ 3 fun d6=>bQ 4 fun d7=>bQ 7 fun d8=>ak (ad aA (h:=l' (cx z 40 0 [ae j.f16.f0,ae j.f16.f1,.slice F j.f16.f2.length N]) ?_))))
   refine ad ar (h:=ad ar (h:=ad aA (h:=l' (cx z 6 0 (bF j.f4)) ?_)))
   obtain⟨a8,c8,H⟩:=ac H
   refine o' (gy [3] [0,1,2,4,5,6,7] (js.ok c8) fun c5 c6=>?_)
   refine ad ar (h:=ad cw (h:=ad cw (h:=ad aA (h:=o' (cJ 2 [ae a8.1.f0,ae a8.1.f1,.slice c5 a8.1.f2.length c6] (h:=(ad aW (h:=cR (ad ar (h:=ad (dt rfl rfl) (h:=bA ?_)))))))))))
   rcases bD H with⟨b8,H⟩|⟨b8,H⟩
   ·refine aC rfl b8 (aP (bT (.agg (am cB none 0 none 0 none 0 none 0).toArray) dS (h:=ad ar (h:=o' (bj S 0 6 (am cB none 0 none 0 none 0 none 0) (h:=ad aW (h:=cA (aF ?_))))))))
    have h:=aN H;subst h
    have hb_:=dz p
    have hr_:=Option.some.inj hb_
    clear hb_
    subst hr_
    exact lX [.cell 6 34,.tmp 7] ((Gh.nilBuf bI 55).trans ((Gh.nilBuf (Kd.int .i64) 3).trans ((Gh.nilBuf bI 55).trans ((Gh.nilBuf (Kd.int .i32) 21).trans (fk [9,10,11,12]))))) ⟨none,0,none,0,none,0,none,0,rfl,rfl⟩ ⟨cW 6,cX,trivial⟩
   refine aB rfl b8 (ao ?_)
   have h:=aN H;subst h
   exact aa ⟨(({ j with f16:=a8.1 }),cB),rfl,z,D,L,E,M,c5,c6,I,O,S,none,0,none,0,none,0,none,0,St.mk1 (cO rfl (cO rfl (cO rfl (cO rfl (cO rfl dY))))) ((Gh.nilBuf bI 55).trans ((Gh.nilBuf (Kd.int .i64) 3).trans ((Gh.nilBuf bI 55).trans ((Gh.nilBuf (Kd.int .i32) 21).trans (fk [2,3,4,0,5,6,9,10,11,12,7,8])))))⟩
  refine aE rfl b6 (ao ?_)
  have h:=aN H;subst h
  exact aa ⟨(j,cB),rfl,z,D,L,E,M,F,N,I,O,S,none,0,none,0,none,0,none,0,St.mk1 (cO rfl (cO rfl (cO rfl (cO rfl (cO rfl dY))))) ((Gh.nilBuf bI 55).trans ((Gh.nilBuf (Kd.int .i64) 3).trans ((Gh.nilBuf bI 55).trans ((Gh.nilBuf (Kd.int .i32) 21).trans (fk [0,1,2,3,4,5,8,9,10,11,6,7])))))⟩
 rintro e ds As ⟨a,ht,K,a9,b1,J,R,m,q,o,s,y,U,a4,Y,a5,Z,a6,a3,a7,b9⟩
 clear H
 subst ht
 replace p:=fi p
 have H:=p
 clear p
 refine aa (SA.of_St b9 fun junk=>aP (bq (cx u 0 10 [ae b.1.f0,ae b.1.f1,.slice c b.1.f2.length d]) (h:=ad aA (h:=o' (cJ 0 [ae b.1.f0,ae b.1.f1,.slice c b.1.f2.length d] (h:=(cR (ad aA (h:=bq (aO 0) (h:=S' ar ?_))))))))))
 refine ad (cV rfl rfl) (h:=bT (ae (dm a.1.f1 (i64.wrap (a2 - 1)))) (jL rfl rfl) (h:=ad aA (h:=bq (aO 0) (h:=ad ar (h:=ad (cV rfl rfl) (h:=bT (ae (dm a.1.f2 (i64.wrap (a1 - 1)))) (jL rfl rfl) (h:=ad aA (h:=o' (cJ 0 [ae (dm a.1.f1 (i64.wrap (a2 - 1)))] (h:=(S' aA ?_)))))))))))
 refine o' (cJ 0 [ae (dm a.1.f2 (i64.wrap (a1 - 1)))] (h:=(ad aA (h:=o' (cJ 0 [.bool false] (h:=(cR (ad aA (h:=ad aA (h:=bq (aO 0) (h:=ad ar (h:=ad (cV rfl rfl) (h:=s' (ae (dm a.1.f14.f0 (i64.wrap (a2 - 1)))) (jL rfl rfl) ?_)))))))))))))
 refine ad aA (h:=ad aA (h:=bq (aO 0) (h:=ad ar (h:=ad (cV rfl rfl) (h:=bT (ae (dm a.1.f14.f1 (i64.wrap (a1 - 1)))) (jL rfl rfl) (h:=ad aA (h:=ad aA (h:=o' (cJ 0 [ae (dm a.1.f14.f0 (i64.wrap (a2 - 1)))] (h:=(S' aA ?_)))))))))))
 refine ad aA (h:=o' (cJ 0 [ae (dm a.1.f14.f1 (i64.wrap (a1 - 1)))] (h:=(ad aA (h:=ad aA (h:=o' (cJ 0 [.bool false] (h:=(bA (SA.of_St (l:=[(1,ae a1),(2,ae a2),(3,aI K),(6,aI y)]) (B:=(aL K 34 (am (aJ.mk b.1 (dm a.1.f1 (i64.wrap (a2 - 1))) (dm a.1.f2 (i64.wrap (a1 - 1))) false a.1.f4 a.1.f5 a.1.f6 a.1.f7 a.1.f8 a.1.f9 a.1.f10 a.1.f11 a.1.f12 a.1.f13 (dH.mk (dm a.1.f14.f0 (i64.wrap (a2 - 1))) (dm a.1.f14.f1 (i64.wrap (a1 - 1))) false a.1.f14.f3 a.1.f14.f4) a.1.f15 a.1.f16 a.1.f17) c d J R m q o s)::Buf bI 55 c d b.1.f2::gL 3 J R a.1.f7::Buf bI 55 m q a.1.f16.f2::lZ 21 o s a.1.f17::cQ y a.2 U a4 Y a5 Z a6 a3 a7)) (St.mk1 (cO rfl (cO rfl (cO rfl (cO rfl dY)))) (Gh.sel [0,11,2,3,4,5,6,7,8,9] (by kernel_rfl) (by kernel_rfl))) fun junk=>aP (ad ar (h:=S' (cV rfl rfl) ?_))))))))))))
 refine S' ar ?_
 obtain⟨c7,c9,H⟩:=ac H
 refine o' (gy [] [0,1,2,3,4,5,6,7,8,9] (oD.ok c9) fun b0 b2=>?_)
 refine ad aA (h:=o' (cJ 1 [ae 0] (h:=(ad aA (h:=o' (cJ 1 [ae (i64.wrap (a2 - 1))] (h:=(ad aA (h:=o' (cJ 1 [.slice b0 c7.length b2] (h:=(cR (bq (cm 1) (h:=o' (bj y 0 6 (am (aJ.mk b.1 (dm a.1.f1 (i64.wrap (a2 - 1))) (dm a.1.f2 (i64.wrap (a1 - 1))) false a.1.f4 0 (i64.wrap (a2 - 1)) c7 a.1.f8 a.1.f9 a.1.f10 a.1.f11 a.1.f12 a.1.f13 (dH.mk (dm a.1.f14.f0 (i64.wrap (a2 - 1))) (dm a.1.f14.f1 (i64.wrap (a1 - 1))) false a.1.f14.f3 a.1.f14.f4) a.1.f15 a.1.f16 a.1.f17) c d b0 b2 m q o s) (h:=S' aW ?_))))))))))))))))
 refine cD ?_
 have h:=aN H;subst h
 exact dE [.cell 6 34,.tmp 7] [2,0,4,5] ⟨c,d,b0,b2,m,q,o,s,rfl,rfl⟩ ⟨cW 6,cX,trivial⟩


def wq.f (k : Nat) (a0 : aJ) (a1 : qI) : Option (aJ × Int):=if a1.f0 = 0 then ((uO.f k a0 (IntKind.i32.wrap (a1.f1))).bind (fun o=>some ((o.1,o.2)))) else (if a1.f0 = 1 then ((wv.f k a0 (IntKind.i32.wrap (a1.f1))).bind (fun p=>some ((p.1,p.2)))) else (if a1.f0 = 2 then ((ww.f k a0 a1.f1 a1.f2).bind (fun q=>some ((q.1,q.2)))) else (if a1.f0 = 3 then ((wx.f k a0 a1.f1 a1.f2).bind (fun r=>some ((r.1,r.2)))) else (if a1.f0 = 4 then ((wy.f k a0 a1.f3 a1.f1).bind (fun s=>some ((s.1,s.2)))) else (if a1.f0 = 5 then ((wz.f k a0 a1.f1).bind (fun u=>some ((u.1,u.2)))) else (if a1.f0 = 6 then ((wA.f k a0 a1.f1).bind (fun a=>some ((a.1,a.2)))) else (if a1.f0 = 7 then ((wB.f k a0 a1.f1).bind (fun b=>some ((b.1,b.2)))) else (if a1.f0 = 8 then ((wC.f k a0 a1.f1 a1.f2).bind (fun c=>some ((c.1,c.2)))) else (if a1.f0 = 9 then ((ws.f k a0 a1.f3).bind (fun d=>some ((d.1,d.2)))) else (if a1.f0 = 10 then ((wD.f k a0 a1.f3 a1.f1 (decide (a1.f2 > 0))).bind (fun h=>some ((h.1,h.2)))) else (if a1.f0 = 11 then ((wE.f k a0 a1.f1).bind (fun j=>some ((j.1,j.2)))) else (if a1.f0 = 12 then ((wF.f k a0 a1.f1).bind (fun l=>some ((l.1,l.2)))) else ((wG.f k a0 a1.f1 a1.f2).bind (fun m=>some ((m.1,m.2))))))))))))))))
theorem wq.ok {a0 : aJ} {a1 : qI} {r : aJ × Int} (H : wq.f k a0 a1 = some r) : dp Tryz.prog 12 #[.agg (am a0 af ag ay az au av aw ax).toArray,.agg #[.int .u8 a1.f0,ae a1.f1,ae a1.f2,.bool a1.f3]] (co a0 af ag ay az au av aw ax) (fun v B=>∃ aQ aR bv bx bo bp bw bz,v = .tuple #[.agg (am r.1 aQ aR bv bx bo bp bw bz).toArray,ae r.2]∧B = (bn r.1 aQ aR bv bx bo bp bw bz)):=by
 refine aj Tryz.func12 rfl rfl ?_
 unfold wq.f at H
 refine aP (o' (bO (h:=fun b5=>o' (bO (h:=fun b7=>o' (cC (h:=fun a=>ad aW (h:=eA (ad aA (h:=bq (aO 5) (h:=bA (aT (aP (S' (bk rfl rfl) ?_))))))))))))))
 refine ad aW (h:=bA ?_)
 rcases bD H with⟨f8,H⟩|⟨f8,H⟩
 ·refine aC rfl f8 (aP (bq (cm 4) (h:=ad aA (h:=bq (aO 5) (h:=s' (aM (IntKind.i32.wrap (a1.f1))) (jS (T:=3) (by kernel_rfl) Tryz.underlying21 rfl) ?_)))))
  obtain⟨o1,n0,H⟩:=ac H
  refine o' (ef [0,1,2,3] [0,1,2,3,4,5,6] (uO.ok n0) fun g4 i9 g5 j0 g6 j1 g7 j2=>?_)
  refine ad cw (h:=ad cw (h:=o' (bj a 0 10 (am o1.1 g4 i9 g5 j0 g6 j1 g7 j2) (h:=ad aW (h:=cD (aY (aF ?_)))))))
  have h:=aN H;subst h
  exact dE [.cell 4 34,.tmp 5] [0,1,2,3] ⟨g4,i9,g5,j0,g6,j1,g7,j2,rfl,rfl⟩ ⟨cW 10,cX,trivial⟩
 refine aB rfl f8 (aP (ad (bk rfl rfl) (h:=ad aW (h:=bA ?_))))
 rcases bD H with⟨f9,H⟩|⟨f9,H⟩
 ·refine aC rfl f9 (aP (bq (cm 4) (h:=ad aA (h:=bq (aO 5) (h:=s' (aM (IntKind.i32.wrap (a1.f1))) (jS (T:=3) (by kernel_rfl) Tryz.underlying21 rfl) ?_)))))
  obtain⟨o2,n1,H⟩:=ac H
  refine o' (ef [0,1,2,3] [0,1,2,3,4,5,6] (wv.ok n1) fun g8 j3 g9 j4 h0 j5 h1 j6=>?_)
  refine ad cw (h:=ad cw (h:=o' (bj a 0 10 (am o2.1 g8 j3 g9 j4 h0 j5 h1 j6) (h:=ad aW (h:=cD (aY (aF ?_)))))))
  have h:=aN H;subst h
  exact dE [.cell 4 34,.tmp 5] [0,1,2,3] ⟨g8,j3,g9,j4,h0,j5,h1,j6,rfl,rfl⟩ ⟨cW 10,cX,trivial⟩
 refine aB rfl f9 (aP (ad (bk rfl rfl) (h:=ad aW (h:=bA ?_))))
 rcases bD H with⟨g0,H⟩|⟨g0,H⟩
 ·refine aC rfl g0 (aP (bq (cm 4) (h:=ad aA (h:=bq (aO 5) (h:=ad aA (h:=l' (aO 5) ?_))))))
  obtain⟨o3,n2,H⟩:=ac H
  refine o' (ef [0,1,2,3] [0,1,2,3,4,5,6] (ww.ok n2) fun h3 j7 h4 j8 h5 j9 h6 k0=>?_)
  refine ad cw (h:=ad cw (h:=o' (bj a 0 10 (am o3.1 h3 j7 h4 j8 h5 j9 h6 k0) (h:=ad aW (h:=cD (aY (aF ?_)))))))
  have h:=aN H;subst h
  exact dE [.cell 4 34,.tmp 5] [0,1,2,3] ⟨h3,j7,h4,j8,h5,j9,h6,k0,rfl,rfl⟩ ⟨cW 10,cX,trivial⟩
 refine aB rfl g0 (aP (ad (bk rfl rfl) (h:=ad aW (h:=bA ?_))))
 rcases bD H with⟨g1,H⟩|⟨g1,H⟩
 ·refine aC rfl g1 (aP (bq (cm 4) (h:=ad aA (h:=bq (aO 5) (h:=ad aA (h:=l' (aO 5) ?_))))))
  obtain⟨o4,n3,H⟩:=ac H
  refine o' (ef [0,1,2,3] [0,1,2,3,4,5,6] (wx.ok n3) fun h7 k1 h8 k2 h9 k3 i0 k4=>?_)
  refine ad cw (h:=ad cw (h:=o' (bj a 0 10 (am o4.1 h7 k1 h8 k2 h9 k3 i0 k4) (h:=ad aW (h:=cD (aY (aF ?_)))))))
  have h:=aN H;subst h
  exact dE [.cell 4 34,.tmp 5] [0,1,2,3] ⟨h7,k1,h8,k2,h9,k3,i0,k4,rfl,rfl⟩ ⟨cW 10,cX,trivial⟩
 refine aB rfl g1 (aP (ad (bk rfl rfl) (h:=ad aW (h:=bA ?_))))
 rcases bD H with⟨g2,H⟩|⟨g2,H⟩
 ·refine aC rfl g2 (aP (bq (cm 4) (h:=ad aA (h:=bq (aO 5) (h:=ad aA (h:=l' (aO 5) ?_))))))
  obtain⟨o5,o0,H⟩:=ac H
  refine o' (ef [0,1,2,3] [0,1,2,3,4,5,6] (wy.ok o0) fun i1 k5 i2 k6 i3 k7 i4 k8=>?_)
  refine ad cw (h:=ad cw (h:=o' (bj a 0 10 (am o5.1 i1 k5 i2 k6 i3 k7 i4 k8) (h:=ad aW (h:=cD (aY (aF ?_)))))))
  have h:=aN H;subst h
  exact dE [.cell 4 34,.tmp 5] [0,1,2,3] ⟨i1,k5,i2,k6,i3,k7,i4,k8,rfl,rfl⟩ ⟨cW 10,cX,trivial⟩
 refine aB rfl g2 (aP (ad (bk rfl rfl) (h:=ad aW (h:=bA ?_))))
 rcases bD H with⟨g3,H⟩|⟨g3,H⟩
 ·refine aC rfl g3 (aP (bq (cm 4) (h:=ad aA (h:=l' (aO 5) ?_))))
  obtain⟨o6,l3,H⟩:=ac H
  refine o' (ef [0,1,2,3] [0,1,2,3,4,5,6] (wz.ok l3) fun i5 k9 i6 l0 i7 l1 i8 l2=>?_)
  refine ad cw (h:=ad cw (h:=o' (bj a 0 10 (am o6.1 i5 k9 i6 l0 i7 l1 i8 l2) (h:=ad aW (h:=cD (aY (aF ?_)))))))
  have h:=aN H;subst h
  exact dE [.cell 4 34,.tmp 5] [0,1,2,3] ⟨i5,k9,i6,l0,i7,l1,i8,l2,rfl,rfl⟩ ⟨cW 10,cX,trivial⟩
 refine aB rfl g3 (aP (ad (bk rfl rfl) (h:=ad aW (h:=bA ?_))))
 rcases bD H with⟨b,H⟩|⟨b,H⟩
 ·refine aC rfl b (aP (bq (cm 4) (h:=ad aA (h:=l' (aO 5) ?_))))
  obtain⟨m2,l4,H⟩:=ac H
  refine o' (ef [0,1,2,3] [0,1,2,3,4,5,6] (wA.ok l4) fun q b4 s b6 u b8 y c5=>?_)
  refine ad cw (h:=ad cw (h:=o' (bj a 0 10 (am m2.1 q b4 s b6 u b8 y c5) (h:=ad aW (h:=cD (aY (aF ?_)))))))
  have h:=aN H;subst h
  exact dE [.cell 4 34,.tmp 5] [0,1,2,3] ⟨q,b4,s,b6,u,b8,y,c5,rfl,rfl⟩ ⟨cW 10,cX,trivial⟩
 refine aB rfl b (aP (ad (bk rfl rfl) (h:=ad aW (h:=bA ?_))))
 rcases bD H with⟨c,H⟩|⟨c,H⟩
 ·refine aC rfl c (aP (bq (cm 4) (h:=ad aA (h:=l' (aO 5) ?_))))
  obtain⟨m3,l5,H⟩:=ac H
  refine o' (ef [0,1,2,3] [0,1,2,3,4,5,6] (wB.ok l5) fun z c6 D c7 E c8 F c9=>?_)
  refine ad cw (h:=ad cw (h:=o' (bj a 0 10 (am m3.1 z c6 D c7 E c8 F c9) (h:=ad aW (h:=cD (aY (aF ?_)))))))
  have h:=aN H;subst h
  exact dE [.cell 4 34,.tmp 5] [0,1,2,3] ⟨z,c6,D,c7,E,c8,F,c9,rfl,rfl⟩ ⟨cW 10,cX,trivial⟩
 refine aB rfl c (aP (ad (bk rfl rfl) (h:=ad aW (h:=bA ?_))))
 rcases bD H with⟨d,H⟩|⟨d,H⟩
 ·refine aC rfl d (aP (bq (cm 4) (h:=ad aA (h:=bq (aO 5) (h:=ad aA (h:=l' (aO 5) ?_))))))
  obtain⟨m4,l6,H⟩:=ac H
  refine o' (ef [0,1,2,3] [0,1,2,3,4,5,6] (wC.ok l6) fun I d0 J d1 K d2 L d3=>?_)
  refine ad cw (h:=ad cw (h:=o' (bj a 0 10 (am m4.1 I d0 J d1 K d2 L d3) (h:=ad aW (h:=cD (aY (aF ?_)))))))
  have h:=aN H;subst h
  exact dE [.cell 4 34,.tmp 5] [0,1,2,3] ⟨I,d0,J,d1,K,d2,L,d3,rfl,rfl⟩ ⟨cW 10,cX,trivial⟩
 refine aB rfl d (aP (ad (bk rfl rfl) (h:=ad aW (h:=bA (SA.of_St (l:=[(2,aI b5),(3,aI b7),(4,aI a),(7,.int .u8 a1.f0),(90,.bool (decide (a1.f0 = 9)))]) (B:=(aL b5 34 (am a0 af ag ay az au av aw ax)::(co a0 af ag ay az au av aw ax++[aL b7 44 [.int .u8 a1.f0,ae a1.f1,ae a1.f2,.bool a1.f3],aL a 34 (am cB none 0 none 0 none 0 none 0)]))) (St.mk1 (cO rfl (cO rfl (cO rfl (cO rfl (cO rfl dY))))) (Gh.sel [4,0,1,2,3,5,6] (by kernel_rfl) (by kernel_rfl))) fun junk=>?_)))))
 rcases bD H with⟨j,H⟩|⟨j,H⟩
 ·refine aC rfl j (aP (bq (cm 0) (h:=ad aA (h:=l' (aO 5) ?_))))
  obtain⟨m5,l7,H⟩:=ac H
  refine o' (ef [1,2,3,4] [0,1,2,3,4,5,6] (ws.ok l7) fun M d4 N d5 O d6 R d7=>?_)
  refine ad cw (h:=ad cw (h:=o' (bj a 0 10 (am m5.1 M d4 N d5 O d6 R d7) (h:=ad aW (h:=cD (aY (aF ?_)))))))
  have h:=aN H;subst h
  exact dE [.cell 4 34,.tmp 5] [0,1,2,3] ⟨M,d4,N,d5,O,d6,R,d7,rfl,rfl⟩ ⟨cW 10,cX,trivial⟩
 refine aB rfl j (aP (ad (bk rfl rfl) (h:=ad aW (h:=bA ?_))))
 rcases bD H with⟨m,H⟩|⟨m,H⟩
 ·refine aC rfl m (aP (bq (cm 0) (h:=ad aA (h:=bq (aO 5) (h:=ad aA (h:=bq (aO 5) (h:=ad aA (h:=bq (aO 5) (h:=S' (eN rfl rfl) ?_)))))))))
  obtain⟨m6,l8,H⟩:=ac H
  refine o' (ef [1,2,3,4] [0,1,2,3,4,5,6] (wD.ok l8) fun S d8 U d9 Y e0 Z e1=>?_)
  refine ad cw (h:=ad cw (h:=o' (bj a 0 10 (am m6.1 S d8 U d9 Y e0 Z e1) (h:=ad aW (h:=cD (aY (aF ?_)))))))
  have h:=aN H;subst h
  exact dE [.cell 4 34,.tmp 5] [0,1,2,3] ⟨S,d8,U,d9,Y,e0,Z,e1,rfl,rfl⟩ ⟨cW 10,cX,trivial⟩
 refine aB rfl m (aP (ad (bk rfl rfl) (h:=ad aW (h:=bA ?_))))
 rcases bD H with⟨o,H⟩|⟨o,H⟩
 ·refine aC rfl o (aP (bq (cm 0) (h:=ad aA (h:=l' (aO 5) ?_))))
  obtain⟨m7,l9,H⟩:=ac H
  refine o' (ef [1,2,3,4] [0,1,2,3,4,5,6] (wE.ok l9) fun a2 e2 a3 e3 a4 e4 a5 e5=>?_)
  refine ad cw (h:=ad cw (h:=o' (bj a 0 10 (am m7.1 a2 e2 a3 e3 a4 e4 a5 e5) (h:=ad aW (h:=cD (aY (aF ?_)))))))
  have h:=aN H;subst h
  exact dE [.cell 4 34,.tmp 5] [0,1,2,3] ⟨a2,e2,a3,e3,a4,e4,a5,e5,rfl,rfl⟩ ⟨cW 10,cX,trivial⟩
 refine aB rfl o (aP (ad (bk rfl rfl) (h:=ad aW (h:=bA ?_))))
 rcases bD H with⟨p,H⟩|⟨p,H⟩
 ·refine aC rfl p (aP (bq (cm 0) (h:=ad aA (h:=l' (aO 5) ?_))))
  obtain⟨m8,m0,H⟩:=ac H
  refine o' (ef [1,2,3,4] [0,1,2,3,4,5,6] (wF.ok m0) fun a6 e6 a7 e7 a8 e8 a9 e9=>?_)
  refine ad cw (h:=ad cw (h:=o' (bj a 0 10 (am m8.1 a6 e6 a7 e7 a8 e8 a9 e9) (h:=ad aW (h:=cD (aY (aF ?_)))))))
  have h:=aN H;subst h
  exact dE [.cell 4 34,.tmp 5] [0,1,2,3] ⟨a6,e6,a7,e7,a8,e8,a9,e9,rfl,rfl⟩ ⟨cW 10,cX,trivial⟩
 refine aB rfl p (ao (aG (aa (aP (bq (cm 0) (h:=ad aA (h:=bq (aO 5) (h:=ad aA (h:=l' (aO 5) ?_)))))))))
 obtain⟨m9,m1,H⟩:=ac H
 refine o' (ef [1,2,3,4] [0,1,2,3,4,5,6] (wG.ok m1) fun b0 f4 b1 f5 b2 f6 b3 f7=>?_)
 refine ad cw (h:=ad cw (h:=o' (bj a 0 10 (am m9.1 b0 f4 b1 f5 b2 f6 b3 f7) (h:=ad aW (h:=cD ?_)))))
 have h:=aN H;subst h
 exact dE [.cell 4 34,.tmp 5] [0,1,2,3] ⟨b0,f4,b1,f5,b2,f6,b3,f7,rfl,rfl⟩ ⟨cW 10,cX,trivial⟩


def qL.f  : Option ((List bZ)):=some ((((bZ.mk 768 879)::(bZ.mk 1155 1161)::(bZ.mk 1425 1469)::(bZ.mk 1471 1471)::(bZ.mk 1473 1474)::(bZ.mk 1552 1562)::(bZ.mk 1611 1631)::(bZ.mk 1750 1756)::(bZ.mk 2304 2306)::(bZ.mk 2364 2364)::(bZ.mk 2369 2376)::(bZ.mk 2381 2381)::(bZ.mk 3633 3633)::(bZ.mk 3636 3642)::(bZ.mk 6832 6911)::(bZ.mk 7616 7679)::(bZ.mk 8203 8207)::(bZ.mk 8234 8238)::(bZ.mk 8288 8292)::(bZ.mk 8400 8447)::(bZ.mk 12330 12333)::(bZ.mk 12441 12442)::(bZ.mk 65024 65039)::(bZ.mk 65056 65071)::(bZ.mk 65279 65279)::(bZ.mk 917760 917999)::[]) : (List bZ)))
theorem qL.ok  {r : (List bZ)} (H : qL.f  = some r) : dp Tryz.prog 141 #[] [] (fun v B=>∃ aQ aR,v = .slice aQ r.length aR∧B = [Buf qn 151 aQ aR r]):=by
 refine aj Tryz.func141 rfl rfl ?_
 unfold qL.f at H
 refine aP (ad aW (h:=cR (bT (.agg #[aM 768,aM 879]) dS (h:=bT (.agg #[aM 1155,aM 1161]) dS (h:=bT (.agg #[aM 1425,aM 1469]) dS (h:=bT (.agg #[aM 1471,aM 1471]) dS (h:=bT (.agg #[aM 1473,aM 1474]) dS (h:=bT (.agg #[aM 1552,aM 1562]) dS (h:=s' (.agg #[aM 1611,aM 1631]) dS ?_)))))))))
 refine bT (.agg #[aM 1750,aM 1756]) dS (h:=bT (.agg #[aM 2304,aM 2306]) dS (h:=bT (.agg #[aM 2364,aM 2364]) dS (h:=bT (.agg #[aM 2369,aM 2376]) dS (h:=bT (.agg #[aM 2381,aM 2381]) dS (h:=bT (.agg #[aM 3633,aM 3633]) dS (h:=bT (.agg #[aM 3636,aM 3642]) dS (h:=bT (.agg #[aM 6832,aM 6911]) dS (h:=bT (.agg #[aM 7616,aM 7679]) dS (h:=s' (.agg #[aM 8203,aM 8207]) dS ?_)))))))))
 refine bT (.agg #[aM 8234,aM 8238]) dS (h:=bT (.agg #[aM 8288,aM 8292]) dS (h:=bT (.agg #[aM 8400,aM 8447]) dS (h:=bT (.agg #[aM 12330,aM 12333]) dS (h:=bT (.agg #[aM 12441,aM 12442]) dS (h:=bT (.agg #[aM 65024,aM 65039]) dS (h:=bT (.agg #[aM 65056,aM 65071]) dS (h:=bT (.agg #[aM 65279,aM 65279]) dS (h:=bT (.agg #[aM 917760,aM 917999]) dS (h:=o' (gD (kd:=qn) (zv:=(.agg #[aM 0,aM 0])) (sz:=2) (cells:=(aM 768::aM 879::aM 1155::aM 1161::aM 1425::aM 1469::aM 1471::aM 1471::aM 1473::aM 1474::aM 1552::aM 1562::aM 1611::aM 1631::aM 1750::aM 1756::aM 2304::aM 2306::aM 2364::aM 2364::aM 2369::aM 2376::aM 2381::aM 2381::aM 3633::aM 3633::aM 3636::aM 3642::aM 6832::aM 6911::aM 7616::aM 7679::aM 8203::aM 8207::aM 8234::aM 8238::aM 8288::aM 8292::aM 8400::aM 8447::aM 12330::aM 12333::aM 12441::aM 12442::aM 65024::aM 65039::aM 65056::aM 65071::aM 65279::aM 65279::aM 917760::aM 917999::[])) (xs:=(((bZ.mk 768 879)::(bZ.mk 1155 1161)::(bZ.mk 1425 1469)::(bZ.mk 1471 1471)::(bZ.mk 1473 1474)::(bZ.mk 1552 1562)::(bZ.mk 1611 1631)::(bZ.mk 1750 1756)::(bZ.mk 2304 2306)::(bZ.mk 2364 2364)::(bZ.mk 2369 2376)::(bZ.mk 2381 2381)::(bZ.mk 3633 3633)::(bZ.mk 3636 3642)::(bZ.mk 6832 6911)::(bZ.mk 7616 7679)::(bZ.mk 8203 8207)::(bZ.mk 8234 8238)::(bZ.mk 8288 8292)::(bZ.mk 8400 8447)::(bZ.mk 12330 12333)::(bZ.mk 12441 12442)::(bZ.mk 65024 65039)::(bZ.mk 65056 65071)::(bZ.mk 65279 65279)::(bZ.mk 917760 917999)::[]) : (List bZ))) rfl Tryz.underlying132 pC ss rfl rfl rfl (by kernel_rfl) rfl rfl (dR mU (fun _ _=>rfl) (by kernel_rfl)) fun a=>?_))))))))))
 refine ad aW (h:=cD ?_)
 have h:=aN H;subst h
 exact dJ [0] ⟨some ⟨a,0,none⟩,26,rfl,rfl⟩


def gk.l0 (l0 : (List bZ)) (a1 : Int) : Nat → Int → Option (Out (Bool) (Unit))
  | 0,_=>none
  | k + 1,a=>if a < (l0.length : Int) then (if 0 ≤ a∧a < (l0.length : Int) then ((if a1 ≥ ((rd l0 a).f0) then (if 0 ≤ a∧a < (l0.length : Int) then (some (decide (a1 ≤ ((rd l0 a).f1)))) else none) else (some false) : Option Bool).bind (fun b=>if b = true then (some (Out.ret (true))) else (lt (i64.wrap (a + 1)) fun n15=>gk.l0 l0 a1 k n15))) else none) else (some (Out.go ()))
def gk.f (k : Nat) (l0 : (List bZ)) (a1 : Int) : Option (Bool):=(gk.l0 l0 a1 k 0 : Option (Out (Bool) (Unit))).bind (fun a=>Out.el a (fun r_=>some r_) (fun b=>some (false)))
theorem gk.ok {l0 : (List bZ)} {a1 : Int} {A0 : Option Addr} {c0 : Nat} {r : Bool} (H : gk.f k l0 a1 = some r) : fU Tryz.prog 140 #[.slice A0 l0.length c0,aM a1] [Buf qn 151 A0 c0 l0] (.bool r):=by
 refine aj Tryz.func140 rfl rfl ?_
 unfold gk.f at H
 refine aP (ad aW (h:=eA (ad aW (h:=bA ?_))))
 obtain⟨I,H,c⟩:=ac H
 refine bK (fun e ds As=>∃ (F : Unit),I = Out.go F∧St [] [Buf qn 151 A0 c0 l0] e ds As) ?_ ?_
 ·refine aT (cl (fun k_ e ds As=>∃ (a : Int),gk.l0 l0 a1 k_ a = some I∧St [(0,.slice A0 l0.length c0),(1,aM a1),(5,ae a)] [Buf qn 151 A0 c0 l0] e ds As) (k:=k) ⟨_,H,jQ [0]⟩ ?_)
  clear H
  rintro B e ds As ⟨a,H,z⟩
  obtain _ | B:=B
  ·cases H
  rw [gk.l0] at H
  refine SA.of_St z fun junk=>ap (aP (ad ar (h:=ad ar (h:=bT (ae (l0.length : Int)) (cP Tryz.underlying132 rfl) (h:=ad (cg rfl rfl) (h:=bA ?_))))))
  rcases bD H with⟨u,H⟩|⟨u,H⟩
  ·refine aC rfl u (ao (aa (ap (aT (aP (ad ar (h:=ad ar (h:=S' ar ?_))))))))
   obtain⟨⟨D,E⟩,H⟩:=aS H
   refine bq (br (i:=a) Tryz.underlying132 ss rfl rfl (Src.buf (k:=0) rfl) D E) (h:=bT (.pointer (some ((el A0 (a.toNat * 2)).add 0))) (lL (el A0 (a.toNat * 2)) 0 0) (h:=bq (bE (enc:=mU) (i:=a) (j:=a.toNat * 2) (m:=0) (sz:=2) Tryz.underlying21 rfl rfl rfl rfl (Src.buf (k:=0) rfl) D E (fun _ _ h=>h) rfl) (h:=ad (dU rfl rfl) (h:=S' ar ?_))))
   obtain⟨J,H,p⟩:=ac H
   refine cI 8 (St [(0,.slice A0 l0.length c0),(1,aM a1),(5,ae a),(27,.bool J)] [Buf qn 151 A0 c0 l0]) ?_ ?_
   ·rcases bD H with⟨b,H⟩|⟨b,H⟩
    ·refine aZ (ai b) ar (h:=aZ (ai b) ar (h:=Y' (ai b) ar ?_))
     obtain⟨⟨q,s⟩,H⟩:=aS H
     refine cn (ai b) (br (i:=a) Tryz.underlying132 ss rfl rfl (Src.buf (k:=0) rfl) q s) (h:=gS (ai b) (.pointer (some ((el A0 (a.toNat * 2)).add 1))) (lL (el A0 (a.toNat * 2)) 0 1) (h:=cn (ai b) (bE (enc:=mU) (i:=a) (j:=a.toNat * 2) (m:=1) (sz:=2) Tryz.underlying21 rfl rfl rfl rfl (Src.buf (k:=0) rfl) q s (fun _ _ h=>h) rfl) (h:=aZ (ai b) (gF rfl rfl) (h:=gJ (ai b) ?_))))
     have h:=aN H;subst h
     exact dQ [0]
    refine ct 7 (al b) (fZ (al b) ?_)
    have h:=aN H;subst h
    exact dQ [0]
   rintro e ds As l
   clear H
   have H:=p
   clear p
   refine bA (SA.of_St l fun junk=>?_)
   rcases bD H with⟨d,H⟩|⟨d,H⟩
   ·refine aD rfl d (aP (ad aW (h:=cD (aY (aF (aF (aY (aF (aF ?_)))))))))
    have h:=aN H;subst h
    have hb_:=dz c
    have hr_:=Option.some.inj hb_
    clear hb_
    subst hr_
    exact dJ [0] ⟨rfl,rfl⟩
   refine aE rfl d (ao (aG (aa (ak (ad ar (h:=S' (bX rfl rfl) ?_))))))
   obtain⟨n15,y,H⟩:=bi H
   refine bT (ae n15) (bu (v:=ae n15) (congrArg (Value.int .i64) y.symm)) (h:=ah ?_)
   exact aa ⟨B,Nat.lt_succ_self _,_,H,eb [0]⟩
  refine aB rfl u (ci (aX (aX (cj ?_))))
  have h:=aN H;subst h
  exact aa ⟨(),rfl,eb [0]⟩
 rintro e ds As ⟨F,ht,o⟩
 clear H
 subst ht
 replace c:=fi c
 have H:=c
 clear c
 refine aa (SA.of_St o fun junk=>aP (ad aW (h:=cD ?_)))
 have h:=aN H;subst h
 exact dJ [0] ⟨rfl,rfl⟩


def qM.f  : Option ((List bZ)):=some ((((bZ.mk 4352 4447)::(bZ.mk 8986 8987)::(bZ.mk 9001 9002)::(bZ.mk 9193 9196)::(bZ.mk 9725 9726)::(bZ.mk 9748 9749)::(bZ.mk 9800 9811)::(bZ.mk 9889 9889)::(bZ.mk 9917 9918)::(bZ.mk 9989 9989)::(bZ.mk 10024 10024)::(bZ.mk 10060 10060)::(bZ.mk 10067 10069)::(bZ.mk 10133 10135)::(bZ.mk 11035 11036)::(bZ.mk 11088 11088)::(bZ.mk 11904 12350)::(bZ.mk 12353 13311)::(bZ.mk 13312 19903)::(bZ.mk 19968 40959)::(bZ.mk 40960 42191)::(bZ.mk 44032 55203)::(bZ.mk 63744 64255)::(bZ.mk 65072 65135)::(bZ.mk 65281 65376)::(bZ.mk 65504 65510)::(bZ.mk 127744 127776)::(bZ.mk 127789 127797)::(bZ.mk 127799 127868)::(bZ.mk 128000 128062)::(bZ.mk 128064 128064)::(bZ.mk 128066 128252)::(bZ.mk 128512 128591)::(bZ.mk 128640 128709)::(bZ.mk 129280 129535)::(bZ.mk 131072 196605)::(bZ.mk 196608 262141)::[]) : (List bZ)))
theorem qM.ok  {r : (List bZ)} (H : qM.f  = some r) : dp Tryz.prog 142 #[] [] (fun v B=>∃ aQ aR,v = .slice aQ r.length aR∧B = [Buf qn 151 aQ aR r]):=by
 refine aj Tryz.func142 rfl rfl ?_
 unfold qM.f at H
 refine aP (ad aW (h:=cR (bT (.agg #[aM 4352,aM 4447]) dS (h:=bT (.agg #[aM 8986,aM 8987]) dS (h:=bT (.agg #[aM 9001,aM 9002]) dS (h:=bT (.agg #[aM 9193,aM 9196]) dS (h:=bT (.agg #[aM 9725,aM 9726]) dS (h:=bT (.agg #[aM 9748,aM 9749]) dS (h:=s' (.agg #[aM 9800,aM 9811]) dS ?_)))))))))
 refine bT (.agg #[aM 9889,aM 9889]) dS (h:=bT (.agg #[aM 9917,aM 9918]) dS (h:=bT (.agg #[aM 9989,aM 9989]) dS (h:=bT (.agg #[aM 10024,aM 10024]) dS (h:=bT (.agg #[aM 10060,aM 10060]) dS (h:=bT (.agg #[aM 10067,aM 10069]) dS (h:=bT (.agg #[aM 10133,aM 10135]) dS (h:=bT (.agg #[aM 11035,aM 11036]) dS (h:=bT (.agg #[aM 11088,aM 11088]) dS (h:=s' (.agg #[aM 11904,aM 12350]) dS ?_)))))))))
 refine bT (.agg #[aM 12353,aM 13311]) dS (h:=bT (.agg #[aM 13312,aM 19903]) dS (h:=bT (.agg #[aM 19968,aM 40959]) dS (h:=bT (.agg #[aM 40960,aM 42191]) dS (h:=bT (.agg #[aM 44032,aM 55203]) dS (h:=bT (.agg #[aM 63744,aM 64255]) dS (h:=bT (.agg #[aM 65072,aM 65135]) dS (h:=bT (.agg #[aM 65281,aM 65376]) dS (h:=bT (.agg #[aM 65504,aM 65510]) dS (h:=s' (.agg #[aM 127744,aM 127776]) dS ?_)))))))))
 refine bT (.agg #[aM 127789,aM 127797]) dS (h:=bT (.agg #[aM 127799,aM 127868]) dS (h:=bT (.agg #[aM 128000,aM 128062]) dS (h:=bT (.agg #[aM 128064,aM 128064]) dS (h:=bT (.agg #[aM 128066,aM 128252]) dS (h:=bT (.agg #[aM 128512,aM 128591]) dS (h:=bT (.agg #[aM 128640,aM 128709]) dS (h:=bT (.agg #[aM 129280,aM 129535]) dS (h:=bT (.agg #[aM 131072,aM 196605]) dS (h:=s' (.agg #[aM 196608,aM 262141]) dS ?_)))))))))
 refine o' (gD (kd:=qn) (zv:=(.agg #[aM 0,aM 0])) (sz:=2) (cells:=(aM 4352::aM 4447::aM 8986::aM 8987::aM 9001::aM 9002::aM 9193::aM 9196::aM 9725::aM 9726::aM 9748::aM 9749::aM 9800::aM 9811::aM 9889::aM 9889::aM 9917::aM 9918::aM 9989::aM 9989::aM 10024::aM 10024::aM 10060::aM 10060::aM 10067::aM 10069::aM 10133::aM 10135::aM 11035::aM 11036::aM 11088::aM 11088::aM 11904::aM 12350::aM 12353::aM 13311::aM 13312::aM 19903::aM 19968::aM 40959::aM 40960::aM 42191::aM 44032::aM 55203::aM 63744::aM 64255::aM 65072::aM 65135::aM 65281::aM 65376::aM 65504::aM 65510::aM 127744::aM 127776::aM 127789::aM 127797::aM 127799::aM 127868::aM 128000::aM 128062::aM 128064::aM 128064::aM 128066::aM 128252::aM 128512::aM 128591::aM 128640::aM 128709::aM 129280::aM 129535::aM 131072::aM 196605::aM 196608::aM 262141::[])) (xs:=(((bZ.mk 4352 4447)::(bZ.mk 8986 8987)::(bZ.mk 9001 9002)::(bZ.mk 9193 9196)::(bZ.mk 9725 9726)::(bZ.mk 9748 9749)::(bZ.mk 9800 9811)::(bZ.mk 9889 9889)::(bZ.mk 9917 9918)::(bZ.mk 9989 9989)::(bZ.mk 10024 10024)::(bZ.mk 10060 10060)::(bZ.mk 10067 10069)::(bZ.mk 10133 10135)::(bZ.mk 11035 11036)::(bZ.mk 11088 11088)::(bZ.mk 11904 12350)::(bZ.mk 12353 13311)::(bZ.mk 13312 19903)::(bZ.mk 19968 40959)::(bZ.mk 40960 42191)::(bZ.mk 44032 55203)::(bZ.mk 63744 64255)::(bZ.mk 65072 65135)::(bZ.mk 65281 65376)::(bZ.mk 65504 65510)::(bZ.mk 127744 127776)::(bZ.mk 127789 127797)::(bZ.mk 127799 127868)::(bZ.mk 128000 128062)::(bZ.mk 128064 128064)::(bZ.mk 128066 128252)::(bZ.mk 128512 128591)::(bZ.mk 128640 128709)::(bZ.mk 129280 129535)::(bZ.mk 131072 196605)::(bZ.mk 196608 262141)::[]) : (List bZ))) rfl Tryz.underlying132 pC ss rfl rfl rfl (by kernel_rfl) rfl rfl (dR mU (fun _ _=>rfl) (by kernel_rfl)) fun a=>ad aW (h:=cD ?_))
 have h:=aN H;subst h
 exact dJ [0] ⟨some ⟨a,0,none⟩,37,rfl,rfl⟩


def qT.f (k : Nat) (a0 : Int) : Option (Int):=(if a0 < 32 then (some true) else (if a0 ≥ 127 then (some (decide (a0 ≤ 159))) else (some false)) : Option Bool).bind (fun d=>lt (d || (decide (a0 > 1114111))) fun h=>(if h = true then (some true) else (if a0 ≥ 55296 then (some (decide (a0 ≤ 57343))) else (some false)) : Option Bool).bind (fun j=>if j = true then (some ((-1))) else ((qL.f ).bind (fun a=>(gk.f k a a0).bind (fun b=>if b = true then (some (0)) else ((qM.f ).bind (fun xB=>(gk.f k xB a0).bind (fun c=>if c = true then (some (2)) else (some (1))))))))))
theorem qT.ok {a0 : Int} {r : Int} (H : qT.f k a0 = some r) : fU Tryz.prog 99 #[aM a0] [] (ae r):=by
 refine aj Tryz.func99 rfl rfl ?_
 unfold qT.f at H
 refine aP (ad aW (h:=eA (ad ar (h:=ad (cg rfl rfl) (h:=S' ar ?_)))))
 obtain⟨J,H,y⟩:=ac H
 refine dy 7 [(0,aM a0),(12,.bool J)] [] ?_ fun junk=>?_
 ·rcases bD H with⟨h2,H⟩|⟨h2,H⟩
  ·refine ct 3 (ai h2) (fY (fY (ct 1 (ai h2) (gJ (ai h2) ?_))))
   have h:=aN H;subst h
   exact dQ []
  refine aZ (al h2) ar (h:=aZ (al h2) (dU rfl rfl) (h:=Y' (al h2) ar ?_))
  rcases bD H with⟨d,H⟩|⟨d,H⟩
  ·refine aZ (ai d) ar (h:=aZ (ai d) (gF rfl rfl) (h:=fR (al h2) (dB rfl (bR rfl (ai d) rfl) (fZ (al h2) ?_))))
   have h:=aN H;subst h
   exact dQ []
  refine ct 2 (al d) (fR (al h2) (dB rfl (bL rfl (al d) rfl) (fZ (al h2) ?_)))
  have h:=aN H;subst h
  exact dQ []
 replace H:=y
 refine S' ar ?_
 obtain⟨L,q,H⟩:=bi H
 refine dy 3 [(0,aM a0),(16,.bool L)] [] ?_ fun junk=>?_
 ·by_cases c : J = true
  ·refine ct 2 c (bY c (h:=ah ?_))
   have x_:=ik q c;exact bH []
  refine aZ (aK c) ar (h:=aZ (aK c) (eN rfl rfl) (h:=ca (aK c) (h:=ah ?_)))
  have x_:=ij q ((aK c));exact bH []
 refine S' ar ?_
 obtain⟨M,H,p⟩:=ac H
 refine cI 7 (St [(0,aM a0),(24,.bool M)] []) ?_ ?_
 ·rcases bD H with⟨a,H⟩|⟨a,H⟩
  ·refine ct 3 a (fY (fY (ct 1 a (gJ a ?_))))
   have h:=aN H;subst h
   exact dQ []
  refine aZ (aK a) ar (h:=aZ (aK a) (dU rfl rfl) (h:=Y' (aK a) ar ?_))
  rcases bD H with⟨b,H⟩|⟨b,H⟩
  ·refine aZ (ai b) ar (h:=aZ (ai b) (gF rfl rfl) (h:=fR (aK a) (dB rfl (bR rfl (ai b) rfl) (fZ (aK a) ?_))))
   have h:=aN H;subst h
   exact dQ []
  refine ct 2 (al b) (fR (aK a) (dB rfl (bL rfl (al b) rfl) (fZ (aK a) ?_)))
  have h:=aN H;subst h
  exact dQ []
 rintro e ds As o
 clear H
 have H:=p
 clear p
 refine bA (SA.of_St o fun junk=>?_)
 rcases bD H with⟨j,H⟩|⟨j,H⟩
 ·refine aD rfl j (aP (ad aW (h:=cA ?_)))
  have h:=aN H;subst h
  exact dJ [] ⟨rfl,rfl⟩
 refine aE rfl j (ao (aa (ap (aP ?_))))
 obtain⟨N,E,H⟩:=ac H
 refine o' (gy [] [] (qL.ok E) fun s F=>?_)
 refine S' ar ?_
 obtain⟨O,D,H⟩:=ac H
 refine o' (da [0] [] (gk.ok (A0:=s) (c0:=F) D) ?_)
 refine bA ?_
 rcases bD H with⟨l,H⟩|⟨l,H⟩
 ·refine aD rfl l (aP (ad aW (h:=cA ?_)))
  have h:=aN H;subst h
  exact dJ [] ⟨rfl,rfl⟩
 refine aE rfl l (ao (aa (ap (ap (bQ 0 fun K=>ak ?_)))))
 obtain⟨xB,B,H⟩:=ac H
 refine o' (gy [] [0] (qM.ok B) fun u I=>?_)
 refine S' ar ?_
 obtain⟨R,z,H⟩:=ac H
 refine o' (da [0] [1] (gk.ok (A0:=u) (c0:=I) z) ?_)
 refine bA ?_
 rcases bD H with⟨m,H⟩|⟨m,H⟩
 ·refine aD rfl m (aP (ad aW (h:=cA ?_)))
  have h:=aN H;subst h
  exact dJ [] ⟨rfl,rfl⟩
 refine aE rfl m (ao (aa (aP (ad aW (h:=cD ?_)))))
 have h:=aN H;subst h
 exact dJ [] ⟨rfl,rfl⟩


def kA.l0 (a0 : ba) : Nat → Int → Option (Out (Bool) (Unit))
  | 0,_=>none
  | k + 1,a=>if a < 3 then (if 0 ≤ a∧a < (3 : Int) then (if (rd ([a0.f1.f0,a0.f1.f1,a0.f1.f2] : List Int) a) = 0 then ((if (i64.wrap (a + 1)) < 3 then (if 0 ≤ (i64.wrap (a + 1))∧(i64.wrap (a + 1)) < (3 : Int) then (some (decide ((rd ([a0.f1.f0,a0.f1.f1,a0.f1.f2] : List Int) (i64.wrap (a + 1))) ≠ 0))) else none) else (some false) : Option Bool).bind (fun d=>if d = true then (some (Out.ret (false))) else (lt (i64.wrap (a + 1)) fun b=>kA.l0 a0 k b))) else (if 0 ≤ a∧a < (3 : Int) then ((qT.f k (rd ([a0.f1.f0,a0.f1.f1,a0.f1.f2] : List Int) a)).bind (fun h=>if h ≠ 0 then (some (Out.ret (false))) else (lt (i64.wrap (a + 1)) fun c=>kA.l0 a0 k c))) else none)) else none) else (some (Out.go ()))
def kA.f (k : Nat) (a0 : ba) : Option (Bool):=(qa.f a0.f3).bind (fun d=>if (!d) = true then (some (false)) else (if a0.f2 = 0 then (lt ((decide (a0.f0 = 0)) && (decide (a0.f1 = (fX.mk 0 0 0)))) fun c=>some (c)) else ((if a0.f2 > 2 then (some true) else ((qT.f k a0.f0).bind (fun a=>some (decide (a ≠ (i64.wrap (a0.f2)))))) : Option (Bool)).bind (fun j=>if j = true then (some (false)) else ((kA.l0 a0 k 0 : Option (Out (Bool) (Unit))).bind (fun b=>Out.el b (fun r_=>some r_) (fun h=>some (true))))))))
theorem kA.ok {a0 : ba} {r : Bool} (H : kA.f k a0 = some r) : fU Tryz.prog 110 #[.agg (bW a0).toArray] [] (.bool r):=by
 refine aj Tryz.func110 rfl rfl ?_
 unfold kA.f at H
 refine aP (o' (bO (h:=fun j=>ad aW (h:=eA (ad aA (h:=l' (cx j 5 0 (bF a0.f3)) ?_))))))
 obtain⟨r3,b3,H⟩:=ac H
 refine o' (da [] [0] (qa.ok b3) ?_)
 refine ad (bU rfl) (h:=bA ?_)
 rcases bD H with⟨h4,H⟩|⟨h4,H⟩
 ·refine aD rfl h4 (aP (ad aW (h:=cA ?_)))
  have h:=aN H;subst h
  exact dJ [] ⟨rfl,rfl⟩
 refine aE rfl h4 (ao (aa (ap (aP (ad aA (h:=bq (aO 0) (h:=ad (bk rfl rfl) (h:=bA ?_))))))))
 rcases bD H with⟨h5,H⟩|⟨h5,H⟩
 ·refine aC rfl h5 (aP (ad aA (h:=bq (aO 0) (h:=ad (bk rfl rfl) (h:=S' ar ?_)))))
  obtain⟨q6,a9,H⟩:=bi H
  refine dy 5 [(19,.bool q6)] [] ?_ fun junk=>?_
  ·by_cases s : a0.f0 = 0
   ·refine aZ (ai s) aA (h:=cn (ai s) (cx j 1 0 [aM a0.f1.f0,aM a0.f1.f1,aM a0.f1.f2]) (h:=gS (ai s) (.agg #[aM 0,aM 0,aM 0]) gG (h:=gS (ai s) (.bool (decide (a0.f1 = (fX.mk 0 0 0)))) (kC (xs:=[aM a0.f1.f0,aM a0.f1.f1,aM a0.f1.f2]) (ys:=[aM 0,aM 0,aM 0]) (r:=((a0.f1.f0 == 0) && ((a0.f1.f1 == 0) && ((a0.f1.f2 == 0) && true)))) (p:=a0.f1 = (fX.mk 0 0 0)) vY rfl rfl (by kernel_rfl) (vZ (x:=a0.f1) (y:=(fX.mk 0 0 0)))) (h:=bY (ai s) (h:=ah ?_)))))
    have x_:=fq a9 ((ai s));exact bH []
   refine ct 4 (al s) (ca (al s) (h:=ah ?_))
   have x_:=fp a9 ((al s));exact bH []
  refine ad aW (h:=cA ?_)
  have h:=aN H;subst h
  exact dJ [] ⟨rfl,rfl⟩
 refine aB rfl h5 (ao (aa (ap (ap ?_))))
 obtain⟨t9,H,a8⟩:=ac H
 refine bK (St [(1,aI j),(31,.bool t9)] [aL j 55 (bW a0)]) ?_ ?_
 ·refine fg (dC 0 12) [0] [] fun _ _ _ _ _ sH dd pk=>?_
  refine bf 0 rfl sH aA (h:=bN 1 rfl sH (aO 0) (h:=bf 2 rfl sH (eN rfl rfl) (h:=T' 3 rfl sH ar ?_)))
  rcases bD H with⟨c,H⟩|⟨c,H⟩
  ·refine bM 4 rfl (ai c) (bM 5 rfl (ai c) (bM 6 rfl (ai c) (bM 7 rfl (ai c) (bM 8 rfl (ai c) (bM 9 rfl (ai c) (bM 10 rfl (ai c) (bN 11 rfl sH (VR.ofV (bR rfl (ai c) rfl)) (h:=aV dd sH (aH (by kernel_rfl) ?_)))))))))
   have h:=aN H;subst h
   exact bH [0]
  refine cU 4 rfl (al c) sH aA (h:=cH 5 rfl (al c) sH (aO 0) (h:=cU 7 rfl (al c) sH aA (h:=cH 8 rfl (al c) sH (aO 0) (h:=BM (ae (i64.wrap (a0.f2))) 9 rfl (al c) sH (jS (T:=5) (by kernel_rfl) Tryz.underlying3 rfl) ?_))))
  obtain⟨b5,b0,H⟩:=ac H
  refine xb 6 rfl dd (al c) (da [] [] (qT.ok b0) ?_)
  refine cU 10 rfl (al c) sH (dt rfl rfl) (h:=bN 11 rfl sH (VR.ofV (bL rfl (al c) rfl)) (h:=aV dd sH (aH (by kernel_rfl) ?_)))
  have h:=aN H;subst h
  exact bH [0]
 rintro e ds As U
 clear H
 have H:=a8
 clear a8
 refine aa (SA.of_St U fun junk=>?_)
 rcases bD H with⟨z,H⟩|⟨z,H⟩
 ·refine aD rfl z (aP (ad aW (h:=cA ?_)))
  have h:=aN H;subst h
  exact dJ [] ⟨rfl,rfl⟩
 refine aE rfl z (ao (aa (ap (aP (ad aW (h:=bA ?_))))))
 obtain⟨a5,H,l⟩:=ac H
 refine bK (fun e ds As=>∃ (a4 : Unit),a5 = Out.go a4∧St [] [] e ds As) ?_ ?_
 ·refine aT (cl (fun k_ e ds As=>∃ (a : Int),kA.l0 a0 k_ a = some a5∧St [(1,aI j),(3,ae a)] [aL j 55 (bW a0)] e ds As) (k:=k) ⟨_,H,jQ [0]⟩ ?_)
  clear H
  rintro u e ds As ⟨a,H,Y⟩
  obtain _ | u:=u
  ·cases H
  rw [kA.l0] at H
  refine SA.of_St Y fun junk=>ap (aP (ad ar (h:=ad (cg rfl rfl) (h:=bA ?_))))
  rcases bD H with⟨D,H⟩|⟨D,H⟩
  ·refine aC rfl D (ao (aa (ap (aT (aP (ad ar (h:=S' aA ?_)))))))
   obtain⟨⟨K,L⟩,H⟩:=aS H
   refine s' (.pointer (some ((⟨j,0,none⟩ : Addr).add (1 + a.toNat * 1 + 0)))) (gp (B:=⟨j,0,none⟩) (m:=1) (o:=1 + a.toNat * 1 + 0) Tryz.underlying53 jg rfl rfl K L rfl) ?_
   refine l' (gY (b:=j) (m:=1 + a.toNat * 1 + 0) (k:=0) (v:=aM (rd ([a0.f1.f0,a0.f1.f1,a0.f1.f2] : List Int) a)) Tryz.underlying21 rfl rfl rfl (oZ (q:=0) (kd:=(Kd.int .i32)) (m0:=1) (N:=3) (sz:=1) (xs:=([a0.f1.f0,a0.f1.f1,a0.f1.f2] : List Int)) (i:=a) (dR (fun x_ : Int=>[Value.int .i32 x_]) (fun _ _=>rfl) (by kernel_rfl) _) rfl rfl K L (fun _ h_=>by rw [h_]; rfl))) ?_
   refine ad (bk rfl rfl) (h:=bA ?_)
   rcases bD H with⟨E,H⟩|⟨E,H⟩
   ·refine aC rfl E (aP (ad ar (h:=ad (bX rfl rfl) (h:=ad (cg rfl rfl) (h:=S' ar ?_)))))
    obtain⟨b4,H,J⟩:=ac H
    refine cI 7 (St [(1,aI j),(3,ae a),(51,.bool b4)] [aL j 55 (bW a0)]) ?_ ?_
    ·rcases bD H with⟨d,H⟩|⟨d,H⟩
     ·refine aZ (ai d) ar (h:=aZ (ai d) (bX rfl rfl) (h:=Y' (ai d) aA ?_))
      obtain⟨⟨M,O⟩,H⟩:=aS H
      refine y' (ai d) (.pointer (some ((⟨j,0,none⟩ : Addr).add (1 + (i64.wrap (a + 1)).toNat * 1 + 0)))) (gp (B:=⟨j,0,none⟩) (m:=1) (o:=1 + (i64.wrap (a + 1)).toNat * 1 + 0) Tryz.underlying53 jg rfl rfl M O rfl) ?_
      refine z' (ai d) (gY (b:=j) (m:=1 + (i64.wrap (a + 1)).toNat * 1 + 0) (k:=0) (v:=aM (rd ([a0.f1.f0,a0.f1.f1,a0.f1.f2] : List Int) (i64.wrap (a + 1)))) Tryz.underlying21 rfl rfl rfl (oZ (q:=0) (kd:=(Kd.int .i32)) (m0:=1) (N:=3) (sz:=1) (xs:=([a0.f1.f0,a0.f1.f1,a0.f1.f2] : List Int)) (i:=i64.wrap (a + 1)) (dR (fun x_ : Int=>[Value.int .i32 x_]) (fun _ _=>rfl) (by kernel_rfl) _) rfl rfl M O (fun _ h_=>by rw [h_]; rfl))) ?_
      refine aZ (ai d) (dt rfl rfl) (h:=gJ (ai d) ?_)
      have h:=aN H;subst h
      exact dQ [0]
     refine ct 6 (al d) (fZ (al d) ?_)
     have h:=aN H;subst h
     exact dQ [0]
    rintro e ds As Z
    clear H
    have H:=J
    clear J
    refine bA (SA.of_St Z fun junk=>?_)
    rcases bD H with⟨F,H⟩|⟨F,H⟩
    ·refine aD rfl F (aP (ad aW (h:=cD (aY (aF (aF (aY (aF (aF ?_)))))))))
     have h:=aN H;subst h
     have hb_:=dz l
     have hr_:=Option.some.inj hb_
     clear hb_
     subst hr_
     exact dJ [] ⟨rfl,rfl⟩
    refine aE rfl F (ao (aG (aa (ak (ad ar (h:=S' (bX rfl rfl) ?_))))))
    obtain⟨a2,a6,H⟩:=bi H
    refine bT (ae a2) (bu (v:=ae a2) (congrArg (Value.int .i64) a6.symm)) (h:=ah ?_)
    exact aa ⟨u,Nat.lt_succ_self _,_,H,eb [0]⟩
   refine aB rfl E (aP (ad ar (h:=S' aA ?_)))
   obtain⟨⟨R,S⟩,H⟩:=aS H
   refine s' (.pointer (some ((⟨j,0,none⟩ : Addr).add (1 + a.toNat * 1 + 0)))) (gp (B:=⟨j,0,none⟩) (m:=1) (o:=1 + a.toNat * 1 + 0) Tryz.underlying53 jg rfl rfl R S rfl) ?_
   refine l' (gY (b:=j) (m:=1 + a.toNat * 1 + 0) (k:=0) (v:=aM (rd ([a0.f1.f0,a0.f1.f1,a0.f1.f2] : List Int) a)) Tryz.underlying21 rfl rfl rfl (oZ (q:=0) (kd:=(Kd.int .i32)) (m0:=1) (N:=3) (sz:=1) (xs:=([a0.f1.f0,a0.f1.f1,a0.f1.f2] : List Int)) (i:=a) (dR (fun x_ : Int=>[Value.int .i32 x_]) (fun _ _=>rfl) (by kernel_rfl) _) rfl rfl R S (fun _ h_=>by rw [h_]; rfl))) ?_
   obtain⟨b6,b2,H⟩:=ac H
   refine o' (da [] [0] (qT.ok b2) ?_)
   refine ad (dt rfl rfl) (h:=bA ?_)
   rcases bD H with⟨I,H⟩|⟨I,H⟩
   ·refine aC rfl I (aP (ad aW (h:=cD (aY (aF (aF (aY (aF (aF ?_)))))))))
    have h:=aN H;subst h
    have hb_:=dz l
    have hr_:=Option.some.inj hb_
    clear hb_
    subst hr_
    exact dJ [] ⟨rfl,rfl⟩
   refine aB rfl I (ao (aG (aa (ak (ad ar (h:=S' (bX rfl rfl) ?_))))))
   obtain⟨a3,a7,H⟩:=bi H
   refine bT (ae a3) (bu (v:=ae a3) (congrArg (Value.int .i64) a7.symm)) (h:=ah ?_)
   exact aa ⟨u,Nat.lt_succ_self _,_,H,eb [0]⟩
  refine aB rfl D (ci (aX (aX (cj ?_))))
  have h:=aN H;subst h
  exact aa ⟨(),rfl,eb []⟩
 rintro e ds As ⟨a4,ht,a1⟩
 clear H
 subst ht
 replace l:=fi l
 have H:=l
 clear l
 refine aa (SA.of_St a1 fun junk=>aP (ad aW (h:=cD ?_)))
 have h:=aN H;subst h
 exact dJ [] ⟨rfl,rfl⟩


def fB.l0 (a0 : bJ) : Nat → Int → Option (Out (Bool) (Unit))
  | 0,_=>none
  | k + 1,a=>if a < (a0.f2.length : Int) then (if 0 ≤ a∧a < (a0.f2.length : Int) then ((kA.f k (rd a0.f2 a)).bind (fun gf=>if (!gf) = true then (some (Out.ret (false))) else (if a0.f0 ≠ 0 then ((if (a.tmod a0.f0) > 0 then (if 0 ≤ (i64.wrap (a - 1))∧(i64.wrap (a - 1)) < (a0.f2.length : Int) then (some (decide (((rd a0.f2 (i64.wrap (a - 1))).f2) = 2))) else none) else (some false) : Option Bool).bind (fun d=>(if 0 ≤ a∧a < (a0.f2.length : Int) then (if (decide (((rd a0.f2 a).f2) = 0)) ≠ d then (some true) else (if d = true then (if 0 ≤ a∧a < (a0.f2.length : Int) then (if 0 ≤ (i64.wrap (a - 1))∧(i64.wrap (a - 1)) < (a0.f2.length : Int) then (some (decide (((rd a0.f2 a).f3) ≠ ((rd a0.f2 (i64.wrap (a - 1))).f3)))) else none) else none) else (some false))) else none : Option (Bool)).bind (fun h=>if h = true then (some (Out.ret (false))) else ((if 0 ≤ a∧a < (a0.f2.length : Int) then (if ((rd a0.f2 a).f2) = 2 then (if a0.f0 ≠ 0 then (some (decide ((a.tmod a0.f0) = (i64.wrap (a0.f0 - 1))))) else none) else (some false)) else none : Option (Bool)).bind (fun c=>if c = true then (some (Out.ret (false))) else (lt (i64.wrap (a + 1)) fun b=>fB.l0 a0 k b)))))) else none))) else none) else (some (Out.go ()))
def fB.f (k : Nat) (a0 : bJ) : Option (Bool):=(oW.f a0.f0).bind (fun d=>(if (!d) = true then (some true) else ((oW.f a0.f1).bind (fun h=>some (!h))) : Option Bool).bind (fun c=>lt (c || (decide ((a0.f2.length : Int) ≠ (i64.wrap (a0.f0 * a0.f1))))) fun a=>if a = true then (some (false)) else ((fB.l0 a0 k 0 : Option (Out (Bool) (Unit))).bind (fun b=>Out.el b (fun r_=>some r_) (fun j=>some (true))))))
theorem fB.ok {a0 : bJ} {r : Bool} (H : fB.f k a0 = some r) : fU Tryz.prog 54 #[.agg #[ae a0.f0,ae a0.f1,.slice af a0.f2.length ag]] [Buf bI 55 af ag a0.f2] (.bool r):=by
 refine aj Tryz.func54 rfl rfl ?_
 unfold fB.f at H
 refine aP (o' (bO (h:=fun s=>ad aW (h:=eA (ad aA (h:=l' (aO 1) ?_))))))
 obtain⟨r4,a7,H⟩:=ac H
 refine o' (da [] [0,1] (oW.ok a7) ?_)
 refine ad (bU rfl) (h:=S' ar ?_)
 obtain⟨q5,H,c6⟩:=ac H
 refine dy 5 [(1,aI s),(14,.bool q5)] [Buf bI 55 af ag a0.f2,aL s 26 [ae a0.f0,ae a0.f1,.slice af a0.f2.length ag]] ?_ fun junk=>?_
 ·rcases bD H with⟨D,H⟩|⟨D,H⟩
  ·refine ct 4 D (gJ D ?_)
   have h:=aN H;subst h
   exact dQ [0,1]
  refine aZ (aK D) aA (h:=z' (aK D) (aO 1) ?_)
  obtain⟨r7,C8,H⟩:=ac H
  refine fR (aK D) (da [] [0,1] (oW.ok C8) ?_)
  refine aZ (aK D) (bU rfl) (h:=fZ (aK D) ?_)
  have h:=aN H;subst h
  exact dQ [0,1]
 replace H:=c6
 refine S' ar ?_
 obtain⟨c8,a4,H⟩:=bi H
 refine cI 10 (St [(1,aI s),(25,.bool c8)] [Buf bI 55 af ag a0.f2,aL s 26 [ae a0.f0,ae a0.f1,.slice af a0.f2.length ag]]) ?_ ?_
 ·by_cases l : q5 = true
  ·refine ct 9 l (bY l (h:=ah ?_))
   have x_:=ik a4 l;exact bH [0,1]
  refine aZ (aK l) aA (h:=cn (aK l) (aO 1) (h:=gS (aK l) (ae (a0.f2.length : Int)) (cP Tryz.underlying24 rfl) (h:=aZ (aK l) aA (h:=cn (aK l) (aO 1) (h:=aZ (aK l) aA (h:=cn (aK l) (aO 1) (h:=aZ (aK l) (jt rfl rfl) (h:=aZ (aK l) (dt rfl rfl) (h:=fZ (aK l) ?_)))))))))
  refine ah ?_
  have x_:=ij a4 ((aK l));exact bH [0,1]
 rintro e ds As a9
 refine bA (SA.of_St a9 fun junk=>?_)
 rcases bD H with⟨Z,H⟩|⟨Z,H⟩
 ·refine aD rfl Z (aP (ad aW (h:=cA ?_)))
  have h:=aN H;subst h
  exact dJ [0] ⟨rfl,rfl⟩
 refine aE rfl Z (ao (aa (ap (aP (ad aW (h:=bA ?_))))))
 obtain⟨b9,H,q⟩:=ac H
 refine bK (fun e ds As=>∃ (b8 : Unit),b9 = Out.go b8∧St [] [Buf bI 55 af ag a0.f2] e ds As) ?_ ?_
 ·refine aT (cl (fun k_ e ds As=>∃ (a : Int),fB.l0 a0 k_ a = some b9∧St [(1,aI s),(3,ae a)] [Buf bI 55 af ag a0.f2,aL s 26 [ae a0.f0,ae a0.f1,.slice af a0.f2.length ag]] e ds As) (k:=k) ⟨_,H,jQ [0,1]⟩ ?_)
  clear H
  rintro a5 e ds As ⟨a,H,b0⟩
  obtain _ | a5:=a5
  ·cases H
  rw [fB.l0] at H
  refine SA.of_St b0 fun junk=>ap (aP (ad ar (h:=ad aA (h:=bq (aO 1) (h:=bT (ae (a0.f2.length : Int)) (cP Tryz.underlying24 rfl) (h:=ad (cg rfl rfl) (h:=bA ?_)))))))
  rcases bD H with⟨a1,H⟩|⟨a1,H⟩
  ·refine aC rfl a1 (ao (aa (ap (aT (ap (aP (ad aA (h:=bq (aO 1) (h:=S' ar ?_)))))))))
   obtain⟨⟨b3,b4⟩,H⟩:=aS H
   refine bq (br (i:=a) Tryz.underlying24 ck rfl rfl (Src.buf (k:=0) rfl) b3 b4) (h:=l' (cf (enc:=cZ) (i:=a) (j:=a.toNat * 15) (m:=0) (sz:=15) (vs:=(bW (ba.mk ((rd a0.f2 a).f0) ((rd a0.f2 a).f1) ((rd a0.f2 a).f2) ((rd a0.f2 a).f3)))) Tryz.underlying55 rfl ck rfl rfl rfl (Src.buf (k:=0) rfl) b3 b4 (fun _ _ h=>h) rfl) ?_)
   obtain⟨gf,a6,H⟩:=ac H
   refine o' (da [] [0,1] (kA.ok a6) ?_)
   refine ad (bU rfl) (h:=bA ?_)
   rcases bD H with⟨a2,H⟩|⟨a2,H⟩
   ·refine aD rfl a2 (aP (ad aW (h:=cA (aY (aF (aF (aY (aF (aF ?_)))))))))
    have h:=aN H;subst h
    have hb_:=dz q
    have hr_:=Option.some.inj hb_
    clear hb_
    subst hr_
    exact dJ [0] ⟨rfl,rfl⟩
   refine aE rfl a2 (ao (aa (aP (ad ar (h:=ad aA (h:=l' (aO 1) ?_))))))
   obtain⟨c7,H⟩:=aS H
   refine bT (ae (a.tmod a0.f0)) (nj rfl rfl c7) (h:=ad (eN rfl rfl) (h:=S' ar ?_))
   obtain⟨b7,H,c5⟩:=ac H
   refine dy 9 [(1,aI s),(3,ae a),(54,.bool b7)] [Buf bI 55 af ag a0.f2,aL s 26 [ae a0.f0,ae a0.f1,.slice af a0.f2.length ag]] ?_ fun junk=>?_
   ·rcases bD H with⟨o,H⟩|⟨o,H⟩
    ·refine aZ (ai o) aA (h:=cn (ai o) (aO 1) (h:=aZ (ai o) ar (h:=Y' (ai o) (cV rfl rfl) ?_)))
     obtain⟨⟨b5,b6⟩,H⟩:=aS H
     refine cn (ai o) (br (i:=i64.wrap (a - 1)) Tryz.underlying24 ck rfl rfl (Src.buf (k:=0) rfl) b5 b6) (h:=gS (ai o) (.pointer (some ((el af ((i64.wrap (a - 1)).toNat * 15)).add 4))) (lL (el af ((i64.wrap (a - 1)).toNat * 15)) 0 4) (h:=cn (ai o) (bE (enc:=cZ) (i:=i64.wrap (a - 1)) (j:=(i64.wrap (a - 1)).toNat * 15) (m:=4) (sz:=15) Tryz.underlying5 rfl rfl rfl rfl (Src.buf (k:=0) rfl) b5 b6 (fun _ _ h=>h) rfl) (h:=aZ (ai o) (bk rfl rfl) (h:=gJ (ai o) ?_))))
     have h:=aN H;subst h
     exact dQ [0,1]
    refine ct 8 (al o) (fZ (al o) ?_)
    have h:=aN H;subst h
    exact dQ [0,1]
   replace H:=c5
   refine ad aW (h:=bA (ap (ap ?_)))
   obtain⟨c9,H,O⟩:=ac H
   refine bK (St [(1,aI s),(3,ae a),(82,.bool c9)] [Buf bI 55 af ag a0.f2,aL s 26 [ae a0.f0,ae a0.f1,.slice af a0.f2.length ag]]) ?_ ?_
   ·refine fg (dC 0 28) [0,1] [] fun _ _ _ _ _ sH dd pk=>?_
    refine bf 0 rfl sH aA (h:=bN 1 rfl sH (aO 1) (h:=T' 2 rfl sH ar ?_))
    obtain⟨⟨R,S⟩,H⟩:=aS H
    refine bN 3 rfl sH (br (i:=a) Tryz.underlying24 ck rfl rfl (Src.buf (k:=0) rfl) R S) (h:=kQ (.pointer (some ((el af (a.toNat * 15)).add 4))) 4 rfl sH (lL (el af (a.toNat * 15)) 0 4) (h:=bN 5 rfl sH (bE (enc:=cZ) (i:=a) (j:=a.toNat * 15) (m:=4) (sz:=15) Tryz.underlying5 rfl rfl rfl rfl (Src.buf (k:=0) rfl) R S (fun _ _ h=>h) rfl) (h:=bf 6 rfl sH (bk rfl rfl) (h:=bf 7 rfl sH ar (h:=kQ (.bool (decide ((decide (((rd a0.f2 a).f2) = 0)) ≠ b7))) 8 rfl sH (mR Tryz.underlying4 rfl rfl) (h:=T' 9 rfl sH ar ?_))))))
    rcases bD H with⟨d,H⟩|⟨d,H⟩
    ·refine bM 10 rfl (ai d) (bM 11 rfl (ai d) (cK 12 rfl (cK 13 rfl (cK 14 rfl (cK 15 rfl (cK 16 rfl (cK 17 rfl (cK 18 rfl (cK 19 rfl ?_)))))))))
     refine cK 20 rfl (cK 21 rfl (cK 22 rfl (cK 23 rfl (cK 24 rfl (cK 25 rfl (bM 26 rfl (ai d) (bN 27 rfl sH (VR.ofV (bR rfl (ai d) rfl)) (h:=aV dd sH (aH (by kernel_rfl) ?_)))))))))
     have h:=aN H;subst h
     exact bH [0,1]
    refine cU 10 rfl (al d) sH ar (h:=kT 11 rfl (al d) sH ar ?_)
    rcases bD H with⟨b,H⟩|⟨b,H⟩
    ·refine cU 12 rfl b sH aA (h:=cH 13 rfl b sH (aO 1) (h:=kT 14 rfl b sH ar ?_))
     obtain⟨⟨U,Y⟩,H⟩:=aS H
     refine cH 15 rfl b sH (br (i:=a) Tryz.underlying24 ck rfl rfl (Src.buf (k:=0) rfl) U Y) (h:=ib (.pointer (some ((el af (a.toNat * 15)).add 5))) 16 rfl b sH (lL (el af (a.toNat * 15)) 0 5) (h:=cH 17 rfl b sH (cf (enc:=cZ) (i:=a) (j:=a.toNat * 15) (m:=5) (sz:=15) (vs:=(bF ((rd a0.f2 a).f3))) Tryz.underlying28 rfl mf rfl rfl rfl (Src.buf (k:=0) rfl) U Y (fun _ _ h=>h) rfl) (h:=cU 18 rfl b sH aA (h:=cH 19 rfl b sH (aO 1) (h:=cU 20 rfl b sH ar (h:=kT 21 rfl b sH (cV rfl rfl) ?_))))))
     obtain⟨⟨E,F⟩,H⟩:=aS H
     refine cH 22 rfl b sH (br (i:=i64.wrap (a - 1)) Tryz.underlying24 ck rfl rfl (Src.buf (k:=0) rfl) E F) (h:=ib (.pointer (some ((el af ((i64.wrap (a - 1)).toNat * 15)).add 5))) 23 rfl b sH (lL (el af ((i64.wrap (a - 1)).toNat * 15)) 0 5) (h:=cH 24 rfl b sH (cf (enc:=cZ) (i:=i64.wrap (a - 1)) (j:=(i64.wrap (a - 1)).toNat * 15) (m:=5) (sz:=15) (vs:=(bF ((rd a0.f2 (i64.wrap (a - 1))).f3))) Tryz.underlying28 rfl mf rfl rfl rfl (Src.buf (k:=0) rfl) E F (fun _ _ h=>h) rfl) (h:=ib (.bool (decide (((rd a0.f2 a).f3) ≠ ((rd a0.f2 (i64.wrap (a - 1))).f3)))) 25 rfl b sH (jU (xs:=(bF ((rd a0.f2 a).f3))) (ys:=(bF ((rd a0.f2 (i64.wrap (a - 1))).f3))) (r:=(((((rd a0.f2 a).f3).f0) == (((rd a0.f2 (i64.wrap (a - 1))).f3).f0)) && (((((rd a0.f2 a).f3).f1) == (((rd a0.f2 (i64.wrap (a - 1))).f3).f1)) && (((((rd a0.f2 a).f3).f2) == (((rd a0.f2 (i64.wrap (a - 1))).f3).f2)) && (((((rd a0.f2 a).f3).f3) == (((rd a0.f2 (i64.wrap (a - 1))).f3).f3)) && (((((rd a0.f2 a).f3).f4) == (((rd a0.f2 (i64.wrap (a - 1))).f3).f4)) && (((((rd a0.f2 a).f3).f5) == (((rd a0.f2 (i64.wrap (a - 1))).f3).f5)) && (((((rd a0.f2 a).f3).f6) == (((rd a0.f2 (i64.wrap (a - 1))).f3).f6)) && (((((rd a0.f2 a).f3).f7) == (((rd a0.f2 (i64.wrap (a - 1))).f3).f7)) && (((((rd a0.f2 a).f3).f8) == (((rd a0.f2 (i64.wrap (a - 1))).f3).f8)) && (((((rd a0.f2 a).f3).f9) == (((rd a0.f2 (i64.wrap (a - 1))).f3).f9)) && true))))))))))) (p:=((rd a0.f2 a).f3) = ((rd a0.f2 (i64.wrap (a - 1))).f3)) lh rfl rfl (by kernel_rfl) (lj (x:=((rd a0.f2 a).f3)) (y:=((rd a0.f2 (i64.wrap (a - 1))).f3)))) (h:=cH 26 rfl (al d) sH (VR.ofV (bR rfl (b) rfl)) (h:=bN 27 rfl sH (VR.ofV (bL rfl (al d) rfl)) (h:=aV dd sH (aH (by kernel_rfl) ?_)))))))
     have h:=aN H;subst h
     exact bH [0,1]
    refine bM 12 rfl (aK b) (bM 13 rfl (aK b) (bM 14 rfl (aK b) (bM 15 rfl (aK b) (bM 16 rfl (aK b) (bM 17 rfl (aK b) (bM 18 rfl (aK b) (bM 19 rfl (aK b) (bM 20 rfl (aK b) (bM 21 rfl (aK b) ?_)))))))))
    refine bM 22 rfl (aK b) (bM 23 rfl (aK b) (bM 24 rfl (aK b) (bM 25 rfl (aK b) (cH 26 rfl (al d) sH (VR.ofV (bL rfl (aK b) rfl)) (h:=bN 27 rfl sH (VR.ofV (bL rfl (al d) rfl)) (h:=aV dd sH (aH (by kernel_rfl) ?_)))))))
    have h:=aN H;subst h
    exact bH [0,1]
   rintro e ds As L
   clear H
   have H:=O
   clear O
   refine aa (SA.of_St L fun junk=>?_)
   rcases bD H with⟨u,H⟩|⟨u,H⟩
   ·refine aD rfl u (aP (ad aW (h:=cA (aY (aF (aF (aY (aF (aF ?_)))))))))
    have h:=aN H;subst h
    have hb_:=dz q
    have hr_:=Option.some.inj hb_
    clear hb_
    subst hr_
    exact dJ [0] ⟨rfl,rfl⟩
   refine aE rfl u (ao (aa (ap ?_)))
   obtain⟨b1,H,B⟩:=ac H
   refine bK (St [(1,aI s),(3,ae a),(99,.bool b1)] [Buf bI 55 af ag a0.f2,aL s 26 [ae a0.f0,ae a0.f1,.slice af a0.f2.length ag]]) ?_ ?_
   ·refine fg (dC 0 17) [0,1] [] fun _ _ _ _ _ sH dd pk=>?_
    refine bf 0 rfl sH aA (h:=bN 1 rfl sH (aO 1) (h:=T' 2 rfl sH ar ?_))
    obtain⟨⟨I,J⟩,H⟩:=aS H
    refine bN 3 rfl sH (br (i:=a) Tryz.underlying24 ck rfl rfl (Src.buf (k:=0) rfl) I J) (h:=kQ (.pointer (some ((el af (a.toNat * 15)).add 4))) 4 rfl sH (lL (el af (a.toNat * 15)) 0 4) (h:=bN 5 rfl sH (bE (enc:=cZ) (i:=a) (j:=a.toNat * 15) (m:=4) (sz:=15) Tryz.underlying5 rfl rfl rfl rfl (Src.buf (k:=0) rfl) I J (fun _ _ h=>h) rfl) (h:=bf 6 rfl sH (bk rfl rfl) (h:=T' 7 rfl sH ar ?_))))
    rcases bD H with⟨c,H⟩|⟨c,H⟩
    ·refine cU 8 rfl (ai c) sH ar (h:=cU 9 rfl (ai c) sH aA (h:=xT 10 rfl (ai c) sH (aO 1) ?_))
     obtain⟨a8,H⟩:=aS H
     refine ib (ae (a.tmod a0.f0)) 11 rfl (ai c) sH (nj rfl rfl a8) (h:=cU 12 rfl (ai c) sH aA (h:=cH 13 rfl (ai c) sH (aO 1) (h:=cU 14 rfl (ai c) sH (cV rfl rfl) (h:=cU 15 rfl (ai c) sH (bk rfl rfl) (h:=bN 16 rfl sH (VR.ofV (bR rfl (ai c) rfl)) (h:=aV dd sH (aH (by kernel_rfl) ?_)))))))
     have h:=aN H;subst h
     exact bH [0,1]
    refine bM 8 rfl (al c) (bM 9 rfl (al c) (bM 10 rfl (al c) (bM 11 rfl (al c) (bM 12 rfl (al c) (bM 13 rfl (al c) (bM 14 rfl (al c) (bM 15 rfl (al c) (bN 16 rfl sH (VR.ofV (bL rfl (al c) rfl)) (h:=aV dd sH ?_)))))))))
    refine aH (by kernel_rfl) ?_
    have h:=aN H;subst h
    exact bH [0,1]
   rintro e ds As M
   clear H
   have H:=B
   clear B
   refine aa (SA.of_St M fun junk=>?_)
   rcases bD H with⟨z,H⟩|⟨z,H⟩
   ·refine aD rfl z (aP (ad aW (h:=cD (aY (aF (aF (aY (aF (aF ?_)))))))))
    have h:=aN H;subst h
    have hb_:=dz q
    have hr_:=Option.some.inj hb_
    clear hb_
    subst hr_
    exact dJ [0] ⟨rfl,rfl⟩
   refine aE rfl z (ao (aG (aa (ak (ad ar (h:=S' (bX rfl rfl) ?_))))))
   obtain⟨K,a3,H⟩:=bi H
   refine bT (ae K) (bu (v:=ae K) (congrArg (Value.int .i64) a3.symm)) (h:=ah ?_)
   exact aa ⟨a5,Nat.lt_succ_self _,_,H,eb [0,1]⟩
  refine aB rfl a1 (ci (aX (aX (cj ?_))))
  have h:=aN H;subst h
  exact aa ⟨(),rfl,eb [0]⟩
 rintro e ds As ⟨b8,ht,N⟩
 clear H
 subst ht
 replace q:=fi q
 have H:=q
 clear q
 refine aa (SA.of_St N fun junk=>aP (ad aW (h:=cD ?_)))
 have h:=aN H;subst h
 exact dJ [0] ⟨rfl,rfl⟩


def kX.f (a0 : bJ) (a1 : Int) (a2 : Int) (a3 : Bool) : Option (Bool):=lt ((decide (a1 ≥ 0)) && (decide (a1 < a0.f1))) fun c=>lt (c && (decide (a2 ≥ 0))) fun d=>lt (d && (decide (a2 < a0.f0))) fun a=>(if a = true then (if (!a3) = true then (some true) else (some (decide (a2 = (i64.wrap (a0.f0 - 1)))))) else (some false) : Option Bool).bind (fun b=>some (b))
theorem kX.ok {a0 : bJ} {a1 : Int} {a2 : Int} {a3 : Bool} {r : Bool} (H : kX.f a0 a1 a2 a3 = some r) : fU Tryz.prog 55 #[.agg #[ae a0.f0,ae a0.f1,.slice af a0.f2.length ag],ae a1,ae a2,.bool a3] [Buf bI 55 af ag a0.f2] (.bool r):=by
 refine aj Tryz.func55 rfl rfl ?_
 unfold kX.f at H
 refine aP (o' (bO (h:=fun l=>ad aW (h:=cR (ad ar (h:=ad (dU rfl rfl) (h:=S' ar ?_)))))))
 obtain⟨y,o,H⟩:=bi H
 refine dy 5 [(2,ae a2),(3,.bool a3),(4,aI l),(16,.bool y)] [Buf bI 55 af ag a0.f2,aL l 26 [ae a0.f0,ae a0.f1,.slice af a0.f2.length ag]] ?_ fun junk=>?_
 ·by_cases d : a1 ≥ 0
  ·refine aZ (ai d) ar (h:=aZ (ai d) aA (h:=cn (ai d) (aO 1) (h:=aZ (ai d) (cg rfl rfl) (h:=bY (ai d) (h:=ah ?_)))))
   have x_:=fq o ((ai d));exact bH [0,1]
  refine ct 4 (al d) (ca (al d) (h:=ah ?_))
  have x_:=fp o ((al d));exact bH [0,1]
 refine S' ar ?_
 obtain⟨z,p,H⟩:=bi H
 refine dy 3 [(2,ae a2),(3,.bool a3),(4,aI l),(20,.bool z)] [Buf bI 55 af ag a0.f2,aL l 26 [ae a0.f0,ae a0.f1,.slice af a0.f2.length ag]] ?_ fun junk=>?_
 ·by_cases j : y = true
  ·refine aZ j ar (h:=aZ j (dU rfl rfl) (h:=bY j (h:=ah ?_)))
   have x_:=fq p j;exact bH [0,1]
  refine ct 2 (aK j) (ca (aK j) (h:=ah ?_))
  have x_:=fp p ((aK j));exact bH [0,1]
 refine S' ar ?_
 obtain⟨s,m,H⟩:=bi H
 refine dy 5 [(2,ae a2),(3,.bool a3),(4,aI l),(26,.bool s)] [Buf bI 55 af ag a0.f2,aL l 26 [ae a0.f0,ae a0.f1,.slice af a0.f2.length ag]] ?_ fun junk=>?_
 ·by_cases b : z = true
  ·refine aZ b ar (h:=aZ b aA (h:=cn b (aO 1) (h:=aZ b (cg rfl rfl) (h:=bY b (h:=ah ?_)))))
   have x_:=fq m b;exact bH [0,1]
  refine ct 4 (aK b) (ca (aK b) (h:=ah ?_))
  have x_:=fp m ((aK b));exact bH [0,1]
 refine S' ar ?_
 obtain⟨u,H,q⟩:=ac H
 refine dy 10 [(37,.bool u)] [Buf bI 55 af ag a0.f2] ?_ fun junk=>?_
 ·rcases bD H with⟨a,H⟩|⟨a,H⟩
  ·refine aZ a ar (h:=aZ a (bU rfl) (h:=Y' a ar ?_))
   rcases bD H with⟨c,H⟩|⟨c,H⟩
   ·refine ct 5 c (fR a (dB rfl (bR rfl (c) rfl) (gJ a ?_)))
    have h:=aN H;subst h
    exact dQ [0]
   refine aZ (aK c) ar (h:=aZ (aK c) aA (h:=cn (aK c) (aO 1) (h:=aZ (aK c) (cV rfl rfl) (h:=aZ (aK c) (bk rfl rfl) (h:=fR a (dB rfl (bL rfl (aK c) rfl) (gJ a ?_)))))))
   have h:=aN H;subst h
   exact dQ [0]
  refine ct 3 (aK a) (fY (fY (fY (fY (fY (ct 1 (aK a) (fZ (aK a) ?_)))))))
  have h:=aN H;subst h
  exact dQ [0]
 replace H:=q
 refine ad aW (h:=cD ?_)
 have h:=aN H;subst h
 exact dJ [0] ⟨rfl,rfl⟩

end Go.Proofs.YtckilbegmbaeeaaGreat.Z7

/- What functions compute, and that they do: 102b0, 103b0b4, 104. -/
import Derived.Test.YtckilbegmbaeeaaGreatZ320
import Derived.Test.YtckilbegmbaeeaaGreatZ322
namespace Go.Proofs.YtckilbegmbaeeaaGreat.Z3
open Go Go.RowKit Go.Proofs.YtckilbegmbaeeaaGreat.SL
open Go.IntKind (i64)
set_option linter.unusedVariables false
set_option maxHeartbeats 20000000
set_option maxRecDepth 100000
set_option linter.unusedSimpArgs false
attribute [local irreducible] IntKind.wrap cC dO eX gp gl lH fU cN gm rd sub bytesOf eG cL
variable {af k : Nat}
variable {ag : Option Addr}
def fx.l0 (a0 : bF) (a1 : Int) (a2 : Int) (a3 : Int) (a4 : cA) (r18 : bF) : Nat → Int → (List aZ) → Option ((List aZ))
  | 0,_,_=>none
  | k + 1,a,b=>if b.length = r18.f2.length then (if a < a0.f0 then ((pN.f a4).bind (fun l=>lt ((decide (a3 ≥ (i64.wrap (0 - a0.f0)))) && (decide (a3 ≤ a0.f0))) fun m=>lt (m && (decide ((i64.wrap (a - a3)) ≥ a2))) fun o=>lt (o && (decide ((i64.wrap (a - a3)) < a0.f0))) fun p=>(if p = true then ((dk.f a0 a1).bind (fun c=>if (0 ≤ c.1∧0 ≤ c.2∧c.1 + c.2 ≤ (a0.f2.length : Int)) then (if 0 ≤ (i64.wrap (a - a3))∧(i64.wrap (a - a3)) < c.2 then (some (aZ.mk ((rd a0.f2 (c.1 + (i64.wrap (a - a3)))).f0) ((rd a0.f2 (c.1 + (i64.wrap (a - a3)))).f1) ((rd a0.f2 (c.1 + (i64.wrap (a - a3)))).f2) ((rd a0.f2 (c.1 + (i64.wrap (a - a3)))).f3))) else none) else none)) else (some l) : Option (aZ)).bind (fun q=>(dk.f (bF.mk r18.f0 r18.f1 b) a1).bind (fun d=>if (0 ≤ d.1∧0 ≤ d.2∧d.1 + d.2 ≤ (b.length : Int)) then (if 0 ≤ a∧a < d.2 then (lt (b.set (d.1 + a).toNat q) fun h=>(lt (i64.wrap (a + 1)) fun j=>fx.l0 a0 a1 a2 a3 a4 r18 k j h)) else none) else none)))) else (some b)) else none
def fx.f (k : Nat) (a0 : bF) (a1 : Int) (a2 : Int) (a3 : Int) (a4 : cA) : Option (bF × Int):=(ik.f k a0 a4 a1).bind (fun l=>lt (l || (decide (a2 < 0))) fun h=>lt (h || (decide (a2 ≥ a0.f0))) fun j=>if j = true then (some (((bF.mk 0 0 ([] : (List aZ))),2))) else ((iQ.f a0).bind (fun b=>(fx.l0 a0 a1 a2 a3 a4 b k a2 b.f2 : Option ((List aZ))).bind (fun c=>if c.length = b.f2.length then ((dk.f (bF.mk b.f0 b.f1 c) a1).bind (fun a=>if (0 ≤ a.1∧0 ≤ a.2∧a.1 + a.2 ≤ (c.length : Int)) then ((eD.f k c a.1 a.2).bind (fun d=>if d.length = c.length then (some (((bF.mk b.f0 b.f1 d),0))) else none)) else none)) else none))))
theorem fx.ok {a0 : bF} {a1 : Int} {a2 : Int} {a3 : Int} {a4 : cA} {r : bF × Int} (H : fx.f k a0 a1 a2 a3 a4 = some r) : df Tryz.prog 102 #[.agg #[ae a0.f0,ae a0.f1,.slice ag a0.f2.length af],ae a1,ae a2,ae a3,.agg (bG a4).toArray] [Buf bE 55 ag af a0.f2] (fun v B=>∃ aP aO,v = .tuple #[.agg #[ae r.1.f0,ae r.1.f1,.slice aP r.1.f2.length aO],ae r.2]∧B = [Buf bE 55 aP aO r.1.f2,Buf bE 55 ag af a0.f2]):=by
 refine ai Tryz.func102 rfl rfl ?_
 unfold fx.f at H
 refine aQ (o' (bN (h:=fun u=>o' (bN (h:=fun E=>o' (cy (h:=fun s=>ad aV (h:=bC (ao (ao (bj 0 fun g7=>ah (bD (cG u 0 1 [ae a0.f0,ae a0.f1,.slice ag a0.f2.length af]) (h:=l' (ck 2) ?_)))))))))))))
 refine S' ax ?_
 obtain⟨r9,d5,H⟩:=ac H
 refine o' (da [0] [1,2,3] (ik.ok d5) ?_)
 refine S' ax ?_
 obtain⟨d2,S,H⟩:=br H
 refine eg 3 [(1,ae a1),(2,ae a2),(3,ae a3),(5,aK u),(9,aK E),(10,aK s),(22,.bool d2)] [Buf bE 55 ag af a0.f2,aL u 26 [ae a0.f0,ae a0.f1,.slice ag a0.f2.length af],aL E 28 (bG a4),aL s 26 [ae 0,ae 0,.slice none 0 0]] ?_ fun junk=>?_
 ·by_cases K : r9 = true
  ·refine cI 2 K (cq K (h:=aj ?_))
   have x_:=jL S K;exact bM [0,1,2,3]
  refine bn (aX K) ax (h:=bn (aX K) (cn rfl rfl) (h:=cv (aX K) (h:=aj ?_)))
  have x_:=jN S ((aX K));exact bM [0,1,2,3]
 refine S' ax ?_
 obtain⟨e9,U,H⟩:=br H
 refine cD 5 (St [(1,ae a1),(2,ae a2),(3,ae a3),(5,aK u),(9,aK E),(10,aK s),(28,.bool e9)] [Buf bE 55 ag af a0.f2,aL u 26 [ae a0.f0,ae a0.f1,.slice ag a0.f2.length af],aL E 28 (bG a4),aL s 26 [ae 0,ae 0,.slice none 0 0]]) ?_ ?_
 ·by_cases F : d2 = true
  ·refine cI 4 F (cq F (h:=aj ?_))
   have x_:=jL U F;exact bM [0,1,2,3]
  refine bn (aX F) ax (h:=bn (aX F) aE (h:=dc (aX F) (aT 1) (h:=bn (aX F) (dI rfl rfl) (h:=cv (aX F) (h:=aj ?_)))))
  have x_:=jN U ((aX F));exact bM [0,1,2,3]
 rintro e ds As b9
 refine bC (SA.of_St b9 fun junk=>?_)
 rcases bH H with⟨Y,H⟩|⟨Y,H⟩
 ·refine aC rfl Y (aQ (bO (.agg #[ae 0,ae 0,.slice none 0 0]) dA (h:=o' (bg s 0 3 [ae 0,ae 0,.slice none 0 0] (h:=ad aV (h:=cE ?_))))))
  have h:=aN H;subst h
  exact lT [.cell 10 26,.tmp 11] ((Gh.nilBuf bE 55).trans (eY [4,0])) ⟨none,0,rfl,rfl⟩ ⟨cR 3,cP,trivial⟩
 refine aD rfl Y (ap (aa (aQ (l' (cG u 0 1 [ae a0.f0,ae a0.f1,.slice ag a0.f2.length af]) ?_))))
 obtain⟨c,d6,H⟩:=ac H
 refine o' (gu [0] [1,2,3] (iQ.ok d6) fun d o=>?_)
 refine o' (cy (h:=fun p=>o' (bg p 0 5 [ae c.f0,ae c.f1,.slice d c.f2.length o] (h:=eJ (ad ax (h:=ad aV (h:=bC ?_)))))))
 obtain⟨L,H,Z⟩:=ac H
 refine bI (St [(1,ae a1),(10,aK s),(12,aK p)] [Buf bE 55 ag af a0.f2,aL s 26 [ae 0,ae 0,.slice none 0 0],aL p 26 [ae c.f0,ae c.f1,.slice d L.length o],Buf bE 55 d o L]) ?_ ?_
 ·refine aU (cw (fun k_ e ds As=>∃ (a : Int) (b : (List aZ)),fx.l0 a0 a1 a2 a3 a4 c k_ a b = some L∧St [(1,ae a1),(2,ae a2),(3,ae a3),(5,aK u),(9,aK E),(10,aK s),(12,aK p),(13,ae a)] [Buf bE 55 ag af a0.f2,aL u 26 [ae a0.f0,ae a0.f1,.slice ag a0.f2.length af],aL E 28 (bG a4),aL s 26 [ae 0,ae 0,.slice none 0 0],aL p 26 [ae c.f0,ae c.f1,.slice d b.length o],Buf bE 55 d o b] e ds As) (k:=k) ⟨_,_,H,kW [1,2,3,4,5,0]⟩ ?_)
  clear H
  rintro a5 e ds As ⟨a,b,H,c5⟩
  obtain _ | a5:=a5
  ·cases H
  rw [fx.l0] at H
  obtain⟨g0,H⟩:=aR H
  refine SA.of_St c5 fun junk=>ao (aQ (ad ax (h:=ad aE (h:=bD (aT 1) (h:=ad (cn rfl rfl) (h:=bC ?_))))))
  rcases bH H with⟨a6,H⟩|⟨a6,H⟩
  ·refine aB rfl a6 (ap (aa (ao (aU (aQ (l' (ck 2) ?_))))))
   obtain⟨M,d7,H⟩:=ac H
   refine o' (da [] [0,1,2,3,4,5] (pN.ok d7) ?_)
   refine o' (cy (h:=fun z=>o' (bg z 0 6 (bR M) (h:=eJ (ad ax (h:=ad aE (h:=bD (aT 1) (h:=bO (ae (i64.wrap (0 - a0.f0))) (ms rfl) (h:=ad (dI rfl rfl) (h:=S' ax ?_))))))))))
   obtain⟨d3,a7,H⟩:=br H
   refine eg 5 [(1,ae a1),(2,ae a2),(3,ae a3),(5,aK u),(9,aK E),(10,aK s),(12,aK p),(13,ae a),(14,aK z),(51,.bool d3)] [Buf bE 55 ag af a0.f2,aL u 26 [ae a0.f0,ae a0.f1,.slice ag a0.f2.length af],aL E 28 (bG a4),aL s 26 [ae 0,ae 0,.slice none 0 0],aL p 26 [ae c.f0,ae c.f1,.slice d b.length o],Buf bE 55 d o b,aL z 55 (bR M)] ?_ fun junk=>?_
   ·by_cases I : a3 ≥ (i64.wrap (0 - a0.f0))
    ·refine bn (ak I) ax (h:=bn (ak I) aE (h:=dc (ak I) (aT 1) (h:=bn (ak I) (fV rfl rfl) (h:=cq (ak I) (h:=aj ?_)))))
     have x_:=gD a7 ((ak I));exact bM [0,1,2,3,4,5,6]
    refine cI 4 (am I) (cv (am I) (h:=aj ?_))
    have x_:=gC a7 ((am I));exact bM [0,1,2,3,4,5,6]
   refine S' ax ?_
   obtain⟨d4,a8,H⟩:=br H
   refine eg 6 [(1,ae a1),(2,ae a2),(3,ae a3),(5,aK u),(9,aK E),(10,aK s),(12,aK p),(13,ae a),(14,aK z),(58,.bool d4)] [Buf bE 55 ag af a0.f2,aL u 26 [ae a0.f0,ae a0.f1,.slice ag a0.f2.length af],aL E 28 (bG a4),aL s 26 [ae 0,ae 0,.slice none 0 0],aL p 26 [ae c.f0,ae c.f1,.slice d b.length o],Buf bE 55 d o b,aL z 55 (bR M)] ?_ fun junk=>?_
   ·by_cases D : d3 = true
    ·refine bn D ax (h:=bn D ax (h:=bn D (cY rfl rfl) (h:=bn D ax (h:=bn D (dI rfl rfl) (h:=cq D (h:=aj ?_))))))
     have x_:=gD a8 D;exact bM [0,1,2,3,4,5,6]
    refine cI 5 (aX D) (cv (aX D) (h:=aj ?_))
    have x_:=gC a8 ((aX D));exact bM [0,1,2,3,4,5,6]
   refine S' ax ?_
   obtain⟨f4,a9,H⟩:=br H
   refine cD 7 (St [(1,ae a1),(2,ae a2),(3,ae a3),(5,aK u),(9,aK E),(10,aK s),(12,aK p),(13,ae a),(14,aK z),(66,.bool f4)] [Buf bE 55 ag af a0.f2,aL u 26 [ae a0.f0,ae a0.f1,.slice ag a0.f2.length af],aL E 28 (bG a4),aL s 26 [ae 0,ae 0,.slice none 0 0],aL p 26 [ae c.f0,ae c.f1,.slice d b.length o],Buf bE 55 d o b,aL z 55 (bR M)]) ?_ ?_
   ·by_cases y : d4 = true
    ·refine bn y ax (h:=bn y ax (h:=bn y (cY rfl rfl) (h:=bn y aE (h:=dc y (aT 1) (h:=bn y (cn rfl rfl) (h:=cq y (h:=aj ?_)))))))
     have x_:=gD a9 y;exact bM [0,1,2,3,4,5,6]
    refine cI 6 (aX y) (cv (aX y) (h:=aj ?_))
    have x_:=gC a9 ((aX y));exact bM [0,1,2,3,4,5,6]
   rintro e ds As c6
   refine bC (SA.of_St c6 fun junk=>?_)
   obtain⟨N,H,b0⟩:=ac H
   refine bI (fun e ds As=>∃ (O : Nat),St [(1,ae a1),(2,ae a2),(3,ae a3),(5,aK u),(9,aK E),(10,aK s),(12,aK p),(13,ae a),(14,aK O)] [aL O 55 (bR N),Buf bE 55 ag af a0.f2,aL u 26 [ae a0.f0,ae a0.f1,.slice ag a0.f2.length af],aL E 28 (bG a4),aL s 26 [ae 0,ae 0,.slice none 0 0],aL p 26 [ae c.f0,ae c.f1,.slice d b.length o],Buf bE 55 d o b] e ds As) ?_ ?_
   ·rcases bH H with⟨b1,H⟩|⟨b1,H⟩
    ·refine aC rfl b1 (bj 5 fun g3=>ah (bD (cG u 0 1 [ae a0.f0,ae a0.f1,.slice ag a0.f2.length af]) (h:=S' ax ?_)))
     obtain⟨q,f5,H⟩:=ac H
     obtain⟨⟨hl48a,hl48b,hl48c⟩,H⟩:=aR H
     refine o' (mC [0] [1,2,3,4,5,6] (dk.ok f5) ?_)
     rintro _ _⟨g8,g9,d8,rfl,rfl⟩
     refine ad ax (h:=ad ax (h:=S' (cY rfl rfl) ?_))
     obtain⟨⟨f6,f7⟩,H⟩:=aR H
     have f8 : 0 ≤ q.1 + (i64.wrap (a - a3)):=by omega
     have f9 : q.1 + (i64.wrap (a - a3)) < (a0.f2.length : Int):=by omega
     refine bD (eI (l:=q.1) (m:=q.2) (i:=i64.wrap (a - a3)) (sz:=15) d8 Tryz.underlying24 cl rfl rfl (Src.buf (k:=0) rfl) f6 f7 (by omega)) (h:=bD (cj (enc:=di) (i:=q.1 + (i64.wrap (a - a3))) (j:=(q.1 + (i64.wrap (a - a3))).toNat * 15) (m:=0) (sz:=15) (vs:=(bR (aZ.mk ((rd a0.f2 (q.1 + (i64.wrap (a - a3)))).f0) ((rd a0.f2 (q.1 + (i64.wrap (a - a3)))).f1) ((rd a0.f2 (q.1 + (i64.wrap (a - a3)))).f2) ((rd a0.f2 (q.1 + (i64.wrap (a - a3)))).f3)))) Tryz.underlying55 rfl cl rfl rfl rfl (Src.buf (k:=0) rfl) f8 f9 (fun _ _ h=>h) rfl) (h:=o' (bg z 0 6 (bR (aZ.mk ((rd a0.f2 (q.1 + (i64.wrap (a - a3)))).f0) ((rd a0.f2 (q.1 + (i64.wrap (a - a3)))).f1) ((rd a0.f2 (q.1 + (i64.wrap (a - a3)))).f2) ((rd a0.f2 (q.1 + (i64.wrap (a - a3)))).f3))) (h:=aj ?_))))
     have h:=aN H;subst h
     exact aa ⟨z,ed [6,0,1,2,3,4,5]⟩
    refine aD rfl b1 (ap ?_)
    have h:=aN H;subst h
    exact aa ⟨z,ed [6,0,1,2,3,4,5]⟩
   rintro e ds As ⟨O,c7⟩
   clear H
   have H:=b0
   clear b0
   refine aa (SA.of_St c7 fun junk=>bj 6 fun g4=>?_)
   refine fN [0,1,3,4,5] #[[],[],[0,1],[],[],[0,1,3,4],[0,1,3,4,5]] [aL O 55 (bR N),aL p 26 [ae c.f0,ae c.f1,.slice d b.length o],Buf bE 55 d o b] jy (bP.inb (bP.thn (bP.thn (bP.inb (bP.thn (bP.thn bP.body)))))) fun I0 h0 w0 pk=>?_
   refine gY 0 [0,5,6] rfl (cG p 0 1 [ae c.f0,ae c.f1,.slice d b.length o]) (h:=eb (ae a1) 1 [0,5,6] rfl fM (h:=eb (ae a) 3 [0,5,6] rfl fM (h:=sA 4 [0,5,6] rfl (ck 0) ?_)))
   obtain⟨J,d9,H⟩:=ac H
   obtain⟨⟨hl180a,hl180b,hl180c⟩,H⟩:=aR H
   refine eU 2 (by kernel_rfl) rfl (.no rfl) (mC [6] [0,1,2,3,4,5] (dk.ok d9) ?_)
   rintro _ _⟨g5,g6,c8,rfl,rfl⟩
   refine ⟨fun _=>⟨[1,6,0],rfl,rfl⟩,?_⟩
   obtain⟨⟨e0,e1⟩,H⟩:=aR H
   have e2 : 0 ≤ J.1 + a:=by omega
   have e3 : J.1 + a < (b.length : Int):=by omega
   refine sA 5 [1,6,0] rfl (eI (l:=J.1) (m:=J.2) (i:=a) (sz:=15) c8 Tryz.underlying24 cl rfl rfl (Src.buf (k:=2) rfl) e0 e1 (by omega)) ?_
   obtain⟨e4,R,H⟩:=br H
   have hl_n416 : e4.length = b.length:=by rw [R]; exact List.length_set
   refine eU 6 (by kernel_rfl) rfl (.no rfl) (iB (k:=0) (i:=J.1 + a) (j:=(J.1 + a).toNat * 15) (m:=0) (sz:=15) (xs:=b) (vs:=(bR N)) N rfl rfl rfl rfl rfl rfl rfl rfl cl e2 e3 rfl (fun _ _ h_=>by subst h_; rfl) ?_)
   rewrite [← R]
   try unfold bG
   try rewrite [← hl_n416]
   refine ⟨fun h_=>absurd h_ (by decide),?_⟩
   refine aH (by kernel_rfl) (aF (aa (ah (ad ax (h:=S' (bV rfl rfl) ?_)))))
   obtain⟨b3,c9,H⟩:=br H
   refine bO (ae b3) (bz (v:=ae b3) (congrArg (Value.int .i64) c9.symm)) (h:=aj ?_)
   exact aa ⟨a5,Nat.lt_succ_self _,_,_,H,ed [2,3,4,5,6,0]⟩
  refine aA rfl a6 (ct (bc (bc (cr ?_))))
  have h:=aN H;subst h
  exact bM [0,3,4,5]
 rintro e ds As b5
 clear H
 have H:=Z
 clear Z
 obtain⟨g1,H⟩:=aR H
 refine aa (SA.of_St b5 fun junk=>ao (bj 3 fun g2=>ah (bD (cG p 0 2 [ae c.f0,ae c.f1,.slice d L.length o]) (h:=S' ax ?_))))
 obtain⟨b7,e5,H⟩:=ac H
 obtain⟨⟨hl486a,hl486b,hl486c⟩,H⟩:=aR H
 refine o' (mC [3] [0,1,2] (dk.ok e5) ?_)
 rintro _ _⟨e6,e7,d0,rfl,rfl⟩
 obtain⟨b8,e8,H⟩:=ac H
 obtain⟨d1,H⟩:=aR H
 refine o' (da [0] [1,2,3] (eD.ok (o0:=b7.1) (n0:=b7.2) (A0:=d) (c0:=o) (V0:=e6) (v0:=e7) (hw0:=d0) e8) ?_)
 try unfold bG
 try rewrite [← d1]
 refine cV (bD (cG p 0 3 [ae c.f0,ae c.f1,.slice d b8.length o]) (h:=o' (bg s 0 2 [ae c.f0,ae c.f1,.slice d b8.length o] (h:=ad aV (h:=cF ?_)))))
 have h:=aN H;subst h
 exact dt [.cell 10 26,.tmp 11] [0,1] ⟨d,o,rfl,rfl⟩ ⟨cR 2,cP,trivial⟩


def qe.f (k : Nat) (a0 : Int) (a1 : cA) : Option ((List aZ)):=(rt.f k a0).bind (fun a=>if a = 1 then (some (([(aZ.mk a0 (fR.mk 0 0 0) 1 a1)] : (List aZ)))) else (if a = 2 then (some (([(aZ.mk a0 (fR.mk 0 0 0) 2 a1),(aZ.mk 0 (fR.mk 0 0 0) 0 a1)] : (List aZ)))) else (some (([] : (List aZ))))))
theorem qe.ok {a0 : Int} {a1 : cA} {r : (List aZ)} (H : qe.f k a0 a1 = some r) : df Tryz.prog 104 #[aJ a0,.agg (bG a1).toArray] [] (fun v B=>∃ aP aO,v = .slice aP r.length aO∧B = [Buf bE 55 aP aO r]):=by
 refine ai Tryz.func104 rfl rfl ?_
 unfold qe.f at H
 refine aQ (o' (bN (h:=fun l=>ad aV (h:=eJ (S' ax ?_)))))
 obtain⟨m,c,H⟩:=ac H
 refine o' (da [] [0] (rt.ok c) ?_)
 refine bC (aU (aQ (ad (bk rfl rfl) (h:=ad aV (h:=bC ?_)))))
 rcases bH H with⟨a,H⟩|⟨a,H⟩
 ·refine aB rfl a (aQ (ad ax (h:=bD (ck 0) (h:=bO (.agg (bR (aZ.mk a0 (fR.mk 0 0 0) 1 a1)).toArray) dA (h:=o' (hU (kd:=bE) (zv:=(.agg (bR lP).toArray)) (sz:=15) (cells:=(bR (aZ.mk a0 (fR.mk 0 0 0) 1 a1))) (xs:=([(aZ.mk a0 (fR.mk 0 0 0) 1 a1)] : (List aZ))) rfl Tryz.underlying24 jX cl rfl rfl rfl (by kernel_rfl) rfl rfl (dL di (fun _ _=>rfl) (by kernel_rfl)) fun d=>ad aV (h:=cF (bi (aI ?_)))))))))
  have h:=aN H;subst h
  exact er [1] ⟨some ⟨d,0,none⟩,1,rfl,rfl⟩
 refine aA rfl a (aQ (ad (bk rfl rfl) (h:=ad aV (h:=bC ?_))))
 rcases bH H with⟨b,H⟩|⟨b,H⟩
 ·refine aB rfl b (aQ (ad ax (h:=bD (ck 0) (h:=bO (.agg (bR (aZ.mk a0 (fR.mk 0 0 0) 2 a1)).toArray) dA (h:=bD (ck 0) (h:=bO (.agg (bR (aZ.mk 0 (fR.mk 0 0 0) 0 a1)).toArray) dA (h:=o' (hU (kd:=bE) (zv:=(.agg (bR lP).toArray)) (sz:=15) (cells:=(aJ a0::aJ 0::aJ 0::aJ 0::.int .u8 2::ae a1.f0::ae a1.f1::.bool a1.f2::.bool a1.f3::.bool a1.f4::.bool a1.f5::.bool a1.f6::.bool a1.f7::.bool a1.f8::.bool a1.f9::aJ 0::aJ 0::aJ 0::aJ 0::.int .u8 0::ae a1.f0::ae a1.f1::.bool a1.f2::.bool a1.f3::.bool a1.f4::.bool a1.f5::.bool a1.f6::.bool a1.f7::.bool a1.f8::.bool a1.f9::[])) (xs:=([(aZ.mk a0 (fR.mk 0 0 0) 2 a1),(aZ.mk 0 (fR.mk 0 0 0) 0 a1)] : (List aZ))) rfl Tryz.underlying24 jX cl rfl rfl rfl (by kernel_rfl) rfl rfl (dL di (fun _ _=>rfl) (by kernel_rfl)) fun j=>ad aV (h:=cF (bi (aI ?_)))))))))))
  have h:=aN H;subst h
  exact er [1] ⟨some ⟨j,0,none⟩,2,rfl,rfl⟩
 refine aA rfl b (ap (aF (aa (aQ (ad aV (h:=cF ?_))))))
 have h:=aN H;subst h
 exact mq [Buf bE 55 none 0 ([] : (List aZ))] rfl rfl ((Gh.nilBuf bE 55).trans (eY [1])) ⟨none,0,rfl,rfl⟩


def eL.l0 (l4 : (List aZ)) : Nat → bF → Int → Option (Out (bF × Int) (bF))
  | 0,_,_=>none
  | k + 1,b,a=>if a < (l4.length : Int) then (if 0 ≤ a∧a < (l4.length : Int) then ((kU.f k (rd l4 a)).bind (fun c=>if (!c) = true then (some (Out.ret (((bF.mk 0 0 ([] : (List aZ))),2)))) else (lt (i64.wrap (a + 1)) fun n39=>eL.l0 l4 k b n39))) else none) else (some (Out.go b))
def eL.f (k : Nat) (a0 : bF) (a1 : Int) (a2 : Int) (a3 : cA) (l4 : (List aZ)) : Option (bF × Int):=(ik.f k a0 a3 a1).bind (fun h=>lt (h || (decide (a2 < 0))) fun j=>lt (j || (decide (a2 ≥ a0.f0))) fun l=>if l = true then (some (((bF.mk 0 0 ([] : (List aZ))),2))) else ((eL.l0 l4 k (bF.mk 0 0 ([] : (List aZ))) 0 : Option (Out (bF × Int) (bF))).bind (fun m=>Out.el m (fun r_=>some r_) (fun o=>(iQ.f a0).bind (fun b=>(dk.f b a1).bind (fun a=>if (0 ≤ a.1∧0 ≤ a.2∧a.1 + a.2 ≤ (b.f2.length : Int)) then (if 0 ≤ a2∧a2 ≤ a.2∧a.2 ≤ a.2 then (lt (bo b.f2 (a.1 + a2).toNat (l4.take (a.2 - a2).toNat)) fun n61=>((dk.f (bF.mk b.f0 b.f1 n61) a1).bind (fun c=>if (0 ≤ c.1∧0 ≤ c.2∧c.1 + c.2 ≤ (n61.length : Int)) then ((eD.f k n61 c.1 c.2).bind (fun d=>if d.length = n61.length then (some (((bF.mk b.f0 b.f1 d),0))) else none)) else none))) else none) else none))))))
theorem eL.ok {a0 : bF} {a1 : Int} {a2 : Int} {a3 : cA} {l4 : (List aZ)} {A4 : Option Addr} {c4 : Nat} {r : bF × Int} (H : eL.f k a0 a1 a2 a3 l4 = some r) : df Tryz.prog 103 #[.agg #[ae a0.f0,ae a0.f1,.slice ag a0.f2.length af],ae a1,ae a2,.agg (bG a3).toArray,.slice A4 l4.length c4] [Buf bE 55 ag af a0.f2,Buf bE 55 A4 c4 l4] (fun v B=>∃ aP aO,v = .tuple #[.agg #[ae r.1.f0,ae r.1.f1,.slice aP r.1.f2.length aO],ae r.2]∧B = [Buf bE 55 aP aO r.1.f2,Buf bE 55 ag af a0.f2,Buf bE 55 A4 c4 l4]):=by
 refine ai Tryz.func103 rfl rfl ?_
 unfold eL.f at H
 refine aQ (o' (bN (h:=fun E=>o' (bN (h:=fun b5=>o' (cy (h:=fun O=>ad aV (h:=bC (ao (ao (bj 0 fun e6=>bj 1 fun e3=>ah (l' (cG E 0 2 [ae a0.f0,ae a0.f1,.slice ag a0.f2.length af]) ?_))))))))))))
 refine bD (ck 3) (h:=S' ax ?_)
 obtain⟨d3,d4,H⟩:=ac H
 refine o' (da [0] [1,2,3,4] (ik.ok d4) ?_)
 refine S' ax ?_
 obtain⟨b1,R,H⟩:=br H
 refine eg 3 [(1,ae a1),(2,ae a2),(4,.slice A4 l4.length c4),(5,aK E),(10,aK O),(21,.bool b1)] [Buf bE 55 A4 c4 l4,Buf bE 55 ag af a0.f2,aL E 26 [ae a0.f0,ae a0.f1,.slice ag a0.f2.length af],aL O 26 [ae 0,ae 0,.slice none 0 0]] ?_ fun junk=>?_
 ·by_cases y : d3 = true
  ·refine cI 2 y (cq y (h:=aj ?_))
   have x_:=jL R y;exact bM [1,0,2,4]
  refine bn (aX y) ax (h:=bn (aX y) (cn rfl rfl) (h:=cv (aX y) (h:=aj ?_)))
  have x_:=jN R ((aX y));exact bM [1,0,2,4]
 refine S' ax ?_
 obtain⟨d5,S,H⟩:=br H
 refine cD 5 (St [(1,ae a1),(2,ae a2),(4,.slice A4 l4.length c4),(5,aK E),(10,aK O),(27,.bool d5)] [Buf bE 55 A4 c4 l4,Buf bE 55 ag af a0.f2,aL E 26 [ae a0.f0,ae a0.f1,.slice ag a0.f2.length af],aL O 26 [ae 0,ae 0,.slice none 0 0]]) ?_ ?_
 ·by_cases p : b1 = true
  ·refine cI 4 p (cq p (h:=aj ?_))
   have x_:=jL S p;exact bM [0,1,2,3]
  refine bn (aX p) ax (h:=bn (aX p) aE (h:=dc (aX p) (aT 2) (h:=bn (aX p) (dI rfl rfl) (h:=cv (aX p) (h:=aj ?_)))))
  have x_:=jN S ((aX p));exact bM [0,1,2,3]
 rintro e ds As a8
 refine bC (SA.of_St a8 fun junk=>?_)
 rcases bH H with⟨U,H⟩|⟨U,H⟩
 ·refine aC rfl U (aQ (bO (.agg #[ae 0,ae 0,.slice none 0 0]) dA (h:=o' (bg O 0 3 [ae 0,ae 0,.slice none 0 0] (h:=ad aV (h:=cE ?_))))))
  have h:=aN H;subst h
  exact lT [.cell 10 26,.tmp 11] ((Gh.nilBuf bE 55).trans (eY [4,1,0])) ⟨none,0,rfl,rfl⟩ ⟨cR 3,cP,trivial⟩
 refine aD rfl U (ap (aa (ao (aQ (ad aV (h:=bC ?_))))))
 obtain⟨b2,H,z⟩:=ac H
 refine bI (fun e ds As=>∃ (F : bF),b2 = Out.go F∧∃ (M : Nat),∃ (Y : Option Addr) (Z : Nat),St [(1,ae a1),(2,ae a2),(4,.slice A4 l4.length c4),(5,aK E),(10,aK M)] [aL M 26 [ae F.f0,ae F.f1,.slice Y F.f2.length Z],Buf bE 55 Y Z F.f2,Buf bE 55 A4 c4 l4,Buf bE 55 ag af a0.f2,aL E 26 [ae a0.f0,ae a0.f1,.slice ag a0.f2.length af]] e ds As) ?_ ?_
 ·refine aU (cw (fun k_ e ds As=>∃ (d : bF) (c : Int),∃ (I : Nat),∃ (J : Option Addr) (K : Nat),eL.l0 l4 k_ d c = some b2∧St [(1,ae a1),(2,ae a2),(4,.slice A4 l4.length c4),(5,aK E),(10,aK I),(12,ae c)] [Buf bE 55 A4 c4 l4,Buf bE 55 ag af a0.f2,aL E 26 [ae a0.f0,ae a0.f1,.slice ag a0.f2.length af],aL I 26 [ae d.f0,ae d.f1,.slice J d.f2.length K],Buf bE 55 J K d.f2] e ds As) (k:=k) ⟨_,_,O,none,0,H,St.mk1 (cJ rfl (cJ rfl (cJ rfl (cJ rfl (cJ rfl (cJ rfl dQ)))))) ((Gh.nilBuf bE 55).trans (eY [0,1,2,3,4]))⟩ ?_)
  clear H
  rintro xH e ds As ⟨d,c,I,J,K,H,a9⟩
  obtain _ | xH:=xH
  ·cases H
  rw [eL.l0] at H
  refine SA.of_St a9 fun junk=>ao (aQ (ad ax (h:=ad ax (h:=bO (ae (l4.length : Int)) (dB Tryz.underlying24 rfl) (h:=ad (cn rfl rfl) (h:=bC ?_))))))
  rcases bH H with⟨a4,H⟩|⟨a4,H⟩
  ·refine aB rfl a4 (ap (aa (ao (aU (aQ (ad ax (h:=S' ax ?_)))))))
   obtain⟨⟨b4,b6⟩,H⟩:=aR H
   refine bD (bK (i:=c) Tryz.underlying24 cl rfl rfl (Src.buf (k:=0) rfl) b4 b6) (h:=l' (cj (enc:=di) (i:=c) (j:=c.toNat * 15) (m:=0) (sz:=15) (vs:=(bR (aZ.mk ((rd l4 c).f0) ((rd l4 c).f1) ((rd l4 c).f2) ((rd l4 c).f3)))) Tryz.underlying55 rfl cl rfl rfl rfl (Src.buf (k:=0) rfl) b4 b6 (fun _ _ h=>h) rfl) ?_)
   obtain⟨e7,d6,H⟩:=ac H
   refine o' (da [] [0,1,2,3,4] (kU.ok d6) ?_)
   refine ad (ca rfl) (h:=bC ?_)
   rcases bH H with⟨a5,H⟩|⟨a5,H⟩
   ·refine aC rfl a5 (aQ (bO (.agg #[ae 0,ae 0,.slice none 0 0]) dA (h:=o' (bg I 0 3 [ae 0,ae 0,.slice none 0 0] (h:=ad aV (h:=cF (bi (aI (aI (bi (aI (aI ?_))))))))))))
    have h:=aN H;subst h
    have hb_:=dS z
    have hr_:=Option.some.inj hb_
    clear hb_
    subst hr_
    exact lT [.cell 10 26,.tmp 11] ((Gh.nilBuf bE 55).trans (eY [5,1,0])) ⟨none,0,rfl,rfl⟩ ⟨cR 3,cP,trivial⟩
   refine aD rfl a5 (ap (aF (aa (ah (ad ax (h:=S' (bV rfl rfl) ?_))))))
   obtain⟨n39,c9,H⟩:=br H
   refine bO (ae n39) (bz (v:=ae n39) (congrArg (Value.int .i64) c9.symm)) (h:=aj ?_)
   exact aa ⟨xH,Nat.lt_succ_self _,_,_,I,J,K,H,ed [0,1,2,3,4]⟩
  refine aA rfl a4 (ct (bc (bc (cr ?_))))
  have h:=aN H;subst h
  exact aa ⟨d,rfl,I,J,K,ed [3,4,0,1,2]⟩
 rintro e ds As ⟨F,ht,M,Y,Z,b0⟩
 clear H
 subst ht
 replace z:=fW z
 have H:=z
 clear z
 refine aa (SA.of_St b0 fun junk=>ao (bj 1 fun e4=>ah (l' (cG E 0 4 [ae a0.f0,ae a0.f1,.slice ag a0.f2.length af]) ?_)))
 obtain⟨o,d7,H⟩:=ac H
 refine o' (gu [3] [0,1,2,4] (iQ.ok d7) fun s D=>?_)
 refine o' (cy (h:=fun N=>o' (bg N 0 6 [ae o.f0,ae o.f1,.slice s o.f2.length D] (h:=bC (ao (bj 0 fun e5=>ah (bD (cG N 0 6 [ae o.f0,ae o.f1,.slice s o.f2.length D]) (h:=S' ax ?_))))))))
 obtain⟨u,d8,H⟩:=ac H
 obtain⟨⟨hl54a,hl54b,hl54c⟩,H⟩:=aR H
 refine o' (mC [0] [1,2,3,4,5,6] (dk.ok d8) ?_)
 rintro _ _⟨b8,L,a6,rfl,rfl⟩
 refine S' ax ?_
 obtain⟨⟨b9,c5,c6⟩,H⟩:=aR H
 refine s' (.slice (cL b8 a2 ((L : Nat) : Int) 15) (u.2 - a2).toNat (((L : Nat) : Int).toNat - a2.toNat)) (dh (l:=u.1) (m:=u.2) (a:=a2) (b:=u.2) (q:=((L : Nat) : Int)) a6 Tryz.underlying24 cl rfl rfl rfl rfl (.inr ⟨_,rfl⟩) (.inl ⟨rfl,rfl,rfl⟩) (.inl ⟨rfl,rfl⟩) b9 c5 c6) ?_
 have d0 : dZ s (cL b8 a2 ((L : Nat) : Int) 15) 15 (u.1 + a2) (u.2 - a2) (((L : Nat) : Int).toNat - a2.toNat):=dZ.sub a6 b9 c5 c6 (.inl rfl) (Int.le_refl _)
 refine S' ax ?_
 obtain⟨n61,a7,H⟩:=br H
 have hl_n61 : n61.length = o.f2.length:=by rw [a7]; exact eM (by rw [List.length_take]; omega)
 refine o' (fY (k:=0) (l:=u.1 + a2) (m:=u.2 - a2) (xs:=o.f2) (ys:=l4) n61 a7 d0 rfl Tryz.underlying24 cl rfl rfl rfl (by omega) rfl (pO.slice (Src.buf (k:=4) rfl)) ?_)
 try unfold bG
 try rewrite [← hl_n61]
 refine cV (bD (cG N 0 6 [ae o.f0,ae o.f1,.slice s n61.length D]) (h:=S' ax ?_))
 obtain⟨c7,d9,H⟩:=ac H
 obtain⟨⟨hl66a,hl66b,hl66c⟩,H⟩:=aR H
 refine o' (mC [0] [1,2,3,4,5,6] (dk.ok d9) ?_)
 rintro _ _⟨e0,e1,d1,rfl,rfl⟩
 obtain⟨c8,e2,H⟩:=ac H
 obtain⟨d2,H⟩:=aR H
 refine o' (da [0] [1,2,3,4,5,6] (eD.ok (o0:=c7.1) (n0:=c7.2) (A0:=s) (c0:=D) (V0:=e0) (v0:=e1) (hw0:=d1) e2) ?_)
 try unfold bG
 try rewrite [← d2]
 refine cV (bD (cG N 0 6 [ae o.f0,ae o.f1,.slice s c8.length D]) (h:=o' (bg M 0 2 [ae o.f0,ae o.f1,.slice s c8.length D] (h:=ad aV (h:=cF ?_)))))
 have h:=aN H;subst h
 exact dt [.cell 10 26,.tmp 11] [0,1,4] ⟨s,D,rfl,rfl⟩ ⟨cR 2,cP,trivial⟩

end Go.Proofs.YtckilbegmbaeeaaGreat.Z3

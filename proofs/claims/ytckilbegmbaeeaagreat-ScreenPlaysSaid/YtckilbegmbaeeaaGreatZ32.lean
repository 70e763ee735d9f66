/- What functions compute, and that they do: 10b0b1, 18b0b1, 9. -/
import Derived.Test.YtckilbegmbaeeaaGreatZ31
namespace Go.Proofs.YtckilbegmbaeeaaGreat.Z3
open Go Go.RowKit Go.Proofs.YtckilbegmbaeeaaGreat.SL
open Go.IntKind (i64)
set_option linter.unusedVariables false
set_option maxHeartbeats 20000000
set_option maxRecDepth 100000
set_option linter.unusedSimpArgs false
attribute [local irreducible] IntKind.wrap cC dO eX gp gl lH fU cN gm rd sub bytesOf eG cL
variable {af ay ar au dU fy fi fq k : Nat}
variable {ag az aw av dT fu fj fz : Option Addr}
def F9.f (k : Nat) (a0 : Int) (a1 : Int) : Option (aG × Int):=(sY.f ).bind (fun h=>(pw.f k a0 a1 h).bind (fun a=>if a.2 ≠ 0 then (some (((aG.mk (bF.mk 0 0 ([] : (List aZ))) 0 0 false (cA.mk 0 0 false false false false false false false false) 0 0 ([] : (List Int)) false false false false false false (dq.mk 0 0 false false (cA.mk 0 0 false false false false false false false false)) false (bF.mk 0 0 ([] : (List aZ))) ([] : (List Int))),a.2))) else ((sY.f ).bind (fun b=>(pL.f k a0).bind (fun c=>(sY.f ).bind (fun d=>some (((aG.mk a.1 0 0 false b 0 (i64.wrap (a1 - 1)) c true false false false false true (dq.mk 0 0 false false d) false (bF.mk 0 0 ([] : (List aZ))) ([] : (List Int))),0))))))))
theorem F9.ok {a0 : Int} {a1 : Int} {r : aG × Int} (H : F9.f k a0 a1 = some r) : df Tryz.prog 9 #[ae a0,ae a1] [] (fun v B=>∃ aP aO bA bv bq bp bB bw,v = .tuple #[.agg (al r.1 aP aO bA bv bq bp bB bw).toArray,ae r.2]∧B = (aS r.1 aP aO bA bv bq bp bB bw)):=by
 refine ai Tryz.func9 rfl rfl ?_
 unfold F9.f at H
 refine aQ (o' (cy (h:=fun D=>ad aV (h:=cV (ad ax (h:=S' ax ?_))))))
 obtain⟨F,q,H⟩:=ac H
 refine o' (da [] [0] (sY.ok q) ?_)
 obtain⟨a,s,H⟩:=ac H
 refine o' (gu [] [0] (pw.ok s) fun j l=>?_)
 refine ad ax (h:=ad cg (h:=ad cg (h:=o' (cy (h:=fun E=>o' (bg E 0 2 [ae a.1.f0,ae a.1.f1,.slice j a.1.f2.length l] (h:=ad aV (h:=eJ (ad ax (h:=ad (dK rfl rfl) (h:=bC ?_)))))))))))
 rcases bH H with⟨m,H⟩|⟨m,H⟩
 ·refine aB rfl m (aQ (bO (.agg (al cx none 0 none 0 none 0 none 0).toArray) dA (h:=ad ax (h:=o' (bg D 0 1 (al cx none 0 none 0 none 0 none 0) (h:=ad aV (h:=cE ?_)))))))
  have h:=aN H;subst h
  exact lT [.cell 4 34,.tmp 5] ((Gh.nilBuf bE 55).trans ((Gh.nilBuf (Kd.int .i64) 3).trans ((Gh.nilBuf bE 55).trans ((Gh.nilBuf (Kd.int .i32) 21).trans (eY [3,4,5,6]))))) ⟨none,0,none,0,none,0,none,0,rfl,rfl⟩ ⟨cR 1,cP,trivial⟩
 refine aA rfl m (ap (aa (ao ?_)))
 refine fk [0,1,2,4,7,8,10] [2] [0,1] fun _ _ _ _ _ sH dd pk=>?_
 refine bT 0 rfl sH (cG E 0 0 [ae a.1.f0,ae a.1.f1,.slice j a.1.f2.length l]) (h:=bf 1 rfl sH ax (h:=bf 2 rfl sH (cY rfl rfl) (h:=T' 4 rfl sH ax ?_)))
 obtain⟨o,u,H⟩:=ac H
 refine dx 3 rfl dd (da [] [0,1] (sY.ok u) ?_)
 obtain⟨p,y,H⟩:=ac H
 refine dx 5 rfl dd (gu [] [0,1] (pL.ok y) fun b c=>?_)
 obtain⟨d,z,H⟩:=ac H
 refine dx 6 rfl dd (da [] [0,1,2] (sY.ok z) ?_)
 refine kY (.agg (jU (dq.mk 0 0 false false d)).toArray) 7 rfl sH dA (h:=kY (.agg (al (aG.mk a.1 0 0 false o 0 (i64.wrap (a1 - 1)) p true false false false false true (dq.mk 0 0 false false d) false nE ([] : (List Int))) j l b c none 0 none 0).toArray) 8 rfl sH dA (h:=dx 9 rfl dd (bg D 0 2 (al (aG.mk a.1 0 0 false o 0 (i64.wrap (a1 - 1)) p true false false false false true (dq.mk 0 0 false false d) false nE ([] : (List Int))) j l b c none 0 none 0) (h:=bf 10 rfl sH aV (h:=aW dd sH (aH (by kernel_rfl) (aa (fa ?_))))))))
 have h:=aN H;subst h
 exact lT [.cell 4 34,.tmp 5] ((Gh.nilBuf bE 55).trans ((Gh.nilBuf (Kd.int .i32) 21).trans (eY [2,1,4,5]))) ⟨j,l,b,c,none,0,none,0,rfl,rfl⟩ ⟨cR 3,cP,trivial⟩


def eV.l0 (a0 : bF) (a1 : bF) : Nat → Int → Option (Out (Bool) (Unit))
  | 0,_=>none
  | k + 1,a=>if a < (a0.f2.length : Int) then (if 0 ≤ a∧a < (a0.f2.length : Int) then (if 0 ≤ a∧a < (a1.f2.length : Int) then (if (rd a0.f2 a) ≠ (rd a1.f2 a) then (some (Out.ret (false))) else (lt (i64.wrap (a + 1)) fun b=>eV.l0 a0 a1 k b)) else none) else none) else (some (Out.go ()))
def eV.f (k : Nat) (a0 : bF) (a1 : bF) : Option (Bool):=lt ((decide (a0.f0 ≠ a1.f0)) || (decide (a0.f1 ≠ a1.f1))) fun c=>lt (c || (decide ((a0.f2.length : Int) ≠ (a1.f2.length : Int)))) fun a=>if a = true then (some (false)) else ((eV.l0 a0 a1 k 0 : Option (Out (Bool) (Unit))).bind (fun b=>Out.el b (fun r_=>some r_) (fun d=>some (true))))
theorem eV.ok {a0 : bF} {a1 : bF} {r : Bool} (H : eV.f k a0 a1 = some r) : fK Tryz.prog 18 #[.agg #[ae a0.f0,ae a0.f1,.slice ag a0.f2.length af],.agg #[ae a1.f0,ae a1.f1,.slice dT a1.f2.length dU]] [Buf bE 55 ag af a0.f2,Buf bE 55 dT dU a1.f2] (.bool r):=by
 refine ai Tryz.func18 rfl rfl ?_
 unfold eV.f at H
 refine aQ (o' (bN (h:=fun o=>o' (bN (h:=fun q=>ad aV (h:=eJ (ad aE (h:=bD (aT 2) (h:=ad aE (h:=bD (aT 3) (h:=S' (dK rfl rfl) ?_)))))))))))
 refine S' ax ?_
 obtain⟨U,O,H⟩:=br H
 refine eg 6 [(2,aK o),(3,aK q),(17,.bool U)] [Buf bE 55 dT dU a1.f2,Buf bE 55 ag af a0.f2,aL o 26 [ae a0.f0,ae a0.f1,.slice ag a0.f2.length af],aL q 26 [ae a1.f0,ae a1.f1,.slice dT a1.f2.length dU]] ?_ fun junk=>?_
 ·by_cases d : a0.f0 ≠ a1.f0
  ·refine cI 5 (ak d) (cq (ak d) (h:=aj ?_))
   have x_:=jL O ((ak d));exact bM [1,0,2,3]
  refine bn (am d) aE (h:=dc (am d) (aT 2) (h:=bn (am d) aE (h:=dc (am d) (aT 3) (h:=bn (am d) (dK rfl rfl) (h:=cv (am d) (h:=aj ?_))))))
  have x_:=jN O ((am d));exact bM [1,0,2,3]
 refine S' ax ?_
 obtain⟨Y,s,H⟩:=br H
 refine cD 8 (St [(2,aK o),(3,aK q),(26,.bool Y)] [Buf bE 55 dT dU a1.f2,Buf bE 55 ag af a0.f2,aL o 26 [ae a0.f0,ae a0.f1,.slice ag a0.f2.length af],aL q 26 [ae a1.f0,ae a1.f1,.slice dT a1.f2.length dU]]) ?_ ?_
 ·by_cases b : U = true
  ·refine cI 7 b (cq b (h:=aj ?_))
   have x_:=jL s b;exact bM [0,1,2,3]
  refine bn (aX b) aE (h:=dc (aX b) (aT 2) (h:=kQ (aX b) (ae (a0.f2.length : Int)) (dB Tryz.underlying24 rfl) (h:=bn (aX b) aE (h:=dc (aX b) (aT 3) (h:=kQ (aX b) (ae (a1.f2.length : Int)) (dB Tryz.underlying24 rfl) (h:=bn (aX b) (dK rfl rfl) (h:=cv (aX b) (h:=aj ?_))))))))
  have x_:=jN s ((aX b));exact bM [0,1,2,3]
 rintro e ds As L
 refine bC (SA.of_St L fun junk=>?_)
 rcases bH H with⟨u,H⟩|⟨u,H⟩
 ·refine aC rfl u (aQ (ad aV (h:=cE ?_)))
  have h:=aN H;subst h
  exact er [1,0] ⟨rfl,rfl⟩
 refine aD rfl u (ap (aa (ao (aQ (ad aV (h:=bC ?_))))))
 obtain⟨R,H,c⟩:=ac H
 refine bI (fun e ds As=>∃ (S : Unit),R = Out.go S∧St [] [Buf bE 55 dT dU a1.f2,Buf bE 55 ag af a0.f2] e ds As) ?_ ?_
 ·refine aU (cw (fun k_ e ds As=>∃ (a : Int),eV.l0 a0 a1 k_ a = some R∧St [(2,aK o),(3,aK q),(5,ae a)] [Buf bE 55 dT dU a1.f2,Buf bE 55 ag af a0.f2,aL o 26 [ae a0.f0,ae a0.f1,.slice ag a0.f2.length af],aL q 26 [ae a1.f0,ae a1.f1,.slice dT a1.f2.length dU]] e ds As) (k:=k) ⟨_,H,kW [0,1,2,3]⟩ ?_)
  clear H
  rintro z e ds As ⟨a,H,M⟩
  obtain _ | z:=z
  ·cases H
  rw [eV.l0] at H
  refine SA.of_St M fun junk=>ao (aQ (ad ax (h:=ad aE (h:=bD (aT 2) (h:=bO (ae (a0.f2.length : Int)) (dB Tryz.underlying24 rfl) (h:=ad (cn rfl rfl) (h:=bC ?_)))))))
  rcases bH H with⟨B,H⟩|⟨B,H⟩
  ·refine aB rfl B (ap (aa (ao (aU (ao ?_)))))
   refine fk (dG 0 11) (dG 0 4) [] fun _ _ _ _ _ sH dd pk=>?_
   refine bf 0 rfl sH aE (h:=bT 1 rfl sH (aT 2) (h:=T' 2 rfl sH ax ?_))
   obtain⟨⟨D,E⟩,H⟩:=aR H
   refine bT 3 rfl sH (bK (i:=a) Tryz.underlying24 cl rfl rfl (Src.buf (k:=1) rfl) D E) (h:=bT 4 rfl sH (cj (enc:=di) (i:=a) (j:=a.toNat * 15) (m:=0) (sz:=15) (vs:=(bR (aZ.mk ((rd a0.f2 a).f0) ((rd a0.f2 a).f1) ((rd a0.f2 a).f2) ((rd a0.f2 a).f3)))) Tryz.underlying55 rfl cl rfl rfl rfl (Src.buf (k:=1) rfl) D E (fun _ _ h=>h) rfl) (h:=bf 5 rfl sH aE (h:=bT 6 rfl sH (aT 3) (h:=T' 7 rfl sH ax ?_))))
   obtain⟨⟨F,I⟩,H⟩:=aR H
   refine bT 8 rfl sH (bK (i:=a) Tryz.underlying24 cl rfl rfl (Src.buf (k:=0) rfl) F I) (h:=bT 9 rfl sH (cj (enc:=di) (i:=a) (j:=a.toNat * 15) (m:=0) (sz:=15) (vs:=(bR (aZ.mk ((rd a1.f2 a).f0) ((rd a1.f2 a).f1) ((rd a1.f2 a).f2) ((rd a1.f2 a).f3)))) Tryz.underlying55 rfl cl rfl rfl rfl (Src.buf (k:=0) rfl) F I (fun _ _ h=>h) rfl) (h:=kY (.bool (decide ((rd a0.f2 a) ≠ (rd a1.f2 a)))) 10 rfl sH (mO (xs:=(bR (aZ.mk ((rd a0.f2 a).f0) ((rd a0.f2 a).f1) ((rd a0.f2 a).f2) ((rd a0.f2 a).f3)))) (ys:=(bR (aZ.mk ((rd a1.f2 a).f0) ((rd a1.f2 a).f1) ((rd a1.f2 a).f2) ((rd a1.f2 a).f3)))) (r:=((((rd a0.f2 a).f0) == ((rd a1.f2 a).f0)) && ((((((rd a0.f2 a).f1).f0) == (((rd a1.f2 a).f1).f0)) && (((((rd a0.f2 a).f1).f1) == (((rd a1.f2 a).f1).f1)) && (((((rd a0.f2 a).f1).f2) == (((rd a1.f2 a).f1).f2)) && true))) && ((((rd a0.f2 a).f2) == ((rd a1.f2 a).f2)) && ((((((rd a0.f2 a).f3).f0) == (((rd a1.f2 a).f3).f0)) && (((((rd a0.f2 a).f3).f1) == (((rd a1.f2 a).f3).f1)) && (((((rd a0.f2 a).f3).f2) == (((rd a1.f2 a).f3).f2)) && (((((rd a0.f2 a).f3).f3) == (((rd a1.f2 a).f3).f3)) && (((((rd a0.f2 a).f3).f4) == (((rd a1.f2 a).f3).f4)) && (((((rd a0.f2 a).f3).f5) == (((rd a1.f2 a).f3).f5)) && (((((rd a0.f2 a).f3).f6) == (((rd a1.f2 a).f3).f6)) && (((((rd a0.f2 a).f3).f7) == (((rd a1.f2 a).f3).f7)) && (((((rd a0.f2 a).f3).f8) == (((rd a1.f2 a).f3).f8)) && (((((rd a0.f2 a).f3).f9) == (((rd a1.f2 a).f3).f9)) && true)))))))))) && true))))) (p:=(rd a0.f2 a) = (rd a1.f2 a)) vN rfl rfl (by kernel_rfl) (vR (x:=rd a0.f2 a) (y:=rd a1.f2 a))) (h:=aW dd sH (aH (by kernel_rfl) (aa ?_)))))
   rcases bH H with⟨l,H⟩|⟨l,H⟩
   ·refine aB rfl l (aQ (ad aV (h:=cF (bi (aI (aI (bi (aI (aI ?_)))))))))
    have h:=aN H;subst h
    have hb_:=dS c
    have hr_:=Option.some.inj hb_
    clear hb_
    subst hr_
    exact er [1,0] ⟨rfl,rfl⟩
   refine aA rfl l (ap (aF (aa (ah (ad ax (h:=S' (bV rfl rfl) ?_))))))
   obtain⟨J,N,H⟩:=br H
   refine bO (ae J) (bz (v:=ae J) (congrArg (Value.int .i64) N.symm)) (h:=aj ?_)
   exact aa ⟨z,Nat.lt_succ_self _,_,H,ed [0,1,2,3]⟩
  refine aA rfl B (ct (bc (bc (cr ?_))))
  have h:=aN H;subst h
  exact aa ⟨(),rfl,ed [0,1]⟩
 rintro e ds As ⟨S,ht,K⟩
 clear H
 subst ht
 replace c:=fW c
 have H:=c
 clear c
 refine aa (SA.of_St K fun junk=>aQ (ad aV (h:=cF ?_)))
 have h:=aN H;subst h
 exact er [1,0] ⟨rfl,rfl⟩


def dj.l1 (a0 : aG) (a1 : aG) : Nat → Int → Option (Out (Bool) (Unit))
  | 0,_=>none
  | k + 1,a=>if a < (a0.f17.length : Int) then (if 0 ≤ a∧a < (a0.f17.length : Int) then (if 0 ≤ a∧a < (a1.f17.length : Int) then (if (rd a0.f17 a) ≠ (rd a1.f17 a) then (some (Out.ret (false))) else (lt (i64.wrap (a + 1)) fun b=>dj.l1 a0 a1 k b)) else none) else none) else (some (Out.go ()))
def dj.l0 (a0 : aG) (a1 : aG) : Nat → Int → Option (Out (Bool) (Unit))
  | 0,_=>none
  | k + 1,a=>if a < (a0.f7.length : Int) then (if 0 ≤ a∧a < (a0.f7.length : Int) then (if 0 ≤ a∧a < (a1.f7.length : Int) then (if (rd a0.f7 a) ≠ (rd a1.f7 a) then (some (Out.ret (false))) else (lt (i64.wrap (a + 1)) fun b=>dj.l0 a0 a1 k b)) else none) else none) else (some (Out.go ()))
def dj.f (k : Nat) (a0 : aG) (a1 : aG) : Option (Bool):=(eV.f k a0.f0 a1.f0).bind (fun gy=>(if (!gy) = true then (some true) else ((eV.f k a0.f16 a1.f16).bind (fun y=>some (!y))) : Option Bool).bind (fun z=>lt (z || (decide ((a0.f7.length : Int) ≠ (a1.f7.length : Int)))) fun B=>lt (B || (decide ((a0.f17.length : Int) ≠ (a1.f17.length : Int)))) fun D=>if D = true then (some (false)) else ((dj.l0 a0 a1 k 0 : Option (Out (Bool) (Unit))).bind (fun E=>Out.el E (fun r_=>some r_) (fun I=>(dj.l1 a0 a1 k 0 : Option (Out (Bool) (Unit))).bind (fun u=>Out.el u (fun r_=>some r_) (fun F=>lt ((decide (a0.f1 = a1.f1)) && (decide (a0.f2 = a1.f2))) fun a=>lt (a && (decide (a0.f3 = a1.f3))) fun b=>lt (b && (decide (a0.f4 = a1.f4))) fun c=>lt (c && (decide (a0.f5 = a1.f5))) fun d=>lt (d && (decide (a0.f6 = a1.f6))) fun h=>lt (h && (decide (a0.f8 = a1.f8))) fun j=>lt (j && (decide (a0.f9 = a1.f9))) fun l=>lt (l && (decide (a0.f10 = a1.f10))) fun m=>lt (m && (decide (a0.f11 = a1.f11))) fun o=>lt (o && (decide (a0.f12 = a1.f12))) fun p=>lt (p && (decide (a0.f13 = a1.f13))) fun q=>lt (q && (decide (a0.f14 = a1.f14))) fun r=>lt (r && (decide (a0.f15 = a1.f15))) fun s=>some (s))))))))
theorem dj.ok {a0 : aG} {a1 : aG} {r : Bool} (H : dj.f k a0 a1 = some r) : fK Tryz.prog 10 #[.agg (al a0 ag af az ay aw ar av au).toArray,.agg (al a1 dT dU fu fy fj fi fz fq).toArray] (aS a0 ag af az ay aw ar av au++aS a1 dT dU fu fy fj fi fz fq) (.bool r):=by
 refine ai Tryz.func10 rfl rfl ?_
 unfold dj.f at H
 refine aQ (o' (bN (h:=fun b=>o' (bN (h:=fun a=>ad aV (h:=bC (ao (ao (bj 0 fun h7=>bj 1 fun h8=>bj 2 fun h9=>bj 3 fun i0=>bj 4 fun i1=>?_)))))))))
 refine bj 5 fun i2=>bj 6 fun i3=>bj 7 fun i4=>ah (ad aE (h:=bD (cG b 0 8 [ae a0.f0.f0,ae a0.f0.f1,.slice ag a0.f0.f2.length af]) (h:=ad aE (h:=l' (cG a 0 9 [ae a1.f0.f0,ae a1.f0.f1,.slice dT a1.f0.f2.length dU]) ?_))))
 obtain⟨gy,g4,H⟩:=ac H
 refine o' (da [0,4] [1,2,3,5,6,7,8,9] (eV.ok g4) ?_)
 refine ad (ca rfl) (h:=S' ax ?_)
 obtain⟨g9,H,h4⟩:=ac H
 refine eg 7 [(2,aK b),(3,aK a),(20,.bool g9)] (aS a1 dT dU fu fy fj fi fz fq++(aS a0 ag af az ay aw ar av au++[aL b 34 (al a0 ag af az ay aw ar av au),aL a 34 (al a1 dT dU fu fy fj fi fz fq)])) ?_ fun junk=>?_
 ·rcases bH H with⟨N,H⟩|⟨N,H⟩
  ·refine cI 6 N (ii N ?_)
   have h:=aN H;subst h
   exact dV [1,5,6,7,0,2,3,4,8,9]
  refine bn (aX N) aE (h:=dc (aX N) (cG b 40 8 [ae a0.f16.f0,ae a0.f16.f1,.slice aw a0.f16.f2.length ar]) (h:=bn (aX N) aE (h:=z' (aX N) (cG a 40 9 [ae a1.f16.f0,ae a1.f16.f1,.slice fj a1.f16.f2.length fi]) ?_)))
  obtain⟨i5,h5,H⟩:=ac H
  refine gE (aX N) (da [3,6] [0,1,2,4,5,7,8,9] (eV.ok h5) ?_)
  refine bn (aX N) (ca rfl) (h:=gL (aX N) ?_)
  have h:=aN H;subst h
  exact dV [3,6,1,7,2,4,0,5,8,9]
 replace H:=h4
 refine S' ax ?_
 obtain⟨h0,d7,H⟩:=br H
 refine eg 8 [(2,aK b),(3,aK a),(29,.bool h0)] (aS a1 dT dU fu fy fj fi fz fq++(aS a0 ag af az ay aw ar av au++[aL b 34 (al a0 ag af az ay aw ar av au),aL a 34 (al a1 dT dU fu fy fj fi fz fq)])) ?_ fun junk=>?_
 ·by_cases L : g9 = true
  ·refine cI 7 L (cq L (h:=aj ?_))
   have x_:=jL d7 L;exact bM [0,1,2,3,4,5,6,7,8,9]
  refine bn (aX L) aE (h:=dc (aX L) (aT 8) (h:=kQ (aX L) (ae (a0.f7.length : Int)) (dB Tryz.underlying29 rfl) (h:=bn (aX L) aE (h:=dc (aX L) (aT 9) (h:=kQ (aX L) (ae (a1.f7.length : Int)) (dB Tryz.underlying29 rfl) (h:=bn (aX L) (dK rfl rfl) (h:=cv (aX L) (h:=aj ?_))))))))
  have x_:=jN d7 ((aX L));exact bM [0,1,2,3,4,5,6,7,8,9]
 refine S' ax ?_
 obtain⟨h6,d8,H⟩:=br H
 refine cD 8 (St [(2,aK b),(3,aK a),(38,.bool h6)] (aS a1 dT dU fu fy fj fi fz fq++(aS a0 ag af az ay aw ar av au++[aL b 34 (al a0 ag af az ay aw ar av au),aL a 34 (al a1 dT dU fu fy fj fi fz fq)]))) ?_ ?_
 ·by_cases M : h0 = true
  ·refine cI 7 M (cq M (h:=aj ?_))
   have x_:=jL d8 M;exact bM [0,1,2,3,4,5,6,7,8,9]
  refine bn (aX M) aE (h:=dc (aX M) (aT 8) (h:=kQ (aX M) (ae (a0.f17.length : Int)) (dB Tryz.underlying32 rfl) (h:=bn (aX M) aE (h:=dc (aX M) (aT 9) (h:=kQ (aX M) (ae (a1.f17.length : Int)) (dB Tryz.underlying32 rfl) (h:=bn (aX M) (dK rfl rfl) (h:=cv (aX M) (h:=aj ?_))))))))
  have x_:=jN d8 ((aX M));exact bM [0,1,2,3,4,5,6,7,8,9]
 rintro e ds As g5
 refine bC (SA.of_St g5 fun junk=>?_)
 rcases bH H with⟨d9,H⟩|⟨d9,H⟩
 ·refine aC rfl d9 (aQ (ad aV (h:=cE ?_)))
  have h:=aN H;subst h
  exact er [4,5,6,7,0,1,2,3] ⟨rfl,rfl⟩
 refine aD rfl d9 (ap (aa (ao (aQ (ad aV (h:=bC ?_))))))
 obtain⟨h1,H,R⟩:=ac H
 refine bI (fun e ds As=>∃ (h3 : Unit),h1 = Out.go h3∧St [(2,aK b),(3,aK a)] (aS a1 dT dU fu fy fj fi fz fq++(aS a0 ag af az ay aw ar av au++[aL b 34 (al a0 ag af az ay aw ar av au),aL a 34 (al a1 dT dU fu fy fj fi fz fq)])) e ds As) ?_ ?_
 ·refine aU (cw (fun k_ e ds As=>∃ (K : Int),dj.l0 a0 a1 k_ K = some h1∧St [(2,aK b),(3,aK a),(5,ae K)] (aS a1 dT dU fu fy fj fi fz fq++(aS a0 ag af az ay aw ar av au++[aL b 34 (al a0 ag af az ay aw ar av au),aL a 34 (al a1 dT dU fu fy fj fi fz fq)])) e ds As) (k:=k) ⟨_,H,kW [0,1,2,3,4,5,6,7,8,9]⟩ ?_)
  clear H
  rintro e0 e ds As ⟨K,H,g6⟩
  obtain _ | e0:=e0
  ·cases H
  rw [dj.l0] at H
  refine SA.of_St g6 fun junk=>ao (aQ (ad ax (h:=ad aE (h:=bD (aT 8) (h:=bO (ae (a0.f7.length : Int)) (dB Tryz.underlying29 rfl) (h:=ad (cn rfl rfl) (h:=bC ?_)))))))
  rcases bH H with⟨e1,H⟩|⟨e1,H⟩
  ·refine aB rfl e1 (ap (aa (ao (aU (ao ?_)))))
   refine fk (dG 0 11) [1,5,8,9] [0,2,3,4,6,7] fun _ _ _ _ _ sH dd pk=>?_
   refine bf 0 rfl sH aE (h:=bT 1 rfl sH (aT 2) (h:=T' 2 rfl sH ax ?_))
   obtain⟨⟨e2,e3⟩,H⟩:=aR H
   refine bT 3 rfl sH (bK (i:=K) Tryz.underlying29 jG rfl rfl (Src.buf (k:=1) rfl) e2 e3) (h:=bT 4 rfl sH (bQ (enc:=(fun x_ : Int=>[Value.int .i64 x_])) (i:=K) (j:=K.toNat * 1) (m:=0) (sz:=1) Tryz.underlying3 rfl rfl rfl rfl (Src.buf (k:=1) rfl) e2 e3 (fun _ _ h=>h) rfl) (h:=bf 5 rfl sH aE (h:=bT 6 rfl sH (aT 3) (h:=T' 7 rfl sH ax ?_))))
   obtain⟨⟨e4,e5⟩,H⟩:=aR H
   refine bT 8 rfl sH (bK (i:=K) Tryz.underlying29 jG rfl rfl (Src.buf (k:=0) rfl) e4 e5) (h:=bT 9 rfl sH (bQ (enc:=(fun x_ : Int=>[Value.int .i64 x_])) (i:=K) (j:=K.toNat * 1) (m:=0) (sz:=1) Tryz.underlying3 rfl rfl rfl rfl (Src.buf (k:=0) rfl) e4 e5 (fun _ _ h=>h) rfl) (h:=bf 10 rfl sH (dK rfl rfl) (h:=aW dd sH (aH (by kernel_rfl) (aa ?_)))))
   rcases bH H with⟨b2,H⟩|⟨b2,H⟩
   ·refine aB rfl b2 (aQ (ad aV (h:=cF (bi (aI (aI (bi (aI (aI ?_)))))))))
    have h:=aN H;subst h
    have hb_:=dS R
    have hr_:=Option.some.inj hb_
    clear hb_
    subst hr_
    exact er [7,1,8,9,4,0,5,6] ⟨rfl,rfl⟩
   refine aA rfl b2 (ap (aF (aa (ah (ad ax (h:=S' (bV rfl rfl) ?_))))))
   obtain⟨e6,g7,H⟩:=br H
   refine bO (ae e6) (bz (v:=ae e6) (congrArg (Value.int .i64) g7.symm)) (h:=aj ?_)
   exact aa ⟨e0,Nat.lt_succ_self _,_,H,ed [4,0,5,6,7,1,8,9,2,3]⟩
  refine aA rfl e1 (ct (bc (bc (cr ?_))))
  have h:=aN H;subst h
  exact aa ⟨(),rfl,ed [0,1,2,3,4,5,6,7,8,9]⟩
 rintro e ds As ⟨h3,ht,e7⟩
 clear H
 subst ht
 replace R:=fW R
 have H:=R
 clear R
 refine aa (SA.of_St e7 fun junk=>ao (aQ (ad aV (h:=bC ?_))))
 obtain⟨e8,H,O⟩:=ac H
 refine bI (fun e ds As=>∃ (e9 : Unit),e8 = Out.go e9∧St [(2,aK b),(3,aK a)] (aS a1 dT dU fu fy fj fi fz fq++(aS a0 ag af az ay aw ar av au++[aL b 34 (al a0 ag af az ay aw ar av au),aL a 34 (al a1 dT dU fu fy fj fi fz fq)])) e ds As) ?_ ?_
 ·refine aU (cw (fun k_ e ds As=>∃ (c : Int),dj.l1 a0 a1 k_ c = some e8∧St [(2,aK b),(3,aK a),(6,ae c)] (aS a1 dT dU fu fy fj fi fz fq++(aS a0 ag af az ay aw ar av au++[aL b 34 (al a0 ag af az ay aw ar av au),aL a 34 (al a1 dT dU fu fy fj fi fz fq)])) e ds As) (k:=k) ⟨_,H,kW [0,1,2,3,4,5,6,7,8,9]⟩ ?_)
  clear H
  rintro b3 e ds As ⟨c,H,g0⟩
  obtain _ | b3:=b3
  ·cases H
  rw [dj.l1] at H
  refine SA.of_St g0 fun junk=>ao (aQ (ad ax (h:=ad aE (h:=bD (aT 8) (h:=bO (ae (a0.f17.length : Int)) (dB Tryz.underlying32 rfl) (h:=ad (cn rfl rfl) (h:=bC ?_)))))))
  rcases bH H with⟨b4,H⟩|⟨b4,H⟩
  ·refine aB rfl b4 (ap (aa (ao (aU (ao ?_)))))
   refine fk (dG 0 11) [3,7,8,9] [0,1,2,4,5,6] fun _ _ _ _ _ sH dd pk=>?_
   refine bf 0 rfl sH aE (h:=bT 1 rfl sH (aT 2) (h:=T' 2 rfl sH ax ?_))
   obtain⟨⟨g1,g2⟩,H⟩:=aR H
   refine bT 3 rfl sH (bK (i:=c) Tryz.underlying32 kP rfl rfl (Src.buf (k:=1) rfl) g1 g2) (h:=bT 4 rfl sH (bQ (enc:=(fun x_ : Int=>[Value.int .i32 x_])) (i:=c) (j:=c.toNat * 1) (m:=0) (sz:=1) Tryz.underlying21 rfl rfl rfl rfl (Src.buf (k:=1) rfl) g1 g2 (fun _ _ h=>h) rfl) (h:=bf 5 rfl sH aE (h:=bT 6 rfl sH (aT 3) (h:=T' 7 rfl sH ax ?_))))
   obtain⟨⟨b5,b6⟩,H⟩:=aR H
   refine bT 8 rfl sH (bK (i:=c) Tryz.underlying32 kP rfl rfl (Src.buf (k:=0) rfl) b5 b6) (h:=bT 9 rfl sH (bQ (enc:=(fun x_ : Int=>[Value.int .i32 x_])) (i:=c) (j:=c.toNat * 1) (m:=0) (sz:=1) Tryz.underlying21 rfl rfl rfl rfl (Src.buf (k:=0) rfl) b5 b6 (fun _ _ h=>h) rfl) (h:=bf 10 rfl sH (dK rfl rfl) (h:=aW dd sH (aH (by kernel_rfl) (aa ?_)))))
   rcases bH H with⟨S,H⟩|⟨S,H⟩
   ·refine aB rfl S (aQ (ad aV (h:=cF (bi (aI (aI (bi (aI (aI ?_)))))))))
    have h:=aN H;subst h
    have hb_:=dS O
    have hr_:=Option.some.inj hb_
    clear hb_
    subst hr_
    exact er [7,8,9,1,4,5,6,0] ⟨rfl,rfl⟩
   refine aA rfl S (ap (aF (aa (ah (ad ax (h:=S' (bV rfl rfl) ?_))))))
   obtain⟨b7,g3,H⟩:=br H
   refine bO (ae b7) (bz (v:=ae b7) (congrArg (Value.int .i64) g3.symm)) (h:=aj ?_)
   exact aa ⟨b3,Nat.lt_succ_self _,_,H,ed [4,5,6,0,7,8,9,1,2,3]⟩
  refine aA rfl b4 (ct (bc (bc (cr ?_))))
  have h:=aN H;subst h
  exact aa ⟨(),rfl,ed [0,1,2,3,4,5,6,7,8,9]⟩
 rintro e ds As ⟨e9,ht,d6⟩
 clear H
 subst ht
 replace O:=fW O
 have H:=O
 clear O
 refine aa (SA.of_St d6 fun junk=>aQ (ad aE (h:=bD (aT 8) (h:=ad aE (h:=bD (aT 9) (h:=ad (bk rfl rfl) (h:=S' ax ?_)))))))
 obtain⟨b8,U,H⟩:=br H
 refine eg 6 [(2,aK b),(3,aK a),(86,.bool b8)] (aS a1 dT dU fu fy fj fi fz fq++(aS a0 ag af az ay aw ar av au++[aL b 34 (al a0 ag af az ay aw ar av au),aL a 34 (al a1 dT dU fu fy fj fi fz fq)])) ?_ fun junk=>?_
 ·by_cases d : a0.f1 = a1.f1
  ·refine bn (ak d) aE (h:=dc (ak d) (aT 8) (h:=bn (ak d) aE (h:=dc (ak d) (aT 9) (h:=bn (ak d) (bk rfl rfl) (h:=cq (ak d) (h:=aj ?_))))))
   have x_:=gD U ((ak d));exact bM [0,1,2,3,4,5,6,7,8,9]
  refine cI 5 (am d) (cv (am d) (h:=aj ?_))
  have x_:=gC U ((am d));exact bM [0,1,2,3,4,5,6,7,8,9]
 refine S' ax ?_
 obtain⟨c5,Y,H⟩:=br H
 refine eg 6 [(2,aK b),(3,aK a),(93,.bool c5)] (aS a1 dT dU fu fy fj fi fz fq++(aS a0 ag af az ay aw ar av au++[aL b 34 (al a0 ag af az ay aw ar av au),aL a 34 (al a1 dT dU fu fy fj fi fz fq)])) ?_ fun junk=>?_
 ·by_cases l : b8 = true
  ·refine bn l aE (h:=dc l (aT 8) (h:=bn l aE (h:=dc l (aT 9) (h:=kQ l (.bool (decide (a0.f3 = a1.f3))) (lq Tryz.underlying4 rfl rfl) (h:=cq l (h:=aj ?_))))))
   have x_:=gD Y l;exact bM [0,1,2,3,4,5,6,7,8,9]
  refine cI 5 (aX l) (cv (aX l) (h:=aj ?_))
  have x_:=gC Y ((aX l));exact bM [0,1,2,3,4,5,6,7,8,9]
 refine S' ax ?_
 obtain⟨c6,Z,H⟩:=br H
 refine eg 6 [(2,aK b),(3,aK a),(100,.bool c6)] (aS a1 dT dU fu fy fj fi fz fq++(aS a0 ag af az ay aw ar av au++[aL b 34 (al a0 ag af az ay aw ar av au),aL a 34 (al a1 dT dU fu fy fj fi fz fq)])) ?_ fun junk=>?_
 ·by_cases o : c5 = true
  ·refine bn o aE (h:=dc o (cG b 6 8 (bG a0.f4)) (h:=bn o aE (h:=dc o (cG a 6 9 (bG a1.f4)) (h:=kQ o (.bool (decide (a0.f4 = a1.f4))) (mb (xs:=(bG a0.f4)) (ys:=(bG a1.f4)) (r:=((a0.f4.f0 == a1.f4.f0) && ((a0.f4.f1 == a1.f4.f1) && ((a0.f4.f2 == a1.f4.f2) && ((a0.f4.f3 == a1.f4.f3) && ((a0.f4.f4 == a1.f4.f4) && ((a0.f4.f5 == a1.f4.f5) && ((a0.f4.f6 == a1.f4.f6) && ((a0.f4.f7 == a1.f4.f7) && ((a0.f4.f8 == a1.f4.f8) && ((a0.f4.f9 == a1.f4.f9) && true))))))))))) (p:=a0.f4 = a1.f4) ng rfl rfl (by kernel_rfl) (nh (x:=a0.f4) (y:=a1.f4))) (h:=cq o (h:=aj ?_))))))
   have x_:=gD Z o;exact bM [0,1,2,3,4,5,6,7,8,9]
  refine cI 5 (aX o) (cv (aX o) (h:=aj ?_))
  have x_:=gC Z ((aX o));exact bM [0,1,2,3,4,5,6,7,8,9]
 refine S' ax ?_
 obtain⟨c7,a2,H⟩:=br H
 refine eg 6 [(2,aK b),(3,aK a),(107,.bool c7)] (aS a1 dT dU fu fy fj fi fz fq++(aS a0 ag af az ay aw ar av au++[aL b 34 (al a0 ag af az ay aw ar av au),aL a 34 (al a1 dT dU fu fy fj fi fz fq)])) ?_ fun junk=>?_
 ·by_cases q : c6 = true
  ·refine bn q aE (h:=dc q (aT 8) (h:=bn q aE (h:=dc q (aT 9) (h:=bn q (bk rfl rfl) (h:=cq q (h:=aj ?_))))))
   have x_:=gD a2 q;exact bM [0,1,2,3,4,5,6,7,8,9]
  refine cI 5 (aX q) (cv (aX q) (h:=aj ?_))
  have x_:=gC a2 ((aX q));exact bM [0,1,2,3,4,5,6,7,8,9]
 refine S' ax ?_
 obtain⟨c8,a3,H⟩:=br H
 refine eg 6 [(2,aK b),(3,aK a),(114,.bool c8)] (aS a1 dT dU fu fy fj fi fz fq++(aS a0 ag af az ay aw ar av au++[aL b 34 (al a0 ag af az ay aw ar av au),aL a 34 (al a1 dT dU fu fy fj fi fz fq)])) ?_ fun junk=>?_
 ·by_cases s : c7 = true
  ·refine bn s aE (h:=dc s (aT 8) (h:=bn s aE (h:=dc s (aT 9) (h:=bn s (bk rfl rfl) (h:=cq s (h:=aj ?_))))))
   have x_:=gD a3 s;exact bM [0,1,2,3,4,5,6,7,8,9]
  refine cI 5 (aX s) (cv (aX s) (h:=aj ?_))
  have x_:=gC a3 ((aX s));exact bM [0,1,2,3,4,5,6,7,8,9]
 refine S' ax ?_
 obtain⟨c9,a4,H⟩:=br H
 refine eg 6 [(2,aK b),(3,aK a),(121,.bool c9)] (aS a1 dT dU fu fy fj fi fz fq++(aS a0 ag af az ay aw ar av au++[aL b 34 (al a0 ag af az ay aw ar av au),aL a 34 (al a1 dT dU fu fy fj fi fz fq)])) ?_ fun junk=>?_
 ·by_cases u : c8 = true
  ·refine bn u aE (h:=dc u (aT 8) (h:=bn u aE (h:=dc u (aT 9) (h:=kQ u (.bool (decide (a0.f8 = a1.f8))) (lq Tryz.underlying4 rfl rfl) (h:=cq u (h:=aj ?_))))))
   have x_:=gD a4 u;exact bM [0,1,2,3,4,5,6,7,8,9]
  refine cI 5 (aX u) (cv (aX u) (h:=aj ?_))
  have x_:=gC a4 ((aX u));exact bM [0,1,2,3,4,5,6,7,8,9]
 refine S' ax ?_
 obtain⟨d0,a5,H⟩:=br H
 refine eg 6 [(2,aK b),(3,aK a),(128,.bool d0)] (aS a1 dT dU fu fy fj fi fz fq++(aS a0 ag af az ay aw ar av au++[aL b 34 (al a0 ag af az ay aw ar av au),aL a 34 (al a1 dT dU fu fy fj fi fz fq)])) ?_ fun junk=>?_
 ·by_cases z : c9 = true
  ·refine bn z aE (h:=dc z (aT 8) (h:=bn z aE (h:=dc z (aT 9) (h:=kQ z (.bool (decide (a0.f9 = a1.f9))) (lq Tryz.underlying4 rfl rfl) (h:=cq z (h:=aj ?_))))))
   have x_:=gD a5 z;exact bM [0,1,2,3,4,5,6,7,8,9]
  refine cI 5 (aX z) (cv (aX z) (h:=aj ?_))
  have x_:=gC a5 ((aX z));exact bM [0,1,2,3,4,5,6,7,8,9]
 refine S' ax ?_
 obtain⟨d1,a6,H⟩:=br H
 refine eg 6 [(2,aK b),(3,aK a),(135,.bool d1)] (aS a1 dT dU fu fy fj fi fz fq++(aS a0 ag af az ay aw ar av au++[aL b 34 (al a0 ag af az ay aw ar av au),aL a 34 (al a1 dT dU fu fy fj fi fz fq)])) ?_ fun junk=>?_
 ·by_cases B : d0 = true
  ·refine bn B aE (h:=dc B (aT 8) (h:=bn B aE (h:=dc B (aT 9) (h:=kQ B (.bool (decide (a0.f10 = a1.f10))) (lq Tryz.underlying4 rfl rfl) (h:=cq B (h:=aj ?_))))))
   have x_:=gD a6 B;exact bM [0,1,2,3,4,5,6,7,8,9]
  refine cI 5 (aX B) (cv (aX B) (h:=aj ?_))
  have x_:=gC a6 ((aX B));exact bM [0,1,2,3,4,5,6,7,8,9]
 refine S' ax ?_
 obtain⟨d2,a7,H⟩:=br H
 refine eg 6 [(2,aK b),(3,aK a),(142,.bool d2)] (aS a1 dT dU fu fy fj fi fz fq++(aS a0 ag af az ay aw ar av au++[aL b 34 (al a0 ag af az ay aw ar av au),aL a 34 (al a1 dT dU fu fy fj fi fz fq)])) ?_ fun junk=>?_
 ·by_cases D : d1 = true
  ·refine bn D aE (h:=dc D (aT 8) (h:=bn D aE (h:=dc D (aT 9) (h:=kQ D (.bool (decide (a0.f11 = a1.f11))) (lq Tryz.underlying4 rfl rfl) (h:=cq D (h:=aj ?_))))))
   have x_:=gD a7 D;exact bM [0,1,2,3,4,5,6,7,8,9]
  refine cI 5 (aX D) (cv (aX D) (h:=aj ?_))
  have x_:=gC a7 ((aX D));exact bM [0,1,2,3,4,5,6,7,8,9]
 refine S' ax ?_
 obtain⟨d3,a8,H⟩:=br H
 refine eg 6 [(2,aK b),(3,aK a),(149,.bool d3)] (aS a1 dT dU fu fy fj fi fz fq++(aS a0 ag af az ay aw ar av au++[aL b 34 (al a0 ag af az ay aw ar av au),aL a 34 (al a1 dT dU fu fy fj fi fz fq)])) ?_ fun junk=>?_
 ·by_cases E : d2 = true
  ·refine bn E aE (h:=dc E (aT 8) (h:=bn E aE (h:=dc E (aT 9) (h:=kQ E (.bool (decide (a0.f12 = a1.f12))) (lq Tryz.underlying4 rfl rfl) (h:=cq E (h:=aj ?_))))))
   have x_:=gD a8 E;exact bM [0,1,2,3,4,5,6,7,8,9]
  refine cI 5 (aX E) (cv (aX E) (h:=aj ?_))
  have x_:=gC a8 ((aX E));exact bM [0,1,2,3,4,5,6,7,8,9]
 refine S' ax ?_
 obtain⟨d4,a9,H⟩:=br H
 refine eg 6 [(2,aK b),(3,aK a),(156,.bool d4)] (aS a1 dT dU fu fy fj fi fz fq++(aS a0 ag af az ay aw ar av au++[aL b 34 (al a0 ag af az ay aw ar av au),aL a 34 (al a1 dT dU fu fy fj fi fz fq)])) ?_ fun junk=>?_
 ·by_cases F : d3 = true
  ·refine bn F aE (h:=dc F (aT 8) (h:=bn F aE (h:=dc F (aT 9) (h:=kQ F (.bool (decide (a0.f13 = a1.f13))) (lq Tryz.underlying4 rfl rfl) (h:=cq F (h:=aj ?_))))))
   have x_:=gD a9 F;exact bM [0,1,2,3,4,5,6,7,8,9]
  refine cI 5 (aX F) (cv (aX F) (h:=aj ?_))
  have x_:=gC a9 ((aX F));exact bM [0,1,2,3,4,5,6,7,8,9]
 refine S' ax ?_
 obtain⟨d5,b0,H⟩:=br H
 refine eg 6 [(2,aK b),(3,aK a),(163,.bool d5)] (aS a1 dT dU fu fy fj fi fz fq++(aS a0 ag af az ay aw ar av au++[aL b 34 (al a0 ag af az ay aw ar av au),aL a 34 (al a1 dT dU fu fy fj fi fz fq)])) ?_ fun junk=>?_
 ·by_cases I : d4 = true
  ·refine bn I aE (h:=dc I (cG b 25 8 (jU a0.f14)) (h:=bn I aE (h:=dc I (cG a 25 9 (jU a1.f14)) (h:=kQ I (.bool (decide (a0.f14 = a1.f14))) (mb (xs:=(jU a0.f14)) (ys:=(jU a1.f14)) (r:=((a0.f14.f0 == a1.f14.f0) && ((a0.f14.f1 == a1.f14.f1) && ((a0.f14.f2 == a1.f14.f2) && ((a0.f14.f3 == a1.f14.f3) && (((a0.f14.f4.f0 == a1.f14.f4.f0) && ((a0.f14.f4.f1 == a1.f14.f4.f1) && ((a0.f14.f4.f2 == a1.f14.f4.f2) && ((a0.f14.f4.f3 == a1.f14.f4.f3) && ((a0.f14.f4.f4 == a1.f14.f4.f4) && ((a0.f14.f4.f5 == a1.f14.f4.f5) && ((a0.f14.f4.f6 == a1.f14.f4.f6) && ((a0.f14.f4.f7 == a1.f14.f4.f7) && ((a0.f14.f4.f8 == a1.f14.f4.f8) && ((a0.f14.f4.f9 == a1.f14.f4.f9) && true)))))))))) && true)))))) (p:=a0.f14 = a1.f14) yU rfl rfl (by kernel_rfl) (yn (x:=a0.f14) (y:=a1.f14))) (h:=cq I (h:=aj ?_))))))
   have x_:=gD b0 I;exact bM [0,1,2,3,4,5,6,7,8,9]
  refine cI 5 (aX I) (cv (aX I) (h:=aj ?_))
  have x_:=gC b0 ((aX I));exact bM [0,1,2,3,4,5,6,7,8,9]
 refine S' ax ?_
 obtain⟨g8,b1,H⟩:=br H
 refine eg 6 [(170,.bool g8)] (aS a1 dT dU fu fy fj fi fz fq++aS a0 ag af az ay aw ar av au) ?_ fun junk=>?_
 ·by_cases J : d5 = true
  ·refine bn J aE (h:=dc J (aT 8) (h:=bn J aE (h:=dc J (aT 9) (h:=kQ J (.bool (decide (a0.f15 = a1.f15))) (lq Tryz.underlying4 rfl rfl) (h:=cq J (h:=aj ?_))))))
   have x_:=gD b1 J;exact bM [0,1,2,3,4,5,6,7]
  refine cI 5 (aX J) (cv (aX J) (h:=aj ?_))
  have x_:=gC b1 ((aX J));exact bM [0,1,2,3,4,5,6,7]
 refine ad aV (h:=cF ?_)
 have h:=aN H;subst h
 exact er [4,5,6,7,0,1,2,3] ⟨rfl,rfl⟩

end Go.Proofs.YtckilbegmbaeeaaGreat.Z3

/- What functions compute, and that they do: 54b0, 55b0. -/
import Derived.Test.YtckilbegmbaeeaaGreatZ317
namespace Go.Proofs.YtckilbegmbaeeaaGreat.Z3
open Go Go.RowKit Go.Proofs.YtckilbegmbaeeaaGreat.SL
open Go.IntKind (i64)
set_option linter.unusedVariables false
set_option maxHeartbeats 20000000
set_option maxRecDepth 100000
set_option linter.unusedSimpArgs false
attribute [local irreducible] IntKind.wrap cC dO eX gp gl lH fU cN gm rd sub bytesOf eG cL
variable {af k : Nat}
variable {ag : Option Addr}
def gi.l0 (a0 : bF) : Nat → Int → Option (Out (Bool) (Unit))
  | 0,_=>none
  | k + 1,a=>if a < (a0.f2.length : Int) then (if 0 ≤ a∧a < (a0.f2.length : Int) then ((kU.f k (rd a0.f2 a)).bind (fun gy=>if (!gy) = true then (some (Out.ret (false))) else (if a0.f0 ≠ 0 then ((if (a.tmod a0.f0) > 0 then (if 0 ≤ (i64.wrap (a - 1))∧(i64.wrap (a - 1)) < (a0.f2.length : Int) then (some (decide (((rd a0.f2 (i64.wrap (a - 1))).f2) = 2))) else none) else (some false) : Option Bool).bind (fun d=>(if 0 ≤ a∧a < (a0.f2.length : Int) then (if (decide (((rd a0.f2 a).f2) = 0)) ≠ d then (some true) else (if d = true then (if 0 ≤ a∧a < (a0.f2.length : Int) then (if 0 ≤ (i64.wrap (a - 1))∧(i64.wrap (a - 1)) < (a0.f2.length : Int) then (some (decide (((rd a0.f2 a).f3) ≠ ((rd a0.f2 (i64.wrap (a - 1))).f3)))) else none) else none) else (some false))) else none : Option (Bool)).bind (fun h=>if h = true then (some (Out.ret (false))) else ((if 0 ≤ a∧a < (a0.f2.length : Int) then (if ((rd a0.f2 a).f2) = 2 then (if a0.f0 ≠ 0 then (some (decide ((a.tmod a0.f0) = (i64.wrap (a0.f0 - 1))))) else none) else (some false)) else none : Option (Bool)).bind (fun b=>if b = true then (some (Out.ret (false))) else (lt (i64.wrap (a + 1)) fun c=>gi.l0 a0 k c)))))) else none))) else none) else (some (Out.go ()))
def gi.f (k : Nat) (a0 : bF) : Option (Bool):=(pQ.f a0.f0).bind (fun c=>(if (!c) = true then (some true) else ((pQ.f a0.f1).bind (fun d=>some (!d))) : Option Bool).bind (fun h=>lt (h || (decide ((a0.f2.length : Int) ≠ (i64.wrap (a0.f0 * a0.f1))))) fun a=>if a = true then (some (false)) else ((gi.l0 a0 k 0 : Option (Out (Bool) (Unit))).bind (fun b=>Out.el b (fun r_=>some r_) (fun j=>some (true))))))
theorem gi.ok {a0 : bF} {r : Bool} (H : gi.f k a0 = some r) : fK Tryz.prog 54 #[.agg #[ae a0.f0,ae a0.f1,.slice ag a0.f2.length af]] [Buf bE 55 ag af a0.f2] (.bool r):=by
 refine ai Tryz.func54 rfl rfl ?_
 unfold gi.f at H
 refine aQ (o' (bN (h:=fun s=>ad aV (h:=eJ (ad aE (h:=l' (aT 1) ?_))))))
 obtain⟨r4,a6,H⟩:=ac H
 refine o' (da [] [0,1] (pQ.ok a6) ?_)
 refine ad (ca rfl) (h:=S' ax ?_)
 obtain⟨q5,H,c6⟩:=ac H
 refine eg 5 [(1,aK s),(14,.bool q5)] [Buf bE 55 ag af a0.f2,aL s 26 [ae a0.f0,ae a0.f1,.slice ag a0.f2.length af]] ?_ fun junk=>?_
 ·rcases bH H with⟨B,H⟩|⟨B,H⟩
  ·refine cI 4 B (ii B ?_)
   have h:=aN H;subst h
   exact dV [0,1]
  refine bn (aX B) aE (h:=z' (aX B) (aT 1) ?_)
  obtain⟨r7,C8,H⟩:=ac H
  refine gE (aX B) (da [] [0,1] (pQ.ok C8) ?_)
  refine bn (aX B) (ca rfl) (h:=gL (aX B) ?_)
  have h:=aN H;subst h
  exact dV [0,1]
 replace H:=c6
 refine S' ax ?_
 obtain⟨c7,O,H⟩:=br H
 refine cD 10 (St [(1,aK s),(25,.bool c7)] [Buf bE 55 ag af a0.f2,aL s 26 [ae a0.f0,ae a0.f1,.slice ag a0.f2.length af]]) ?_ ?_
 ·by_cases l : q5 = true
  ·refine cI 9 l (cq l (h:=aj ?_))
   have x_:=jL O l;exact bM [0,1]
  refine bn (aX l) aE (h:=dc (aX l) (aT 1) (h:=kQ (aX l) (ae (a0.f2.length : Int)) (dB Tryz.underlying24 rfl) (h:=bn (aX l) aE (h:=dc (aX l) (aT 1) (h:=bn (aX l) aE (h:=dc (aX l) (aT 1) (h:=bn (aX l) (jq rfl rfl) (h:=bn (aX l) (dK rfl rfl) (h:=gL (aX l) ?_)))))))))
  refine aj ?_
  have x_:=jN O ((aX l));exact bM [0,1]
 rintro e ds As a7
 refine bC (SA.of_St a7 fun junk=>?_)
 rcases bH H with⟨R,H⟩|⟨R,H⟩
 ·refine aC rfl R (aQ (ad aV (h:=cE ?_)))
  have h:=aN H;subst h
  exact er [0] ⟨rfl,rfl⟩
 refine aD rfl R (ap (aa (ao (aQ (ad aV (h:=bC ?_))))))
 obtain⟨b3,H,q⟩:=ac H
 refine bI (fun e ds As=>∃ (b4 : Unit),b3 = Out.go b4∧St [] [Buf bE 55 ag af a0.f2] e ds As) ?_ ?_
 ·refine aU (cw (fun k_ e ds As=>∃ (a : Int),gi.l0 a0 k_ a = some b3∧St [(1,aK s),(3,ae a)] [Buf bE 55 ag af a0.f2,aL s 26 [ae a0.f0,ae a0.f1,.slice ag a0.f2.length af]] e ds As) (k:=k) ⟨_,H,kW [0,1]⟩ ?_)
  clear H
  rintro S e ds As ⟨a,H,a8⟩
  obtain _ | S:=S
  ·cases H
  rw [gi.l0] at H
  refine SA.of_St a8 fun junk=>ao (aQ (ad ax (h:=ad aE (h:=bD (aT 1) (h:=bO (ae (a0.f2.length : Int)) (dB Tryz.underlying24 rfl) (h:=ad (cn rfl rfl) (h:=bC ?_)))))))
  rcases bH H with⟨U,H⟩|⟨U,H⟩
  ·refine aB rfl U (ap (aa (ao (aU (ao (aQ (ad aE (h:=bD (aT 1) (h:=S' ax ?_)))))))))
   obtain⟨⟨b5,b6⟩,H⟩:=aR H
   refine bD (bK (i:=a) Tryz.underlying24 cl rfl rfl (Src.buf (k:=0) rfl) b5 b6) (h:=l' (cj (enc:=di) (i:=a) (j:=a.toNat * 15) (m:=0) (sz:=15) (vs:=(bR (aZ.mk ((rd a0.f2 a).f0) ((rd a0.f2 a).f1) ((rd a0.f2 a).f2) ((rd a0.f2 a).f3)))) Tryz.underlying55 rfl cl rfl rfl rfl (Src.buf (k:=0) rfl) b5 b6 (fun _ _ h=>h) rfl) ?_)
   obtain⟨gy,a9,H⟩:=ac H
   refine o' (da [] [0,1] (kU.ok a9) ?_)
   refine ad (ca rfl) (h:=bC ?_)
   rcases bH H with⟨Y,H⟩|⟨Y,H⟩
   ·refine aC rfl Y (aQ (ad aV (h:=cE (bi (aI (aI (bi (aI (aI ?_)))))))))
    have h:=aN H;subst h
    have hb_:=dS q
    have hr_:=Option.some.inj hb_
    clear hb_
    subst hr_
    exact er [0] ⟨rfl,rfl⟩
   refine aD rfl Y (ap (aa (aQ (ad ax (h:=ad aE (h:=l' (aT 1) ?_))))))
   obtain⟨c8,H⟩:=aR H
   refine bO (ae (a.tmod a0.f0)) (oZ rfl rfl c8) (h:=ad (eR rfl rfl) (h:=S' ax ?_))
   obtain⟨b7,H,c5⟩:=ac H
   refine eg 9 [(1,aK s),(3,ae a),(54,.bool b7)] [Buf bE 55 ag af a0.f2,aL s 26 [ae a0.f0,ae a0.f1,.slice ag a0.f2.length af]] ?_ fun junk=>?_
   ·rcases bH H with⟨o,H⟩|⟨o,H⟩
    ·refine bn (ak o) aE (h:=dc (ak o) (aT 1) (h:=bn (ak o) ax (h:=Y' (ak o) (cY rfl rfl) ?_)))
     obtain⟨⟨b8,b9⟩,H⟩:=aR H
     refine dc (ak o) (bK (i:=i64.wrap (a - 1)) Tryz.underlying24 cl rfl rfl (Src.buf (k:=0) rfl) b8 b9) (h:=kQ (ak o) (.pointer (some ((el ag ((i64.wrap (a - 1)).toNat * 15)).add 4))) (mL (el ag ((i64.wrap (a - 1)).toNat * 15)) 0 4) (h:=dc (ak o) (bQ (enc:=di) (i:=i64.wrap (a - 1)) (j:=(i64.wrap (a - 1)).toNat * 15) (m:=4) (sz:=15) Tryz.underlying5 rfl rfl rfl rfl (Src.buf (k:=0) rfl) b8 b9 (fun _ _ h=>h) rfl) (h:=bn (ak o) (bk rfl rfl) (h:=ii (ak o) ?_))))
     have h:=aN H;subst h
     exact dV [0,1]
    refine cI 8 (am o) (gL (am o) ?_)
    have h:=aN H;subst h
    exact dV [0,1]
   replace H:=c5
   refine ad aV (h:=bC (ao (ao ?_)))
   obtain⟨c9,H,Z⟩:=ac H
   refine bI (St [(1,aK s),(3,ae a),(82,.bool c9)] [Buf bE 55 ag af a0.f2,aL s 26 [ae a0.f0,ae a0.f1,.slice ag a0.f2.length af]]) ?_ ?_
   ·refine fk (dG 0 28) [0,1] [] fun _ _ _ _ _ sH dd pk=>?_
    refine bf 0 rfl sH aE (h:=bT 1 rfl sH (aT 1) (h:=T' 2 rfl sH ax ?_))
    obtain⟨⟨a1,a2⟩,H⟩:=aR H
    refine bT 3 rfl sH (bK (i:=a) Tryz.underlying24 cl rfl rfl (Src.buf (k:=0) rfl) a1 a2) (h:=kY (.pointer (some ((el ag (a.toNat * 15)).add 4))) 4 rfl sH (mL (el ag (a.toNat * 15)) 0 4) (h:=bT 5 rfl sH (bQ (enc:=di) (i:=a) (j:=a.toNat * 15) (m:=4) (sz:=15) Tryz.underlying5 rfl rfl rfl rfl (Src.buf (k:=0) rfl) a1 a2 (fun _ _ h=>h) rfl) (h:=bf 6 rfl sH (bk rfl rfl) (h:=bf 7 rfl sH ax (h:=kY (.bool (decide ((decide (((rd a0.f2 a).f2) = 0)) ≠ b7))) 8 rfl sH (rp Tryz.underlying4 rfl rfl) (h:=T' 9 rfl sH ax ?_))))))
    rcases bH H with⟨d,H⟩|⟨d,H⟩
    ·refine cb 10 rfl (ak d) (cb 11 rfl (ak d) (cQ 12 rfl (cQ 13 rfl (cQ 14 rfl (cQ 15 rfl (cQ 16 rfl (cQ 17 rfl (cQ 18 rfl (cQ 19 rfl ?_)))))))))
     refine cQ 20 rfl (cQ 21 rfl (cQ 22 rfl (cQ 23 rfl (cQ 24 rfl (cQ 25 rfl (cb 26 rfl (ak d) (bT 27 rfl sH (VR.ofV (bX rfl (ak d) rfl)) (h:=aW dd sH (aH (by kernel_rfl) ?_)))))))))
     have h:=aN H;subst h
     exact bM [0,1]
    refine du 10 rfl (am d) sH ax (h:=ml 11 rfl (am d) sH ax ?_)
    rcases bH H with⟨b,H⟩|⟨b,H⟩
    ·refine du 12 rfl b sH aE (h:=cU 13 rfl b sH (aT 1) (h:=ml 14 rfl b sH ax ?_))
     obtain⟨⟨a3,a4⟩,H⟩:=aR H
     refine cU 15 rfl b sH (bK (i:=a) Tryz.underlying24 cl rfl rfl (Src.buf (k:=0) rfl) a3 a4) (h:=jp (.pointer (some ((el ag (a.toNat * 15)).add 5))) 16 rfl b sH (mL (el ag (a.toNat * 15)) 0 5) (h:=cU 17 rfl b sH (cj (enc:=di) (i:=a) (j:=a.toNat * 15) (m:=5) (sz:=15) (vs:=(bG ((rd a0.f2 a).f3))) Tryz.underlying28 rfl mZ rfl rfl rfl (Src.buf (k:=0) rfl) a3 a4 (fun _ _ h=>h) rfl) (h:=du 18 rfl b sH aE (h:=cU 19 rfl b sH (aT 1) (h:=du 20 rfl b sH ax (h:=ml 21 rfl b sH (cY rfl rfl) ?_))))))
     obtain⟨⟨E,F⟩,H⟩:=aR H
     refine cU 22 rfl b sH (bK (i:=i64.wrap (a - 1)) Tryz.underlying24 cl rfl rfl (Src.buf (k:=0) rfl) E F) (h:=jp (.pointer (some ((el ag ((i64.wrap (a - 1)).toNat * 15)).add 5))) 23 rfl b sH (mL (el ag ((i64.wrap (a - 1)).toNat * 15)) 0 5) (h:=cU 24 rfl b sH (cj (enc:=di) (i:=i64.wrap (a - 1)) (j:=(i64.wrap (a - 1)).toNat * 15) (m:=5) (sz:=15) (vs:=(bG ((rd a0.f2 (i64.wrap (a - 1))).f3))) Tryz.underlying28 rfl mZ rfl rfl rfl (Src.buf (k:=0) rfl) E F (fun _ _ h=>h) rfl) (h:=jp (.bool (decide (((rd a0.f2 a).f3) ≠ ((rd a0.f2 (i64.wrap (a - 1))).f3)))) 25 rfl b sH (mO (xs:=(bG ((rd a0.f2 a).f3))) (ys:=(bG ((rd a0.f2 (i64.wrap (a - 1))).f3))) (r:=(((((rd a0.f2 a).f3).f0) == (((rd a0.f2 (i64.wrap (a - 1))).f3).f0)) && (((((rd a0.f2 a).f3).f1) == (((rd a0.f2 (i64.wrap (a - 1))).f3).f1)) && (((((rd a0.f2 a).f3).f2) == (((rd a0.f2 (i64.wrap (a - 1))).f3).f2)) && (((((rd a0.f2 a).f3).f3) == (((rd a0.f2 (i64.wrap (a - 1))).f3).f3)) && (((((rd a0.f2 a).f3).f4) == (((rd a0.f2 (i64.wrap (a - 1))).f3).f4)) && (((((rd a0.f2 a).f3).f5) == (((rd a0.f2 (i64.wrap (a - 1))).f3).f5)) && (((((rd a0.f2 a).f3).f6) == (((rd a0.f2 (i64.wrap (a - 1))).f3).f6)) && (((((rd a0.f2 a).f3).f7) == (((rd a0.f2 (i64.wrap (a - 1))).f3).f7)) && (((((rd a0.f2 a).f3).f8) == (((rd a0.f2 (i64.wrap (a - 1))).f3).f8)) && (((((rd a0.f2 a).f3).f9) == (((rd a0.f2 (i64.wrap (a - 1))).f3).f9)) && true))))))))))) (p:=((rd a0.f2 a).f3) = ((rd a0.f2 (i64.wrap (a - 1))).f3)) ng rfl rfl (by kernel_rfl) (nh (x:=((rd a0.f2 a).f3)) (y:=((rd a0.f2 (i64.wrap (a - 1))).f3)))) (h:=cU 26 rfl (am d) sH (VR.ofV (bX rfl (b) rfl)) (h:=bT 27 rfl sH (VR.ofV (bY rfl (am d) rfl)) (h:=aW dd sH (aH (by kernel_rfl) ?_)))))))
     have h:=aN H;subst h
     exact bM [0,1]
    refine cb 12 rfl (aX b) (cb 13 rfl (aX b) (cb 14 rfl (aX b) (cb 15 rfl (aX b) (cb 16 rfl (aX b) (cb 17 rfl (aX b) (cb 18 rfl (aX b) (cb 19 rfl (aX b) (cb 20 rfl (aX b) (cb 21 rfl (aX b) ?_)))))))))
    refine cb 22 rfl (aX b) (cb 23 rfl (aX b) (cb 24 rfl (aX b) (cb 25 rfl (aX b) (cU 26 rfl (am d) sH (VR.ofV (bY rfl (aX b) rfl)) (h:=bT 27 rfl sH (VR.ofV (bY rfl (am d) rfl)) (h:=aW dd sH (aH (by kernel_rfl) ?_)))))))
    have h:=aN H;subst h
    exact bM [0,1]
   rintro e ds As L
   clear H
   have H:=Z
   clear Z
   refine aa (SA.of_St L fun junk=>?_)
   rcases bH H with⟨u,H⟩|⟨u,H⟩
   ·refine aC rfl u (aQ (ad aV (h:=cE (bi (aI (aI (bi (aI (aI ?_)))))))))
    have h:=aN H;subst h
    have hb_:=dS q
    have hr_:=Option.some.inj hb_
    clear hb_
    subst hr_
    exact er [0] ⟨rfl,rfl⟩
   refine aD rfl u (ap (aa (ao ?_)))
   obtain⟨b0,H,D⟩:=ac H
   refine bI (St [(1,aK s),(3,ae a),(99,.bool b0)] [Buf bE 55 ag af a0.f2,aL s 26 [ae a0.f0,ae a0.f1,.slice ag a0.f2.length af]]) ?_ ?_
   ·refine fk (dG 0 17) [0,1] [] fun _ _ _ _ _ sH dd pk=>?_
    refine bf 0 rfl sH aE (h:=bT 1 rfl sH (aT 1) (h:=T' 2 rfl sH ax ?_))
    obtain⟨⟨I,J⟩,H⟩:=aR H
    refine bT 3 rfl sH (bK (i:=a) Tryz.underlying24 cl rfl rfl (Src.buf (k:=0) rfl) I J) (h:=kY (.pointer (some ((el ag (a.toNat * 15)).add 4))) 4 rfl sH (mL (el ag (a.toNat * 15)) 0 4) (h:=bT 5 rfl sH (bQ (enc:=di) (i:=a) (j:=a.toNat * 15) (m:=4) (sz:=15) Tryz.underlying5 rfl rfl rfl rfl (Src.buf (k:=0) rfl) I J (fun _ _ h=>h) rfl) (h:=bf 6 rfl sH (bk rfl rfl) (h:=T' 7 rfl sH ax ?_))))
    rcases bH H with⟨c,H⟩|⟨c,H⟩
    ·refine du 8 rfl (ak c) sH ax (h:=du 9 rfl (ak c) sH aE (h:=AL 10 rfl (ak c) sH (aT 1) ?_))
     obtain⟨b1,H⟩:=aR H
     refine jp (ae (a.tmod a0.f0)) 11 rfl (ak c) sH (oZ rfl rfl b1) (h:=du 12 rfl (ak c) sH aE (h:=cU 13 rfl (ak c) sH (aT 1) (h:=du 14 rfl (ak c) sH (cY rfl rfl) (h:=du 15 rfl (ak c) sH (bk rfl rfl) (h:=bT 16 rfl sH (VR.ofV (bX rfl (ak c) rfl)) (h:=aW dd sH (aH (by kernel_rfl) ?_)))))))
     have h:=aN H;subst h
     exact bM [0,1]
    refine cb 8 rfl (am c) (cb 9 rfl (am c) (cb 10 rfl (am c) (cb 11 rfl (am c) (cb 12 rfl (am c) (cb 13 rfl (am c) (cb 14 rfl (am c) (cb 15 rfl (am c) (bT 16 rfl sH (VR.ofV (bY rfl (am c) rfl)) (h:=aW dd sH ?_)))))))))
    refine aH (by kernel_rfl) ?_
    have h:=aN H;subst h
    exact bM [0,1]
   rintro e ds As M
   clear H
   have H:=D
   clear D
   refine aa (SA.of_St M fun junk=>?_)
   rcases bH H with⟨z,H⟩|⟨z,H⟩
   ·refine aC rfl z (aQ (ad aV (h:=cF (bi (aI (aI (bi (aI (aI ?_)))))))))
    have h:=aN H;subst h
    have hb_:=dS q
    have hr_:=Option.some.inj hb_
    clear hb_
    subst hr_
    exact er [0] ⟨rfl,rfl⟩
   refine aD rfl z (ap (aF (aa (ah (ad ax (h:=S' (bV rfl rfl) ?_))))))
   obtain⟨K,a5,H⟩:=br H
   refine bO (ae K) (bz (v:=ae K) (congrArg (Value.int .i64) a5.symm)) (h:=aj ?_)
   exact aa ⟨S,Nat.lt_succ_self _,_,H,ed [0,1]⟩
  refine aA rfl U (ct (bc (bc (cr ?_))))
  have h:=aN H;subst h
  exact aa ⟨(),rfl,ed [0]⟩
 rintro e ds As ⟨b4,ht,N⟩
 clear H
 subst ht
 replace q:=fW q
 have H:=q
 clear q
 refine aa (SA.of_St N fun junk=>aQ (ad aV (h:=cF ?_)))
 have h:=aN H;subst h
 exact er [0] ⟨rfl,rfl⟩


def mh.f (a0 : bF) (a1 : Int) (a2 : Int) (a3 : Bool) : Option (Bool):=lt ((decide (a1 ≥ 0)) && (decide (a1 < a0.f1))) fun c=>lt (c && (decide (a2 ≥ 0))) fun d=>lt (d && (decide (a2 < a0.f0))) fun a=>(if a = true then (if (!a3) = true then (some true) else (some (decide (a2 = (i64.wrap (a0.f0 - 1)))))) else (some false) : Option Bool).bind (fun b=>some (b))
theorem mh.ok {a0 : bF} {a1 : Int} {a2 : Int} {a3 : Bool} {r : Bool} (H : mh.f a0 a1 a2 a3 = some r) : fK Tryz.prog 55 #[.agg #[ae a0.f0,ae a0.f1,.slice ag a0.f2.length af],ae a1,ae a2,.bool a3] [Buf bE 55 ag af a0.f2] (.bool r):=by
 refine ai Tryz.func55 rfl rfl ?_
 unfold mh.f at H
 refine aQ (o' (bN (h:=fun l=>ad aV (h:=cV (ad ax (h:=ad (dI rfl rfl) (h:=S' ax ?_)))))))
 obtain⟨s,o,H⟩:=br H
 refine eg 5 [(2,ae a2),(3,.bool a3),(4,aK l),(16,.bool s)] [Buf bE 55 ag af a0.f2,aL l 26 [ae a0.f0,ae a0.f1,.slice ag a0.f2.length af]] ?_ fun junk=>?_
 ·by_cases d : a1 ≥ 0
  ·refine bn (ak d) ax (h:=bn (ak d) aE (h:=dc (ak d) (aT 1) (h:=bn (ak d) (cn rfl rfl) (h:=cq (ak d) (h:=aj ?_)))))
   have x_:=gD o ((ak d));exact bM [0,1]
  refine cI 4 (am d) (cv (am d) (h:=aj ?_))
  have x_:=gC o ((am d));exact bM [0,1]
 refine S' ax ?_
 obtain⟨u,p,H⟩:=br H
 refine eg 3 [(2,ae a2),(3,.bool a3),(4,aK l),(20,.bool u)] [Buf bE 55 ag af a0.f2,aL l 26 [ae a0.f0,ae a0.f1,.slice ag a0.f2.length af]] ?_ fun junk=>?_
 ·by_cases j : s = true
  ·refine bn j ax (h:=bn j (dI rfl rfl) (h:=cq j (h:=aj ?_)))
   have x_:=gD p j;exact bM [0,1]
  refine cI 2 (aX j) (cv (aX j) (h:=aj ?_))
  have x_:=gC p ((aX j));exact bM [0,1]
 refine S' ax ?_
 obtain⟨y,m,H⟩:=br H
 refine eg 5 [(2,ae a2),(3,.bool a3),(4,aK l),(26,.bool y)] [Buf bE 55 ag af a0.f2,aL l 26 [ae a0.f0,ae a0.f1,.slice ag a0.f2.length af]] ?_ fun junk=>?_
 ·by_cases b : u = true
  ·refine bn b ax (h:=bn b aE (h:=dc b (aT 1) (h:=bn b (cn rfl rfl) (h:=cq b (h:=aj ?_)))))
   have x_:=gD m b;exact bM [0,1]
  refine cI 4 (aX b) (cv (aX b) (h:=aj ?_))
  have x_:=gC m ((aX b));exact bM [0,1]
 refine S' ax ?_
 obtain⟨z,H,q⟩:=ac H
 refine eg 10 [(37,.bool z)] [Buf bE 55 ag af a0.f2] ?_ fun junk=>?_
 ·rcases bH H with⟨a,H⟩|⟨a,H⟩
  ·refine bn a ax (h:=bn a (ca rfl) (h:=Y' a ax ?_))
   rcases bH H with⟨c,H⟩|⟨c,H⟩
   ·refine cI 5 c (gE a (dl rfl (bX rfl (c) rfl) (ii a ?_)))
    have h:=aN H;subst h
    exact dV [0]
   refine bn (aX c) ax (h:=bn (aX c) aE (h:=dc (aX c) (aT 1) (h:=bn (aX c) (cY rfl rfl) (h:=bn (aX c) (bk rfl rfl) (h:=gE a (dl rfl (bY rfl (aX c) rfl) (ii a ?_)))))))
   have h:=aN H;subst h
   exact dV [0]
  refine cI 3 (aX a) (gj (gj (gj (gj (gj (cI 1 (aX a) (gL (aX a) ?_)))))))
  have h:=aN H;subst h
  exact dV [0]
 replace H:=q
 refine ad aV (h:=cF ?_)
 have h:=aN H;subst h
 exact er [0] ⟨rfl,rfl⟩

end Go.Proofs.YtckilbegmbaeeaaGreat.Z3

/- Walks. -/
import Derived.Test.YtckilbegmbaeeaaGreatZ68
namespace Go.Proofs.YtckilbegmbaeeaaGreat.Z6
open Go Go.RowKit Go.Proofs.YtckilbegmbaeeaaGreat.SL
open Go.IntKind (i64)
set_option linter.unusedVariables false
set_option maxHeartbeats 20000000
set_option maxRecDepth 100000
set_option linter.unusedSimpArgs false
attribute [local irreducible] IntKind.wrap da fk gR kN kD po ky eS kF rd sub bytesOf ib dj
variable {bg ag az av ax k : Nat}
variable {af ay au aw : Option Addr}
def fA.l0 (a0 : bH) : Nat → Int → Option (Out (Bool) (Unit))
  | 0,_=>none
  | k + 1,a=>if a < (a0.f2.length : Int) then (if 0 ≤ a∧a < (a0.f2.length : Int) then ((kA.f k (rd a0.f2 a)).bind (fun gB=>if (!gB) = true then (some (Out.ret (false))) else (if a0.f0 ≠ 0 then ((if (a.tmod a0.f0) > 0 then (if 0 ≤ (i64.wrap (a - 1))∧(i64.wrap (a - 1)) < (a0.f2.length : Int) then (some (decide (((rd a0.f2 (i64.wrap (a - 1))).f2) = 2))) else none) else (some false) : Option Bool).bind (fun d=>(if 0 ≤ a∧a < (a0.f2.length : Int) then (if (decide (((rd a0.f2 a).f2) = 0)) ≠ d then (some true) else (if d = true then (if 0 ≤ a∧a < (a0.f2.length : Int) then (if 0 ≤ (i64.wrap (a - 1))∧(i64.wrap (a - 1)) < (a0.f2.length : Int) then (some (decide (((rd a0.f2 a).f3) ≠ ((rd a0.f2 (i64.wrap (a - 1))).f3)))) else none) else none) else (some false))) else none : Option (Bool)).bind (fun h=>if h = true then (some (Out.ret (false))) else ((if 0 ≤ a∧a < (a0.f2.length : Int) then (if ((rd a0.f2 a).f2) = 2 then (if a0.f0 ≠ 0 then (some (decide ((a.tmod a0.f0) = (i64.wrap (a0.f0 - 1))))) else none) else (some false)) else none : Option (Bool)).bind (fun c=>if c = true then (some (Out.ret (false))) else (lt (i64.wrap (a + 1)) fun b=>fA.l0 a0 k b)))))) else none))) else none) else (some (Out.go ()))
def fA.f (k : Nat) (a0 : bH) : Option (Bool):=(oU.f a0.f0).bind (fun d=>(if (!d) = true then (some true) else ((oU.f a0.f1).bind (fun h=>some (!h))) : Option Bool).bind (fun c=>lt (c || (decide ((a0.f2.length : Int) ≠ (i64.wrap (a0.f0 * a0.f1))))) fun a=>if a = true then (some (false)) else ((fA.l0 a0 k 0 : Option (Out (Bool) (Unit))).bind (fun b=>Out.el b (fun r_=>some r_) (fun j=>some (true))))))
theorem fA.ok {a0 : bH} {r : Bool} (H : fA.f k a0 = some r) : fS Tryz.prog 54 #[.agg #[ae a0.f0,ae a0.f1,.slice af a0.f2.length ag]] [Buf bD 55 af ag a0.f2] (.bool r):=by
 refine aj Tryz.func54 rfl rfl ?_
 unfold fA.f at H
 refine aR (o' (bO (h:=fun s=>ad aW (h:=eD (ad aA (h:=l' (aP 1) ?_))))))
 obtain⟨r4,a7,H⟩:=ac H
 refine o' (dc [] [0,1] (oU.ok a7) ?_)
 refine ad (bX rfl) (h:=S' ar ?_)
 obtain⟨q5,H,c6⟩:=ac H
 refine dy 5 [(1,aH s),(14,.bool q5)] [Buf bD 55 af ag a0.f2,aK s 26 [ae a0.f0,ae a0.f1,.slice af a0.f2.length ag]] ?_ fun junk=>?_
 ·rcases bE H with⟨D,H⟩|⟨D,H⟩
  ·refine cu 4 D (gN D ?_)
   have h:=aN H;subst h
   exact dL [0,1]
  refine bf (aM D) aA (h:=z' (aM D) (aP 1) ?_)
  obtain⟨r7,C8,H⟩:=ac H
  refine fT (aM D) (dc [] [0,1] (oU.ok C8) ?_)
  refine bf (aM D) (bX rfl) (h:=fZ (aM D) ?_)
  have h:=aN H;subst h
  exact dL [0,1]
 replace H:=c6
 refine S' ar ?_
 obtain⟨c8,a4,H⟩:=bj H
 refine cK 10 (St [(1,aH s),(25,.bool c8)] [Buf bD 55 af ag a0.f2,aK s 26 [ae a0.f0,ae a0.f1,.slice af a0.f2.length ag]]) ?_ ?_
 ·by_cases l : q5 = true
  ·refine cu 9 l (cd l (h:=ah ?_))
   have x_:=ji a4 l;exact bK [0,1]
  refine bf (aM l) aA (h:=cE (aM l) (aP 1) (h:=iI (aM l) (ae (a0.f2.length : Int)) (cO Tryz.underlying24 rfl) (h:=bf (aM l) aA (h:=cE (aM l) (aP 1) (h:=bf (aM l) aA (h:=cE (aM l) (aP 1) (h:=bf (aM l) (jt rfl rfl) (h:=bf (aM l) (dK rfl rfl) (h:=fZ (aM l) ?_)))))))))
  refine ah ?_
  have x_:=jh a4 ((aM l));exact bK [0,1]
 rintro e ds As a9
 refine bA (SA.of_St a9 fun junk=>?_)
 rcases bE H with⟨Z,H⟩|⟨Z,H⟩
 ·refine aD rfl Z (aR (ad aW (h:=cD ?_)))
  have h:=aN H;subst h
  exact dX [0] ⟨rfl,rfl⟩
 refine aE rfl Z (ap (aa (ao (aR (ad aW (h:=bA ?_))))))
 obtain⟨b9,H,q⟩:=ac H
 refine bI (fun e ds As=>∃ (b8 : Unit),b9 = Out.go b8∧St [] [Buf bD 55 af ag a0.f2] e ds As) ?_ ?_
 ·refine aQ (cj (fun k_ e ds As=>∃ (a : Int),fA.l0 a0 k_ a = some b9∧St [(1,aH s),(3,ae a)] [Buf bD 55 af ag a0.f2,aK s 26 [ae a0.f0,ae a0.f1,.slice af a0.f2.length ag]] e ds As) (k:=k) ⟨_,H,jV [0,1]⟩ ?_)
  clear H
  rintro a5 e ds As ⟨a,H,b0⟩
  obtain _ | a5:=a5
  ·cases H
  rw [fA.l0] at H
  refine SA.of_St b0 fun junk=>ao (aR (ad ar (h:=ad aA (h:=bp (aP 1) (h:=bP (ae (a0.f2.length : Int)) (cO Tryz.underlying24 rfl) (h:=ad (ce rfl rfl) (h:=bA ?_)))))))
  rcases bE H with⟨a1,H⟩|⟨a1,H⟩
  ·refine aC rfl a1 (ap (aa (ao (aQ (ao (aR (ad aA (h:=bp (aP 1) (h:=S' ar ?_)))))))))
   obtain⟨⟨b3,b4⟩,H⟩:=aO H
   refine bp (bu (i:=a) Tryz.underlying24 cl rfl rfl (Src.buf (k:=0) rfl) b3 b4) (h:=l' (ci (enc:=cZ) (i:=a) (j:=a.toNat * 15) (m:=0) (sz:=15) (vs:=(bV (aY.mk ((rd a0.f2 a).f0) ((rd a0.f2 a).f1) ((rd a0.f2 a).f2) ((rd a0.f2 a).f3)))) Tryz.underlying55 rfl cl rfl rfl rfl (Src.buf (k:=0) rfl) b3 b4 (fun _ _ h=>h) rfl) ?_)
   obtain⟨gB,a6,H⟩:=ac H
   refine o' (dc [] [0,1] (kA.ok a6) ?_)
   refine ad (bX rfl) (h:=bA ?_)
   rcases bE H with⟨a2,H⟩|⟨a2,H⟩
   ·refine aD rfl a2 (aR (ad aW (h:=cD (ba (aG (aG (ba (aG (aG ?_)))))))))
    have h:=aN H;subst h
    have hb_:=dw q
    have hr_:=Option.some.inj hb_
    clear hb_
    subst hr_
    exact dX [0] ⟨rfl,rfl⟩
   refine aE rfl a2 (ap (aa (aR (ad ar (h:=ad aA (h:=l' (aP 1) ?_))))))
   obtain⟨c7,H⟩:=aO H
   refine bP (ae (a.tmod a0.f0)) (nf rfl rfl c7) (h:=ad (eK rfl rfl) (h:=S' ar ?_))
   obtain⟨b7,H,c5⟩:=ac H
   refine dy 9 [(1,aH s),(3,ae a),(54,.bool b7)] [Buf bD 55 af ag a0.f2,aK s 26 [ae a0.f0,ae a0.f1,.slice af a0.f2.length ag]] ?_ fun junk=>?_
   ·rcases bE H with⟨o,H⟩|⟨o,H⟩
    ·refine bf (ai o) aA (h:=cE (ai o) (aP 1) (h:=bf (ai o) ar (h:=Y' (ai o) (cT rfl rfl) ?_)))
     obtain⟨⟨b5,b6⟩,H⟩:=aO H
     refine cE (ai o) (bu (i:=i64.wrap (a - 1)) Tryz.underlying24 cl rfl rfl (Src.buf (k:=0) rfl) b5 b6) (h:=iI (ai o) (.pointer (some ((el af ((i64.wrap (a - 1)).toNat * 15)).add 4))) (lp (el af ((i64.wrap (a - 1)).toNat * 15)) 0 4) (h:=cE (ai o) (bJ (enc:=cZ) (i:=i64.wrap (a - 1)) (j:=(i64.wrap (a - 1)).toNat * 15) (m:=4) (sz:=15) Tryz.underlying5 rfl rfl rfl rfl (Src.buf (k:=0) rfl) b5 b6 (fun _ _ h=>h) rfl) (h:=bf (ai o) (bk rfl rfl) (h:=gN (ai o) ?_))))
     have h:=aN H;subst h
     exact dL [0,1]
    refine cu 8 (am o) (fZ (am o) ?_)
    have h:=aN H;subst h
    exact dL [0,1]
   replace H:=c5
   refine ad aW (h:=bA (ao (ao ?_)))
   obtain⟨c9,H,O⟩:=ac H
   refine bI (St [(1,aH s),(3,ae a),(82,.bool c9)] [Buf bD 55 af ag a0.f2,aK s 26 [ae a0.f0,ae a0.f1,.slice af a0.f2.length ag]]) ?_ ?_
   ·refine fj (dt 0 28) [0,1] [] fun _ _ _ _ _ sH dd pk=>?_
    refine bc 0 rfl sH aA (h:=bQ 1 rfl sH (aP 1) (h:=T' 2 rfl sH ar ?_))
    obtain⟨⟨R,S⟩,H⟩:=aO H
    refine bQ 3 rfl sH (bu (i:=a) Tryz.underlying24 cl rfl rfl (Src.buf (k:=0) rfl) R S) (h:=kV (.pointer (some ((el af (a.toNat * 15)).add 4))) 4 rfl sH (lp (el af (a.toNat * 15)) 0 4) (h:=bQ 5 rfl sH (bJ (enc:=cZ) (i:=a) (j:=a.toNat * 15) (m:=4) (sz:=15) Tryz.underlying5 rfl rfl rfl rfl (Src.buf (k:=0) rfl) R S (fun _ _ h=>h) rfl) (h:=bc 6 rfl sH (bk rfl rfl) (h:=bc 7 rfl sH ar (h:=kV (.bool (decide ((decide (((rd a0.f2 a).f2) = 0)) ≠ b7))) 8 rfl sH (oX Tryz.underlying4 rfl rfl) (h:=T' 9 rfl sH ar ?_))))))
    rcases bE H with⟨d,H⟩|⟨d,H⟩
    ·refine bT 10 rfl (ai d) (bT 11 rfl (ai d) (cG 12 rfl (cG 13 rfl (cG 14 rfl (cG 15 rfl (cG 16 rfl (cG 17 rfl (cG 18 rfl (cG 19 rfl ?_)))))))))
     refine cG 20 rfl (cG 21 rfl (cG 22 rfl (cG 23 rfl (cG 24 rfl (cG 25 rfl (bT 26 rfl (ai d) (bQ 27 rfl sH (VR.ofV (bS rfl (ai d) rfl)) (h:=aV dd sH (aI (by kernel_rfl) ?_)))))))))
     have h:=aN H;subst h
     exact bK [0,1]
    refine cY 10 rfl (am d) sH ar (h:=kX 11 rfl (am d) sH ar ?_)
    rcases bE H with⟨b,H⟩|⟨b,H⟩
    ·refine cY 12 rfl b sH aA (h:=cJ 13 rfl b sH (aP 1) (h:=kX 14 rfl b sH ar ?_))
     obtain⟨⟨U,Y⟩,H⟩:=aO H
     refine cJ 15 rfl b sH (bu (i:=a) Tryz.underlying24 cl rfl rfl (Src.buf (k:=0) rfl) U Y) (h:=iD (.pointer (some ((el af (a.toNat * 15)).add 5))) 16 rfl b sH (lp (el af (a.toNat * 15)) 0 5) (h:=cJ 17 rfl b sH (ci (enc:=cZ) (i:=a) (j:=a.toNat * 15) (m:=5) (sz:=15) (vs:=(bF ((rd a0.f2 a).f3))) Tryz.underlying28 rfl mf rfl rfl rfl (Src.buf (k:=0) rfl) U Y (fun _ _ h=>h) rfl) (h:=cY 18 rfl b sH aA (h:=cJ 19 rfl b sH (aP 1) (h:=cY 20 rfl b sH ar (h:=kX 21 rfl b sH (cT rfl rfl) ?_))))))
     obtain⟨⟨E,F⟩,H⟩:=aO H
     refine cJ 22 rfl b sH (bu (i:=i64.wrap (a - 1)) Tryz.underlying24 cl rfl rfl (Src.buf (k:=0) rfl) E F) (h:=iD (.pointer (some ((el af ((i64.wrap (a - 1)).toNat * 15)).add 5))) 23 rfl b sH (lp (el af ((i64.wrap (a - 1)).toNat * 15)) 0 5) (h:=cJ 24 rfl b sH (ci (enc:=cZ) (i:=i64.wrap (a - 1)) (j:=(i64.wrap (a - 1)).toNat * 15) (m:=5) (sz:=15) (vs:=(bF ((rd a0.f2 (i64.wrap (a - 1))).f3))) Tryz.underlying28 rfl mf rfl rfl rfl (Src.buf (k:=0) rfl) E F (fun _ _ h=>h) rfl) (h:=iD (.bool (decide (((rd a0.f2 a).f3) ≠ ((rd a0.f2 (i64.wrap (a - 1))).f3)))) 25 rfl b sH (lg (xs:=(bF ((rd a0.f2 a).f3))) (ys:=(bF ((rd a0.f2 (i64.wrap (a - 1))).f3))) (r:=(((((rd a0.f2 a).f3).f0) == (((rd a0.f2 (i64.wrap (a - 1))).f3).f0)) && (((((rd a0.f2 a).f3).f1) == (((rd a0.f2 (i64.wrap (a - 1))).f3).f1)) && (((((rd a0.f2 a).f3).f2) == (((rd a0.f2 (i64.wrap (a - 1))).f3).f2)) && (((((rd a0.f2 a).f3).f3) == (((rd a0.f2 (i64.wrap (a - 1))).f3).f3)) && (((((rd a0.f2 a).f3).f4) == (((rd a0.f2 (i64.wrap (a - 1))).f3).f4)) && (((((rd a0.f2 a).f3).f5) == (((rd a0.f2 (i64.wrap (a - 1))).f3).f5)) && (((((rd a0.f2 a).f3).f6) == (((rd a0.f2 (i64.wrap (a - 1))).f3).f6)) && (((((rd a0.f2 a).f3).f7) == (((rd a0.f2 (i64.wrap (a - 1))).f3).f7)) && (((((rd a0.f2 a).f3).f8) == (((rd a0.f2 (i64.wrap (a - 1))).f3).f8)) && (((((rd a0.f2 a).f3).f9) == (((rd a0.f2 (i64.wrap (a - 1))).f3).f9)) && true))))))))))) (p:=((rd a0.f2 a).f3) = ((rd a0.f2 (i64.wrap (a - 1))).f3)) lR rfl rfl (by kernel_rfl) (lS (x:=((rd a0.f2 a).f3)) (y:=((rd a0.f2 (i64.wrap (a - 1))).f3)))) (h:=cJ 26 rfl (am d) sH (VR.ofV (bS rfl (b) rfl)) (h:=bQ 27 rfl sH (VR.ofV (bR rfl (am d) rfl)) (h:=aV dd sH (aI (by kernel_rfl) ?_)))))))
     have h:=aN H;subst h
     exact bK [0,1]
    refine bT 12 rfl (aM b) (bT 13 rfl (aM b) (bT 14 rfl (aM b) (bT 15 rfl (aM b) (bT 16 rfl (aM b) (bT 17 rfl (aM b) (bT 18 rfl (aM b) (bT 19 rfl (aM b) (bT 20 rfl (aM b) (bT 21 rfl (aM b) ?_)))))))))
    refine bT 22 rfl (aM b) (bT 23 rfl (aM b) (bT 24 rfl (aM b) (bT 25 rfl (aM b) (cJ 26 rfl (am d) sH (VR.ofV (bR rfl (aM b) rfl)) (h:=bQ 27 rfl sH (VR.ofV (bR rfl (am d) rfl)) (h:=aV dd sH (aI (by kernel_rfl) ?_)))))))
    have h:=aN H;subst h
    exact bK [0,1]
   rintro e ds As L
   clear H
   have H:=O
   clear O
   refine aa (SA.of_St L fun junk=>?_)
   rcases bE H with⟨u,H⟩|⟨u,H⟩
   ·refine aD rfl u (aR (ad aW (h:=cD (ba (aG (aG (ba (aG (aG ?_)))))))))
    have h:=aN H;subst h
    have hb_:=dw q
    have hr_:=Option.some.inj hb_
    clear hb_
    subst hr_
    exact dX [0] ⟨rfl,rfl⟩
   refine aE rfl u (ap (aa (ao ?_)))
   obtain⟨b1,H,B⟩:=ac H
   refine bI (St [(1,aH s),(3,ae a),(99,.bool b1)] [Buf bD 55 af ag a0.f2,aK s 26 [ae a0.f0,ae a0.f1,.slice af a0.f2.length ag]]) ?_ ?_
   ·refine fj (dt 0 17) [0,1] [] fun _ _ _ _ _ sH dd pk=>?_
    refine bc 0 rfl sH aA (h:=bQ 1 rfl sH (aP 1) (h:=T' 2 rfl sH ar ?_))
    obtain⟨⟨I,J⟩,H⟩:=aO H
    refine bQ 3 rfl sH (bu (i:=a) Tryz.underlying24 cl rfl rfl (Src.buf (k:=0) rfl) I J) (h:=kV (.pointer (some ((el af (a.toNat * 15)).add 4))) 4 rfl sH (lp (el af (a.toNat * 15)) 0 4) (h:=bQ 5 rfl sH (bJ (enc:=cZ) (i:=a) (j:=a.toNat * 15) (m:=4) (sz:=15) Tryz.underlying5 rfl rfl rfl rfl (Src.buf (k:=0) rfl) I J (fun _ _ h=>h) rfl) (h:=bc 6 rfl sH (bk rfl rfl) (h:=T' 7 rfl sH ar ?_))))
    rcases bE H with⟨c,H⟩|⟨c,H⟩
    ·refine cY 8 rfl (ai c) sH ar (h:=cY 9 rfl (ai c) sH aA (h:=zG 10 rfl (ai c) sH (aP 1) ?_))
     obtain⟨a8,H⟩:=aO H
     refine iD (ae (a.tmod a0.f0)) 11 rfl (ai c) sH (nf rfl rfl a8) (h:=cY 12 rfl (ai c) sH aA (h:=cJ 13 rfl (ai c) sH (aP 1) (h:=cY 14 rfl (ai c) sH (cT rfl rfl) (h:=cY 15 rfl (ai c) sH (bk rfl rfl) (h:=bQ 16 rfl sH (VR.ofV (bS rfl (ai c) rfl)) (h:=aV dd sH (aI (by kernel_rfl) ?_)))))))
     have h:=aN H;subst h
     exact bK [0,1]
    refine bT 8 rfl (am c) (bT 9 rfl (am c) (bT 10 rfl (am c) (bT 11 rfl (am c) (bT 12 rfl (am c) (bT 13 rfl (am c) (bT 14 rfl (am c) (bT 15 rfl (am c) (bQ 16 rfl sH (VR.ofV (bR rfl (am c) rfl)) (h:=aV dd sH ?_)))))))))
    refine aI (by kernel_rfl) ?_
    have h:=aN H;subst h
    exact bK [0,1]
   rintro e ds As M
   clear H
   have H:=B
   clear B
   refine aa (SA.of_St M fun junk=>?_)
   rcases bE H with⟨z,H⟩|⟨z,H⟩
   ·refine aD rfl z (aR (ad aW (h:=cC (ba (aG (aG (ba (aG (aG ?_)))))))))
    have h:=aN H;subst h
    have hb_:=dw q
    have hr_:=Option.some.inj hb_
    clear hb_
    subst hr_
    exact dX [0] ⟨rfl,rfl⟩
   refine aE rfl z (ap (aF (aa (ak (ad ar (h:=S' (bW rfl rfl) ?_))))))
   obtain⟨K,a3,H⟩:=bj H
   refine bP (ae K) (bo (v:=ae K) (congrArg (Value.int .i64) a3.symm)) (h:=ah ?_)
   exact aa ⟨a5,Nat.lt_succ_self _,_,H,dZ [0,1]⟩
  refine aB rfl a1 (cf (aX (aX (cg ?_))))
  have h:=aN H;subst h
  exact aa ⟨(),rfl,dZ [0]⟩
 rintro e ds As ⟨b8,ht,N⟩
 clear H
 subst ht
 replace q:=fw q
 have H:=q
 clear q
 refine aa (SA.of_St N fun junk=>aR (ad aW (h:=cC ?_)))
 have h:=aN H;subst h
 exact dX [0] ⟨rfl,rfl⟩


def lf.f (a0 : bH) (a1 : Int) (a2 : Int) (a3 : Bool) : Option (Bool):=lt ((decide (a1 ≥ 0)) && (decide (a1 < a0.f1))) fun c=>lt (c && (decide (a2 ≥ 0))) fun d=>lt (d && (decide (a2 < a0.f0))) fun a=>(if a = true then (if (!a3) = true then (some true) else (some (decide (a2 = (i64.wrap (a0.f0 - 1)))))) else (some false) : Option Bool).bind (fun b=>some (b))
theorem lf.ok {a0 : bH} {a1 : Int} {a2 : Int} {a3 : Bool} {r : Bool} (H : lf.f a0 a1 a2 a3 = some r) : fS Tryz.prog 55 #[.agg #[ae a0.f0,ae a0.f1,.slice af a0.f2.length ag],ae a1,ae a2,.bool a3] [Buf bD 55 af ag a0.f2] (.bool r):=by
 refine aj Tryz.func55 rfl rfl ?_
 unfold lf.f at H
 refine aR (o' (bO (h:=fun l=>ad aW (h:=cP (ad ar (h:=ad (dT rfl rfl) (h:=S' ar ?_)))))))
 obtain⟨y,o,H⟩:=bj H
 refine dy 5 [(2,ae a2),(3,.bool a3),(4,aH l),(16,.bool y)] [Buf bD 55 af ag a0.f2,aK l 26 [ae a0.f0,ae a0.f1,.slice af a0.f2.length ag]] ?_ fun junk=>?_
 ·by_cases d : a1 ≥ 0
  ·refine bf (ai d) ar (h:=bf (ai d) aA (h:=cE (ai d) (aP 1) (h:=bf (ai d) (ce rfl rfl) (h:=cd (ai d) (h:=ah ?_)))))
   have x_:=fD o ((ai d));exact bK [0,1]
  refine cu 4 (am d) (ck (am d) (h:=ah ?_))
  have x_:=fC o ((am d));exact bK [0,1]
 refine S' ar ?_
 obtain⟨z,p,H⟩:=bj H
 refine dy 3 [(2,ae a2),(3,.bool a3),(4,aH l),(20,.bool z)] [Buf bD 55 af ag a0.f2,aK l 26 [ae a0.f0,ae a0.f1,.slice af a0.f2.length ag]] ?_ fun junk=>?_
 ·by_cases j : y = true
  ·refine bf j ar (h:=bf j (dT rfl rfl) (h:=cd j (h:=ah ?_)))
   have x_:=fD p j;exact bK [0,1]
  refine cu 2 (aM j) (ck (aM j) (h:=ah ?_))
  have x_:=fC p ((aM j));exact bK [0,1]
 refine S' ar ?_
 obtain⟨s,m,H⟩:=bj H
 refine dy 5 [(2,ae a2),(3,.bool a3),(4,aH l),(26,.bool s)] [Buf bD 55 af ag a0.f2,aK l 26 [ae a0.f0,ae a0.f1,.slice af a0.f2.length ag]] ?_ fun junk=>?_
 ·by_cases b : z = true
  ·refine bf b ar (h:=bf b aA (h:=cE b (aP 1) (h:=bf b (ce rfl rfl) (h:=cd b (h:=ah ?_)))))
   have x_:=fD m b;exact bK [0,1]
  refine cu 4 (aM b) (ck (aM b) (h:=ah ?_))
  have x_:=fC m ((aM b));exact bK [0,1]
 refine S' ar ?_
 obtain⟨u,H,q⟩:=ac H
 refine dy 10 [(37,.bool u)] [Buf bD 55 af ag a0.f2] ?_ fun junk=>?_
 ·rcases bE H with⟨a,H⟩|⟨a,H⟩
  ·refine bf a ar (h:=bf a (bX rfl) (h:=Y' a ar ?_))
   rcases bE H with⟨c,H⟩|⟨c,H⟩
   ·refine cu 5 c (fT a (dr rfl (bS rfl (c) rfl) (gN a ?_)))
    have h:=aN H;subst h
    exact dL [0]
   refine bf (aM c) ar (h:=bf (aM c) aA (h:=cE (aM c) (aP 1) (h:=bf (aM c) (cT rfl rfl) (h:=bf (aM c) (bk rfl rfl) (h:=fT a (dr rfl (bR rfl (aM c) rfl) (gN a ?_)))))))
   have h:=aN H;subst h
   exact dL [0]
  refine cu 3 (aM a) (fY (fY (fY (fY (fY (cu 1 (aM a) (fZ (aM a) ?_)))))))
  have h:=aN H;subst h
  exact dL [0]
 replace H:=q
 refine ad aW (h:=cC ?_)
 have h:=aN H;subst h
 exact dX [0] ⟨rfl,rfl⟩


def fe.l1 (a0 : aJ) : Nat → Int → Option (Out (Bool) (Unit))
  | 0,_=>none
  | k + 1,a=>if a < (a0.f17.length : Int) then (if 0 ≤ a∧a < (a0.f17.length : Int) then (if (rd a0.f17 a) < 0 then (some (Out.ret (false))) else (lt (i64.wrap (a + 1)) fun b=>fe.l1 a0 k b)) else none) else (some (Out.go ()))
def fe.l0 (a0 : aJ) : Nat → Int → Option (Out (Bool) (Unit))
  | 0,_=>none
  | k + 1,a=>if a < (a0.f7.length : Int) then ((if 0 ≤ a∧a < (a0.f7.length : Int) then (if (rd a0.f7 a) < 0 then (some true) else (if 0 ≤ a∧a < (a0.f7.length : Int) then (if (rd a0.f7 a) ≥ a0.f0.f0 then (some true) else (if a > 0 then (if 0 ≤ a∧a < (a0.f7.length : Int) then (if 0 ≤ (i64.wrap (a - 1))∧(i64.wrap (a - 1)) < (a0.f7.length : Int) then (some (decide ((rd a0.f7 a) ≤ (rd a0.f7 (i64.wrap (a - 1)))))) else none) else none) else (some false))) else none)) else none : Option (Bool)).bind (fun c=>if c = true then (some (Out.ret (false))) else (lt (i64.wrap (a + 1)) fun b=>fe.l0 a0 k b))) else (some (Out.go ()))
def fe.f (k : Nat) (a0 : aJ) : Option (Bool):=(fA.f k a0.f0).bind (fun u=>(if (!u) = true then (some true) else ((lf.f a0.f0 a0.f1 a0.f2 a0.f3).bind (fun y=>some (!y))) : Option Bool).bind (fun l=>(if l = true then (some true) else ((lf.f a0.f0 a0.f14.f0 a0.f14.f1 a0.f14.f2).bind (fun gB=>some (!gB))) : Option Bool).bind (fun m=>lt (m || (decide (a0.f5 < 0))) fun o=>lt (o || (decide (a0.f5 > a0.f6))) fun p=>lt (p || (decide (a0.f6 ≥ a0.f0.f1))) fun q=>(if q = true then (some true) else ((qa.f a0.f4).bind (fun z=>some (!z))) : Option Bool).bind (fun r=>(if r = true then (some true) else ((qa.f a0.f14.f4).bind (fun B=>some (!B))) : Option Bool).bind (fun s=>if s = true then (some (false)) else ((fe.l0 a0 k 0 : Option (Out (Bool) (Unit))).bind (fun D=>Out.el D (fun r_=>some r_) (fun F=>if (a0.f17.length : Int) > 256 then (some (false)) else ((fe.l1 a0 k 0 : Option (Out (Bool) (Unit))).bind (fun j=>Out.el j (fun r_=>some r_) (fun E=>if a0.f15 = true then ((fA.f k a0.f16).bind (fun h=>lt (h && (decide (a0.f16.f0 = a0.f0.f0))) fun a=>lt (a && (decide (a0.f16.f1 = a0.f0.f1))) fun b=>some (b))) else (lt ((decide (a0.f16.f0 = 0)) && (decide (a0.f16.f1 = 0))) fun c=>lt (c && (decide ((a0.f16.f2.length : Int) = 0))) fun d=>some (d)))))))))))))
theorem fe.ok {a0 : aJ} {r : Bool} (H : fe.f k a0 = some r) : fS Tryz.prog 15 #[.agg (al a0 af ag ay az au av aw ax).toArray] (bn a0 af ag ay az au av aw ax) (.bool r):=by
 refine aj Tryz.func15 rfl rfl ?_
 unfold fe.f at H
 refine aR (o' (bO (h:=fun l=>ad aW (h:=cP (ad aA (h:=bp (cz l 0 4 [ae a0.f0.f0,ae a0.f0.f1,.slice af a0.f0.f2.length ag]) (h:=o' (cw (h:=fun o=>o' (bi o 0 5 [ae a0.f0.f0,ae a0.f0.f1,.slice af a0.f0.f2.length ag] (h:=bA (ao (ao (bM 0 fun h3=>?_))))))))))))))
 refine bM 1 fun g9=>bM 2 fun h0=>bM 3 fun h1=>ak (l' (cz o 0 5 [ae a0.f0.f0,ae a0.f0.f1,.slice af a0.f0.f2.length ag]) ?_)
 obtain⟨h4,e1,H⟩:=ac H
 refine o' (dc [0] [1,2,3,4,5] (fA.ok e1) ?_)
 refine ad (bX rfl) (h:=S' ar ?_)
 obtain⟨g4,H,f6⟩:=ac H
 refine dy 10 [(1,aH l),(3,aH o),(21,.bool g4)] (bn a0 af ag ay az au av aw ax++[aK l 34 (al a0 af ag ay az au av aw ax),aK o 26 [ae a0.f0.f0,ae a0.f0.f1,.slice af a0.f0.f2.length ag]]) ?_ fun junk=>?_
 ·rcases bE H with⟨B,H⟩|⟨B,H⟩
  ·refine cu 9 B (gN B ?_)
   have h:=aN H;subst h
   exact dL [0,1,2,3,4,5]
  refine cE (aM B) (cz o 0 5 [ae a0.f0.f0,ae a0.f0.f1,.slice af a0.f0.f2.length ag]) (h:=bf (aM B) aA (h:=cE (aM B) (aP 4) (h:=bf (aM B) aA (h:=cE (aM B) (aP 4) (h:=bf (aM B) aA (h:=z' (aM B) (aP 4) ?_))))))
  obtain⟨h5,g0,H⟩:=ac H
  refine fT (aM B) (dc [0] [1,2,3,4,5] (lf.ok g0) ?_)
  refine bf (aM B) (bX rfl) (h:=fZ (aM B) ?_)
  have h:=aN H;subst h
  exact dL [0,1,2,3,4,5]
 replace H:=f6
 refine S' ar ?_
 obtain⟨e7,H,f8⟩:=ac H
 refine dy 13 [(1,aH l),(3,aH o),(35,.bool e7)] (bn a0 af ag ay az au av aw ax++[aK l 34 (al a0 af ag ay az au av aw ax),aK o 26 [ae a0.f0.f0,ae a0.f0.f1,.slice af a0.f0.f2.length ag]]) ?_ fun junk=>?_
 ·rcases bE H with⟨u,H⟩|⟨u,H⟩
  ·refine cu 12 u (gN u ?_)
   have h:=aN H;subst h
   exact dL [0,1,2,3,4,5]
  refine cE (aM u) (cz o 0 5 [ae a0.f0.f0,ae a0.f0.f1,.slice af a0.f0.f2.length ag]) (h:=bf (aM u) aA (h:=bf (aM u) aA (h:=cE (aM u) (aP 4) (h:=bf (aM u) aA (h:=bf (aM u) aA (h:=cE (aM u) (aP 4) (h:=bf (aM u) aA (h:=bf (aM u) aA (h:=z' (aM u) (aP 4) ?_)))))))))
  obtain⟨gB,g1,H⟩:=ac H
  refine fT (aM u) (dc [0] [1,2,3,4,5] (lf.ok g1) ?_)
  refine bf (aM u) (bX rfl) (h:=fZ (aM u) ?_)
  have h:=aN H;subst h
  exact dL [0,1,2,3,4,5]
 replace H:=f8
 refine S' ar ?_
 obtain⟨e8,d6,H⟩:=bj H
 refine dy 4 [(1,aH l),(3,aH o),(40,.bool e8)] (bn a0 af ag ay az au av aw ax++[aK l 34 (al a0 af ag ay az au av aw ax),aK o 26 [ae a0.f0.f0,ae a0.f0.f1,.slice af a0.f0.f2.length ag]]) ?_ fun junk=>?_
 ·by_cases J : e7 = true
  ·refine cu 3 J (cd J (h:=ah ?_))
   have x_:=ji d6 J;exact bK [0,1,2,3,4,5]
  refine bf (aM J) aA (h:=cE (aM J) (aP 4) (h:=bf (aM J) (ce rfl rfl) (h:=ck (aM J) (h:=ah ?_))))
  have x_:=jh d6 ((aM J));exact bK [0,1,2,3,4,5]
 refine S' ar ?_
 obtain⟨e9,d7,H⟩:=bj H
 refine dy 6 [(1,aH l),(3,aH o),(47,.bool e9)] (bn a0 af ag ay az au av aw ax++[aK l 34 (al a0 af ag ay az au av aw ax),aK o 26 [ae a0.f0.f0,ae a0.f0.f1,.slice af a0.f0.f2.length ag]]) ?_ fun junk=>?_
 ·by_cases E : e8 = true
  ·refine cu 5 E (cd E (h:=ah ?_))
   have x_:=ji d7 E;exact bK [0,1,2,3,4,5]
  refine bf (aM E) aA (h:=cE (aM E) (aP 4) (h:=bf (aM E) aA (h:=cE (aM E) (aP 4) (h:=bf (aM E) (eK rfl rfl) (h:=ck (aM E) (h:=ah ?_))))))
  have x_:=jh d7 ((aM E));exact bK [0,1,2,3,4,5]
 refine S' ar ?_
 obtain⟨g5,d8,H⟩:=bj H
 refine dy 6 [(1,aH l),(3,aH o),(54,.bool g5)] (bn a0 af ag ay az au av aw ax++[aK l 34 (al a0 af ag ay az au av aw ax),aK o 26 [ae a0.f0.f0,ae a0.f0.f1,.slice af a0.f0.f2.length ag]]) ?_ fun junk=>?_
 ·by_cases F : e9 = true
  ·refine cu 5 F (cd F (h:=ah ?_))
   have x_:=ji d8 F;exact bK [0,1,2,3,4,5]
  refine bf (aM F) aA (h:=cE (aM F) (aP 4) (h:=bf (aM F) aA (h:=cE (aM F) (aP 5) (h:=bf (aM F) (dT rfl rfl) (h:=ck (aM F) (h:=ah ?_))))))
  have x_:=jh d8 ((aM F));exact bK [0,1,2,3,4,5]
 refine S' ar ?_
 obtain⟨g6,H,f9⟩:=ac H
 refine dy 5 [(1,aH l),(3,aH o),(60,.bool g6)] (bn a0 af ag ay az au av aw ax++[aK l 34 (al a0 af ag ay az au av aw ax),aK o 26 [ae a0.f0.f0,ae a0.f0.f1,.slice af a0.f0.f2.length ag]]) ?_ fun junk=>?_
 ·rcases bE H with⟨K,H⟩|⟨K,H⟩
  ·refine cu 4 K (gN K ?_)
   have h:=aN H;subst h
   exact dL [0,1,2,3,4,5]
  refine bf (aM K) aA (h:=z' (aM K) (cz l 6 4 (bF a0.f4)) ?_)
  obtain⟨h6,g2,H⟩:=ac H
  refine fT (aM K) (dc [] [0,1,2,3,4,5] (qa.ok g2) ?_)
  refine bf (aM K) (bX rfl) (h:=fZ (aM K) ?_)
  have h:=aN H;subst h
  exact dL [0,1,2,3,4,5]
 replace H:=f9
 refine S' ar ?_
 obtain⟨g7,H,c6⟩:=ac H
 refine cK 6 (St [(1,aH l),(3,aH o),(67,.bool g7)] (bn a0 af ag ay az au av aw ax++[aK l 34 (al a0 af ag ay az au av aw ax),aK o 26 [ae a0.f0.f0,ae a0.f0.f1,.slice af a0.f0.f2.length ag]])) ?_ ?_
 ·rcases bE H with⟨I,H⟩|⟨I,H⟩
  ·refine cu 5 I (gN I ?_)
   have h:=aN H;subst h
   exact dL [0,1,2,3,4,5]
  refine bf (aM I) aA (h:=bf (aM I) aA (h:=z' (aM I) (cz l 29 4 (bF a0.f14.f4)) ?_))
  obtain⟨h7,g3,H⟩:=ac H
  refine fT (aM I) (dc [] [0,1,2,3,4,5] (qa.ok g3) ?_)
  refine bf (aM I) (bX rfl) (h:=fZ (aM I) ?_)
  have h:=aN H;subst h
  exact dL [0,1,2,3,4,5]
 rintro e ds As e2
 clear H
 have H:=c6
 clear c6
 refine bA (SA.of_St e2 fun junk=>?_)
 rcases bE H with⟨d2,H⟩|⟨d2,H⟩
 ·refine aD rfl d2 (aR (ad aW (h:=cD ?_)))
  have h:=aN H;subst h
  exact dX [0,1,2,3] ⟨rfl,rfl⟩
 refine aE rfl d2 (ap (aa (ao (aR (ad aW (h:=bA ?_))))))
 obtain⟨f5,H,L⟩:=ac H
 refine bI (fun e ds As=>∃ (f3 : Unit),f5 = Out.go f3∧St [(1,aH l),(3,aH o)] (bn a0 af ag ay az au av aw ax++[aK l 34 (al a0 af ag ay az au av aw ax),aK o 26 [ae a0.f0.f0,ae a0.f0.f1,.slice af a0.f0.f2.length ag]]) e ds As) ?_ ?_
 ·refine aQ (cj (fun k_ e ds As=>∃ (c : Int),fe.l0 a0 k_ c = some f5∧St [(1,aH l),(3,aH o),(4,ae c)] (bn a0 af ag ay az au av aw ax++[aK l 34 (al a0 af ag ay az au av aw ax),aK o 26 [ae a0.f0.f0,ae a0.f0.f1,.slice af a0.f0.f2.length ag]]) e ds As) (k:=k) ⟨_,H,jV [0,1,2,3,4,5]⟩ ?_)
  clear H
  rintro d9 e ds As ⟨c,H,e3⟩
  obtain _ | d9:=d9
  ·cases H
  rw [fe.l0] at H
  refine SA.of_St e3 fun junk=>ao (aR (ad ar (h:=ad aA (h:=bp (aP 4) (h:=bP (ae (a0.f7.length : Int)) (cO Tryz.underlying29 rfl) (h:=ad (ce rfl rfl) (h:=bA ?_)))))))
  rcases bE H with⟨d3,H⟩|⟨d3,H⟩
  ·refine aC rfl d3 (ap (aa (ao (aQ (ao ?_)))))
   obtain⟨g8,H,c7⟩:=ac H
   refine bI (St [(1,aH l),(3,aH o),(4,ae c),(108,.bool g8)] (bn a0 af ag ay az au av aw ax++[aK l 34 (al a0 af ag ay az au av aw ax),aK o 26 [ae a0.f0.f0,ae a0.f0.f1,.slice af a0.f0.f2.length ag]])) ?_ ?_
   ·refine fj (dt 0 34) [1,4,5] [0,2,3] fun _ _ _ _ _ sH dd pk=>?_
    refine bc 0 rfl sH aA (h:=bQ 1 rfl sH (aP 1) (h:=T' 2 rfl sH ar ?_))
    obtain⟨⟨c8,c9⟩,H⟩:=aO H
    refine bQ 3 rfl sH (bu (i:=c) Tryz.underlying29 jl rfl rfl (Src.buf (k:=0) rfl) c8 c9) (h:=bQ 4 rfl sH (bJ (enc:=(fun x_ : Int=>[Value.int .i64 x_])) (i:=c) (j:=c.toNat * 1) (m:=0) (sz:=1) Tryz.underlying3 rfl rfl rfl rfl (Src.buf (k:=0) rfl) c8 c9 (fun _ _ h=>h) rfl) (h:=bc 5 rfl sH (ce rfl rfl) (h:=T' 6 rfl sH ar ?_)))
    rcases bE H with⟨b,H⟩|⟨b,H⟩
    ·refine bT 7 rfl (ai b) (bT 8 rfl (ai b) (bT 9 rfl (ai b) (bT 10 rfl (ai b) (bT 11 rfl (ai b) (bT 12 rfl (ai b) (bT 13 rfl (ai b) (bT 14 rfl (ai b) (bQ 15 rfl sH (VR.ofV (bS rfl (ai b) rfl)) (h:=T' 16 rfl sH ar ?_)))))))))
     refine bT 17 rfl rfl (bT 18 rfl rfl (bT 19 rfl rfl (cG 20 rfl (cG 21 rfl (cG 22 rfl (cG 23 rfl (cG 24 rfl (cG 25 rfl (cG 26 rfl ?_)))))))))
     refine cG 27 rfl (cG 28 rfl (cG 29 rfl (cG 30 rfl (cG 31 rfl (bT 32 rfl rfl (bQ 33 rfl sH (VR.ofV (bS rfl (rfl) rfl)) (h:=aV dd sH (aI (by kernel_rfl) ?_))))))))
     have h:=aN H;subst h
     exact bK [3,0,4,5,1,2]
    refine cY 7 rfl (am b) sH aA (h:=cJ 8 rfl (am b) sH (aP 1) (h:=kX 9 rfl (am b) sH ar ?_))
    obtain⟨⟨d0,d1⟩,H⟩:=aO H
    refine cJ 10 rfl (am b) sH (bu (i:=c) Tryz.underlying29 jl rfl rfl (Src.buf (k:=0) rfl) d0 d1) (h:=cJ 11 rfl (am b) sH (bJ (enc:=(fun x_ : Int=>[Value.int .i64 x_])) (i:=c) (j:=c.toNat * 1) (m:=0) (sz:=1) Tryz.underlying3 rfl rfl rfl rfl (Src.buf (k:=0) rfl) d0 d1 (fun _ _ h=>h) rfl) (h:=cY 12 rfl (am b) sH aA (h:=cJ 13 rfl (am b) sH (aP 2) (h:=cY 14 rfl (am b) sH (dT rfl rfl) (h:=bQ 15 rfl sH (VR.ofV (bR rfl (am b) rfl)) (h:=T' 16 rfl sH ar ?_))))))
    rcases bE H with⟨d,H⟩|⟨d,H⟩
    ·refine bT 17 rfl (ai d) (bT 18 rfl (ai d) (bT 19 rfl (ai d) (cG 20 rfl (cG 21 rfl (cG 22 rfl (cG 23 rfl (cG 24 rfl (cG 25 rfl (cG 26 rfl ?_)))))))))
     refine cG 27 rfl (cG 28 rfl (cG 29 rfl (cG 30 rfl (cG 31 rfl (bT 32 rfl (ai d) (bQ 33 rfl sH (VR.ofV (bS rfl (ai d) rfl)) (h:=aV dd sH (aI (by kernel_rfl) ?_))))))))
     have h:=aN H;subst h
     exact bK [3,0,4,5,1,2]
    refine cY 17 rfl (am d) sH ar (h:=cY 18 rfl (am d) sH (eK rfl rfl) (h:=kX 19 rfl (am d) sH ar ?_))
    rcases bE H with⟨a,H⟩|⟨a,H⟩
    ·refine cY 20 rfl (ai a) sH aA (h:=cJ 21 rfl (ai a) sH (aP 1) (h:=kX 22 rfl (ai a) sH ar ?_))
     obtain⟨⟨a3,a4⟩,H⟩:=aO H
     refine cJ 23 rfl (ai a) sH (bu (i:=c) Tryz.underlying29 jl rfl rfl (Src.buf (k:=0) rfl) a3 a4) (h:=cJ 24 rfl (ai a) sH (bJ (enc:=(fun x_ : Int=>[Value.int .i64 x_])) (i:=c) (j:=c.toNat * 1) (m:=0) (sz:=1) Tryz.underlying3 rfl rfl rfl rfl (Src.buf (k:=0) rfl) a3 a4 (fun _ _ h=>h) rfl) (h:=cY 25 rfl (ai a) sH aA (h:=cJ 26 rfl (ai a) sH (aP 1) (h:=cY 27 rfl (ai a) sH ar (h:=kX 28 rfl (ai a) sH (cT rfl rfl) ?_)))))
     obtain⟨⟨a5,a6⟩,H⟩:=aO H
     refine cJ 29 rfl (ai a) sH (bu (i:=i64.wrap (c - 1)) Tryz.underlying29 jl rfl rfl (Src.buf (k:=0) rfl) a5 a6) (h:=cJ 30 rfl (ai a) sH (bJ (enc:=(fun x_ : Int=>[Value.int .i64 x_])) (i:=i64.wrap (c - 1)) (j:=(i64.wrap (c - 1)).toNat * 1) (m:=0) (sz:=1) Tryz.underlying3 rfl rfl rfl rfl (Src.buf (k:=0) rfl) a5 a6 (fun _ _ h=>h) rfl) (h:=cY 31 rfl (ai a) sH (gG rfl rfl) (h:=cJ 32 rfl (am d) sH (VR.ofV (bS rfl (ai a) rfl)) (h:=bQ 33 rfl sH (VR.ofV (bR rfl (am d) rfl)) (h:=aV dd sH (aI (by kernel_rfl) ?_))))))
     have h:=aN H;subst h
     exact bK [3,0,4,5,1,2]
    refine bT 20 rfl (am a) (bT 21 rfl (am a) (bT 22 rfl (am a) (bT 23 rfl (am a) (bT 24 rfl (am a) (bT 25 rfl (am a) (bT 26 rfl (am a) (bT 27 rfl (am a) (bT 28 rfl (am a) (bT 29 rfl (am a) ?_)))))))))
    refine bT 30 rfl (am a) (bT 31 rfl (am a) (cJ 32 rfl (am d) sH (VR.ofV (bR rfl (am a) rfl)) (h:=bQ 33 rfl sH (VR.ofV (bR rfl (am d) rfl)) (h:=aV dd sH (aI (by kernel_rfl) ?_)))))
    have h:=aN H;subst h
    exact bK [3,0,4,5,1,2]
   rintro e ds As b6
   clear H
   have H:=c7
   clear c7
   refine aa (SA.of_St b6 fun junk=>?_)
   rcases bE H with⟨M,H⟩|⟨M,H⟩
   ·refine aD rfl M (aR (ad aW (h:=cC (ba (aG (aG (ba (aG (aG ?_)))))))))
    have h:=aN H;subst h
    have hb_:=dw L
    have hr_:=Option.some.inj hb_
    clear hb_
    subst hr_
    exact dX [0,1,2,3] ⟨rfl,rfl⟩
   refine aE rfl M (ap (aF (aa (ak (ad ar (h:=S' (bW rfl rfl) ?_))))))
   obtain⟨a9,d4,H⟩:=bj H
   refine bP (ae a9) (bo (v:=ae a9) (congrArg (Value.int .i64) d4.symm)) (h:=ah ?_)
   exact aa ⟨d9,Nat.lt_succ_self _,_,H,dZ [0,1,2,3,4,5]⟩
  refine aB rfl d3 (cf (aX (aX (cg ?_))))
  have h:=aN H;subst h
  exact aa ⟨(),rfl,dZ [0,1,2,3,4,5]⟩
 rintro e ds As ⟨f3,ht,b8⟩
 clear H
 subst ht
 replace L:=fw L
 have H:=L
 clear L
 refine aa (SA.of_St b8 fun junk=>ao (aR (ad aA (h:=bp (aP 4) (h:=bP (ae (a0.f17.length : Int)) (cO Tryz.underlying32 rfl) (h:=ad (eK rfl rfl) (h:=bA ?_)))))))
 rcases bE H with⟨N,H⟩|⟨N,H⟩
 ·refine aC rfl N (aR (ad aW (h:=cD ?_)))
  have h:=aN H;subst h
  exact dX [0,1,2,3] ⟨rfl,rfl⟩
 refine aB rfl N (ap (aa (ao (aR (ad aW (h:=bA ?_))))))
 obtain⟨b4,H,D⟩:=ac H
 refine bI (fun e ds As=>∃ (b3 : Unit),b4 = Out.go b3∧St [(1,aH l),(3,aH o)] (bn a0 af ag ay az au av aw ax++[aK l 34 (al a0 af ag ay az au av aw ax),aK o 26 [ae a0.f0.f0,ae a0.f0.f1,.slice af a0.f0.f2.length ag]]) e ds As) ?_ ?_
 ·refine aQ (cj (fun k_ e ds As=>∃ (z : Int),fe.l1 a0 k_ z = some b4∧St [(1,aH l),(3,aH o),(5,ae z)] (bn a0 af ag ay az au av aw ax++[aK l 34 (al a0 af ag ay az au av aw ax),aK o 26 [ae a0.f0.f0,ae a0.f0.f1,.slice af a0.f0.f2.length ag]]) e ds As) (k:=k) ⟨_,H,jV [0,1,2,3,4,5]⟩ ?_)
  clear H
  rintro U e ds As ⟨z,H,b9⟩
  obtain _ | U:=U
  ·cases H
  rw [fe.l1] at H
  refine SA.of_St b9 fun junk=>ao (aR (ad ar (h:=ad aA (h:=bp (aP 4) (h:=bP (ae (a0.f17.length : Int)) (cO Tryz.underlying32 rfl) (h:=ad (ce rfl rfl) (h:=bA ?_)))))))
  rcases bE H with⟨O,H⟩|⟨O,H⟩
  ·refine aC rfl O (ap (aa (ao (aQ (aR (ad aA (h:=bp (aP 4) (h:=S' ar ?_))))))))
   obtain⟨⟨a7,a8⟩,H⟩:=aO H
   refine bp (bu (i:=z) Tryz.underlying32 iB rfl rfl (Src.buf (k:=3) rfl) a7 a8) (h:=bp (bJ (enc:=(fun x_ : Int=>[Value.int .i32 x_])) (i:=z) (j:=z.toNat * 1) (m:=0) (sz:=1) Tryz.underlying21 rfl rfl rfl rfl (Src.buf (k:=3) rfl) a7 a8 (fun _ _ h=>h) rfl) (h:=ad (ce rfl rfl) (h:=bA ?_)))
   rcases bE H with⟨R,H⟩|⟨R,H⟩
   ·refine aC rfl R (aR (ad aW (h:=cC (ba (aG (aG (ba (aG (aG ?_)))))))))
    have h:=aN H;subst h
    have hb_:=dw D
    have hr_:=Option.some.inj hb_
    clear hb_
    subst hr_
    exact dX [0,1,2,3] ⟨rfl,rfl⟩
   refine aB rfl R (ap (aF (aa (ak (ad ar (h:=S' (bW rfl rfl) ?_))))))
   obtain⟨b0,d5,H⟩:=bj H
   refine bP (ae b0) (bo (v:=ae b0) (congrArg (Value.int .i64) d5.symm)) (h:=ah ?_)
   exact aa ⟨U,Nat.lt_succ_self _,_,H,dZ [0,1,2,3,4,5]⟩
  refine aB rfl O (cf (aX (aX (cg ?_))))
  have h:=aN H;subst h
  exact aa ⟨(),rfl,dZ [0,1,2,3,4,5]⟩
 rintro e ds As ⟨b3,ht,c5⟩
 clear H
 subst ht
 replace D:=fw D
 have H:=D
 clear D
 refine aa (SA.of_St c5 fun junk=>ao (aR (ad aA (h:=bp (aP 4) (h:=bA ?_)))))
 rcases bE H with⟨S,H⟩|⟨S,H⟩
 ·refine aD rfl S (aR (ad aA (h:=l' (cz l 40 4 [ae a0.f16.f0,ae a0.f16.f1,.slice au a0.f16.f2.length av]) ?_)))
  obtain⟨e6,e0,H⟩:=ac H
  refine o' (dc [2] [0,1,3,4,5] (fA.ok e0) ?_)
  refine S' ar ?_
  obtain⟨b1,Y,H⟩:=bj H
  refine dy 7 [(1,aH l),(3,aH o),(138,.bool b1)] (bn a0 af ag ay az au av aw ax++[aK l 34 (al a0 af ag ay az au av aw ax),aK o 26 [ae a0.f0.f0,ae a0.f0.f1,.slice af a0.f0.f2.length ag]]) ?_ fun junk=>?_
  ·by_cases p : e6 = true
   ·refine bf p aA (h:=bf p aA (h:=cE p (aP 4) (h:=bf p aA (h:=cE p (aP 5) (h:=bf p (bk rfl rfl) (h:=cd p (h:=ah ?_)))))))
    have x_:=fD Y p;exact bK [1,2,0,3,4,5]
   refine cu 6 (aM p) (ck (aM p) (h:=ah ?_))
   have x_:=fC Y ((aM p));exact bK [1,2,0,3,4,5]
  refine S' ar ?_
  obtain⟨e4,Z,H⟩:=bj H
  refine dy 7 [(146,.bool e4)] (bn a0 af ag ay az au av aw ax) ?_ fun junk=>?_
  ·by_cases q : b1 = true
   ·refine bf q aA (h:=bf q aA (h:=cE q (aP 4) (h:=bf q aA (h:=cE q (aP 5) (h:=bf q (bk rfl rfl) (h:=cd q (h:=ah ?_)))))))
    have x_:=fD Z q;exact bK [0,1,2,3]
   refine cu 6 (aM q) (ck (aM q) (h:=ah ?_))
   have x_:=fC Z ((aM q));exact bK [0,1,2,3]
  refine ad aW (h:=cD ?_)
  have h:=aN H;subst h
  exact dX [0,1,2,3] ⟨rfl,rfl⟩
 refine aE rfl S (ap (aa (aR (ad aA (h:=ad aA (h:=bp (aP 4) (h:=ad (bk rfl rfl) (h:=S' ar ?_))))))))
 obtain⟨b2,a1,H⟩:=bj H
 refine dy 5 [(1,aH l),(156,.bool b2)] (bn a0 af ag ay az au av aw ax++[aK l 34 (al a0 af ag ay az au av aw ax)]) ?_ fun junk=>?_
 ·by_cases y : a0.f16.f0 = 0
  ·refine bf (ai y) aA (h:=bf (ai y) aA (h:=cE (ai y) (aP 4) (h:=bf (ai y) (bk rfl rfl) (h:=cd (ai y) (h:=ah ?_)))))
   have x_:=fD a1 ((ai y));exact bK [0,1,2,3,4]
  refine cu 4 (am y) (ck (am y) (h:=ah ?_))
  have x_:=fC a1 ((am y));exact bK [0,1,2,3,4]
 refine S' ar ?_
 obtain⟨e5,a2,H⟩:=bj H
 refine dy 6 [(163,.bool e5)] (bn a0 af ag ay az au av aw ax) ?_ fun junk=>?_
 ·by_cases s : b2 = true
  ·refine bf s aA (h:=bf s aA (h:=cE s (aP 4) (h:=iI s (ae (a0.f16.f2.length : Int)) (cO Tryz.underlying24 rfl) (h:=bf s (bk rfl rfl) (h:=cd s (h:=ah ?_))))))
   have x_:=fD a2 s;exact bK [0,1,2,3]
  refine cu 5 (aM s) (ck (aM s) (h:=ah ?_))
  have x_:=fC a2 ((aM s));exact bK [0,1,2,3]
 refine ad aW (h:=cC ?_)
 have h:=aN H;subst h
 exact dX [0,1,2,3] ⟨rfl,rfl⟩


def hH.f (a0 : bH) : Option (bH):=if ([] : (List aY)).length + a0.f2.length ≤ 2932031007402 then lt (([] : (List aY)) ++ a0.f2) fun n12=>(some ((bH.mk a0.f0 a0.f1 n12))) else none
theorem hH.ok {a0 : bH} {r : bH} (H : hH.f a0 = some r) : dk Tryz.prog 65 #[.agg #[ae a0.f0,ae a0.f1,.slice af a0.f2.length ag]] [Buf bD 55 af ag a0.f2] (fun v B=>∃ aS aT,v = .agg #[ae r.f0,ae r.f1,.slice aS r.f2.length aT]∧B = [Buf bD 55 aS aT r.f2,Buf bD 55 af ag a0.f2]):=by
 refine aj Tryz.func65 rfl rfl ?_
 unfold hH.f at H
 refine aR (o' (bO (h:=fun j=>o' (cw (h:=fun l=>cP (o' (gE (kd:=bD) (zv:=(.agg (bV lC).toArray)) (sz:=15) (cells:=[]) (xs:=([] : (List aY))) rfl Tryz.underlying24 jD cl rfl rfl rfl (by kernel_rfl) rfl rfl (dO cZ (fun _ _=>rfl) (by kernel_rfl)) fun m=>ad aA (h:=l' (aP 1) ?_))))))))
 obtain⟨o,H⟩:=aO H
 obtain⟨n12,d,H⟩:=bj H
 refine o' (gl (k:=3) (A:=some ⟨m,0,none⟩) (c:=0) (xs:=([] : (List aY))) (ys:=a0.f2) n12 d rfl Tryz.underlying24 mC rfl rfl rfl rfl rfl (ng.slice Tryz.underlying24 (Src.buf (k:=0) rfl)) (by omega) (by omega) fun a b=>ad aA (h:=o' (cF 1 [.slice a n12.length b] (h:=(cP (bp (cz j 0 1 [ae a0.f0,ae a0.f1,.slice a n12.length b]) (h:=o' (bi l 0 2 [ae a0.f0,ae a0.f1,.slice a n12.length b] (h:=cC ?_)))))))))
 have h:=aN H;subst h
 exact gi (rs:=[.cell 2 26]) (vs:=[.agg #[ae a0.f0,ae a0.f1,.slice a n12.length b]]) [Buf bD 55 a b n12,Buf bD 55 af ag a0.f2] rfl ⟨RV.cell (k:=2) rfl rfl Tryz.underlying26 rfl uw,trivial⟩ rfl (eZ [3,0]) ⟨a,b,rfl,rfl⟩


def ld.f (a0 : aJ) : Option (aJ):=(hH.f a0.f0).bind (fun c=>(hH.f a0.f16).bind (fun d=>if ([] : (List Int)).length + a0.f7.length ≤ 17592186044416 then lt (([] : (List Int)) ++ a0.f7) fun a=>(if ([] : (List Int)).length + a0.f17.length ≤ 35184372088832 then lt (([] : (List Int)) ++ a0.f17) fun b=>(some (({ a0 with f0:=c,f7:=a,f16:=d,f17:=b }))) else none) else none))
theorem ld.ok {a0 : aJ} {r : aJ} (H : ld.f a0 = some r) : dk Tryz.prog 19 #[.agg (al a0 af ag ay az au av aw ax).toArray] (bn a0 af ag ay az au av aw ax) (fun v B=>∃ aS aT bv bx bq br bw bz,v = .agg (al r aS aT bv bx bq br bw bz).toArray∧B = (bn r aS aT bv bx bq br bw bz++bn a0 af ag ay az au av aw ax)):=by
 refine aj Tryz.func19 rfl rfl ?_
 unfold ld.f at H
 refine aR (o' (bO (h:=fun K=>o' (cw (h:=fun L=>bA (ao (bM 0 fun U=>bM 1 fun O=>bM 2 fun R=>bM 3 fun S=>?_)))))))
 refine fj [0,1,3,4,6] [4] [0,1,2,3,5] fun _ _ _ _ _ sH dd pk=>?_
 refine bc 0 rfl sH aA (h:=bQ 1 rfl sH (cz K 0 0 [ae a0.f0.f0,ae a0.f0.f1,.slice af a0.f0.f2.length ag]) (h:=bc 3 rfl sH aA (h:=r' 4 rfl sH (cz K 40 0 [ae a0.f16.f0,ae a0.f16.f1,.slice au a0.f16.f2.length av]) ?_)))
 obtain⟨a,E,H⟩:=ac H
 refine dU 2 rfl dd (gy [0] [1,2,3,4] (hH.ok E) fun d o=>?_)
 refine T' 6 rfl sH aA ?_
 obtain⟨b,F,H⟩:=ac H
 refine dU 5 rfl dd (gy [3] [0,1,2,4,5] (hH.ok F) fun j p=>?_)
 refine aV dd sH (eC 7 rfl (cF 0 [ae a.f0,ae a.f1,.slice d a.f2.length o] (h:=(ca 8 rfl aA (h:=eC 9 rfl (cF 0 [ae b.f0,ae b.f1,.slice j b.f2.length p] (h:=(aI (by kernel_rfl) (aa (aR (o' (gE (kd:=(Kd.int .i64)) (zv:=(ae 0)) (sz:=1) (cells:=[]) (xs:=([] : (List Int))) rfl Tryz.underlying29 np jl rfl rfl rfl (by kernel_rfl) rfl rfl (dO (fun x_ : Int=>[Value.int .i64 x_]) (fun _ _=>rfl) (by kernel_rfl)) fun I=>ad aA (h:=l' (aP 0) ?_)))))))))))))
 obtain⟨M,H⟩:=aO H
 obtain⟨u,z,H⟩:=bj H
 refine o' (gl (k:=8) (A:=some ⟨I,0,none⟩) (c:=0) (xs:=([] : (List Int))) (ys:=a0.f7) u z rfl Tryz.underlying29 pf rfl rfl rfl rfl rfl (ng.slice Tryz.underlying29 (Src.buf (k:=5) rfl)) (by omega) (by omega) fun l q=>ad aA (h:=o' (cF 0 [.slice l u.length q] (h:=(cP (o' (gE (kd:=(Kd.int .i32)) (zv:=(aL 0)) (sz:=1) (cells:=[]) (xs:=([] : (List Int))) rfl Tryz.underlying32 rG iB rfl rfl rfl (by kernel_rfl) rfl rfl (dO (fun x_ : Int=>[Value.int .i32 x_]) (fun _ _=>rfl) (by kernel_rfl)) fun J=>ad aA (h:=l' (aP 0) ?_))))))))
 obtain⟨N,H⟩:=aO H
 obtain⟨y,D,H⟩:=bj H
 refine o' (gl (k:=9) (A:=some ⟨J,0,none⟩) (c:=0) (xs:=([] : (List Int))) (ys:=a0.f17) y D rfl Tryz.underlying32 tI rfl rfl rfl rfl rfl (ng.slice Tryz.underlying32 (Src.buf (k:=6) rfl)) (by omega) (by omega) fun m s=>ad aA (h:=o' (cF 0 [.slice m y.length s] (h:=(cP (bp (cm 0) (h:=o' (bi L 0 7 (al ({ a0 with f0:=a,f7:=u,f16:=b,f17:=y }) d o l q j p m s) (h:=cC ?_)))))))))
 have h:=aN H;subst h
 exact gi (rs:=[.cell 2 34]) (vs:=[.agg (al ({ a0 with f0:=a,f7:=u,f16:=b,f17:=y }) d o l q j p m s).toArray]) (Buf bD 55 d o a.f2::gf 3 l q u::Buf bD 55 j p b.f2::kU 21 m s y::bn a0 af ag ay az au av aw ax) rfl ⟨RV.cell (k:=7) rfl rfl Tryz.underlying34 rfl rC,trivial⟩ rfl (eZ [3,8,1,9,4,5,2,6]) ⟨d,o,l,q,j,p,m,s,rfl,rfl⟩


def gk.f (k : Nat) (a0 : aJ) : Option (aJ × Bool):=(fe.f k a0).bind (fun a=>if (!a) = true then (some (((aJ.mk (bH.mk 0 0 ([] : (List aY))) 0 0 false (cM.mk 0 0 false false false false false false false false) 0 0 ([] : (List Int)) false false false false false false (dz.mk 0 0 false false (cM.mk 0 0 false false false false false false false false)) false (bH.mk 0 0 ([] : (List aY))) ([] : (List Int))),false))) else ((ld.f a0).bind (fun b=>some ((b,true)))))
theorem gk.ok {a0 : aJ} {r : aJ × Bool} (H : gk.f k a0 = some r) : dk Tryz.prog 98 #[.agg (al a0 af ag ay az au av aw ax).toArray] (bn a0 af ag ay az au av aw ax) (fun v B=>∃ aS aT bv bx bq br bw bz,v = .tuple #[.agg (al r.1 aS aT bv bx bq br bw bz).toArray,.bool r.2]∧B = (bn r.1 aS aT bv bx bq br bw bz++bn a0 af ag ay az au av aw ax)):=by
 refine aj Tryz.func98 rfl rfl ?_
 unfold gk.f at H
 refine aR (o' (bO (h:=fun J=>o' (cw (h:=fun u=>ad aW (h:=bA (ao (ao (bM 0 fun F=>bM 1 fun z=>bM 2 fun D=>bM 3 fun E=>ak ?_)))))))))
 refine l' (cm 4) ?_
 obtain⟨I,s,H⟩:=ac H
 refine o' (dc [0,1,2,3] [4,5] (fe.ok s) ?_)
 refine ad (bX rfl) (h:=bA ?_)
 rcases bE H with⟨a,H⟩|⟨a,H⟩
 ·refine aD rfl a (aR (bP (.agg (al cy none 0 none 0 none 0 none 0).toArray) dP (h:=o' (bi u 0 5 (al cy none 0 none 0 none 0 none 0) (h:=ad aW (h:=cD ?_))))))
  have h:=aN H;subst h
  exact ma [.cell 2 34,.tmp 3] ((Gh.nilBuf bD 55).trans ((Gh.nilBuf (Kd.int .i64) 3).trans ((Gh.nilBuf bD 55).trans ((Gh.nilBuf (Kd.int .i32) 21).trans (eZ [6,7,8,9,0,1,2,3]))))) ⟨none,0,none,0,none,0,none,0,rfl,rfl⟩ ⟨cV 5,cW,trivial⟩
 refine aE rfl a (ap (aa (aR (l' (cm 4) ?_))))
 obtain⟨y,q,H⟩:=ac H
 refine o' (ed [0,1,2,3] [4,5] (ld.ok q) fun b l c m d o j p=>?_)
 refine o' (bi u 0 9 (al y b l c m d o j p) (h:=ad aW (h:=cC ?_)))
 have h:=aN H;subst h
 exact du [.cell 2 34,.tmp 3] [0,1,2,3,4,5,6,7] ⟨b,l,c,m,d,o,j,p,rfl,rfl⟩ ⟨cV 9,cW,trivial⟩


def mj.l0 (a1 : Int) : Nat → aY → aY → Int → Option (Out (aY) (aY × aY))
  | 0,_,_,_=>none
  | k + 1,a,c,b=>if b < 3 then (if 0 ≤ b∧b < (3 : Int) then (if (rd ([a.f1.f0,a.f1.f1,a.f1.f2] : List Int) b) = 0 then (if 0 ≤ b∧b < (3 : Int) then (some (Out.ret ((aY.mk a.f0 (fX.mk (if b = 0 then a1 else a.f1.f0) (if b = 1 then a1 else a.f1.f1) (if b = 2 then a1 else a.f1.f2)) a.f2 a.f3)))) else none) else (lt (i64.wrap (b + 1)) fun n25=>mj.l0 a1 k a c n25)) else none) else (some (Out.go (a,c)))
def mj.f (k : Nat) (a0 : aY) (a1 : Int) : Option (aY):=(qQ.f k a1).bind (fun d=>(if d ≠ 0 then (some true) else (if a0.f2 ≠ 1 then (some (decide (a0.f2 ≠ 2))) else (some false)) : Option Bool).bind (fun c=>if c = true then (some (a0)) else ((mj.l0 a1 k a0 (aY.mk 0 (fX.mk 0 0 0) 0 (cM.mk 0 0 false false false false false false false false)) 0 : Option (Out (aY) (aY × aY))).bind (fun b=>Out.el b (fun r_=>some r_) (fun a=>some (a.1))))))
theorem mj.ok {a0 : aY} {a1 : Int} {r : aY} (H : mj.f k a0 a1 = some r) : fS Tryz.prog 143 #[.agg (bV a0).toArray,aL a1] [] (.agg (bV r).toArray):=by
 refine aj Tryz.func143 rfl rfl ?_
 unfold mj.f at H
 refine aR (o' (bO (h:=fun Y=>o' (cw (h:=fun K=>eD (S' ar ?_))))))
 obtain⟨r5,a3,H⟩:=ac H
 refine o' (dc [] [0,1] (qQ.ok a3) ?_)
 refine ad (dK rfl rfl) (h:=S' ar ?_)
 obtain⟨q6,H,O⟩:=ac H
 refine cK 9 (St [(1,aL a1),(2,aH Y),(4,aH K),(18,.bool q6)] [aK Y 55 (bV a0),aK K 55 (bV lC)]) ?_ ?_
 ·rcases bE H with⟨j,H⟩|⟨j,H⟩
  ·refine cu 4 (ai j) (fY (fY (fY (cu 1 (ai j) (gN (ai j) ?_)))))
   have h:=aN H;subst h
   exact dL [0,1]
  refine bf (am j) aA (h:=cE (am j) (aP 0) (h:=bf (am j) (dK rfl rfl) (h:=Y' (am j) ar ?_)))
  rcases bE H with⟨y,H⟩|⟨y,H⟩
  ·refine bf (ai y) aA (h:=cE (ai y) (aP 0) (h:=bf (ai y) (dK rfl rfl) (h:=fT (am j) (dr rfl (bS rfl (ai y) rfl) (fZ (am j) ?_)))))
   have h:=aN H;subst h
   exact dL [0,1]
  refine cu 3 (am y) (fT (am j) (dr rfl (bR rfl (am y) rfl) (fZ (am j) ?_)))
  have h:=aN H;subst h
  exact dL [0,1]
 rintro e ds As a2
 clear H
 have H:=O
 clear O
 refine bA (SA.of_St a2 fun junk=>?_)
 rcases bE H with⟨E,H⟩|⟨E,H⟩
 ·refine aD rfl E (aR (bp (cm 0) (h:=o' (bi K 0 1 (bV a0) (h:=cD ?_)))))
  have h:=aN H;subst h
  exact gi (rs:=[.cell 4 55]) (vs:=[.agg (bV a0).toArray]) [] rfl ⟨RV.cell (k:=1) rfl rfl Tryz.underlying55 rfl cl,trivial⟩ rfl (eZ []) ⟨rfl,rfl⟩
 refine aE rfl E (ap (aa (ao (aR (ad aW (h:=bA ?_))))))
 obtain⟨U,H,p⟩:=ac H
 refine bI (fun e ds As=>∃ (u : aY × aY),U = Out.go u∧∃ (D : Nat),∃ (z : Nat),St [(2,aH D),(4,aH z)] [aK D 55 (bV u.1),aK z 55 (bV u.2)] e ds As) ?_ ?_
 ·refine aQ (cj (fun k_ e ds As=>∃ (a : aY) (l : aY) (c : Int),∃ (d : Nat),∃ (s : Nat),mj.l0 a1 k_ a l c = some U∧St [(1,aL a1),(2,aH d),(4,aH s),(5,ae c)] [aK d 55 (bV a),aK s 55 (bV l)] e ds As) (k:=k) ⟨_,_,_,Y,K,H,jV [0,1]⟩ ?_)
  clear H
  rintro J e ds As ⟨a,l,c,d,s,H,L⟩
  obtain _ | J:=J
  ·cases H
  rw [mj.l0] at H
  refine SA.of_St L fun junk=>ao (aR (ad ar (h:=ad (ce rfl rfl) (h:=bA ?_))))
  rcases bE H with⟨F,H⟩|⟨F,H⟩
  ·refine aC rfl F (ap (aa (ao (aQ (aR (ad ar (h:=S' aA ?_)))))))
   obtain⟨⟨R,S⟩,H⟩:=aO H
   refine s' (.pointer (some ((⟨d,0,none⟩ : Addr).add (1 + c.toNat * 1 + 0)))) (gn (B:=⟨d,0,none⟩) (m:=1) (o:=1 + c.toNat * 1 + 0) Tryz.underlying53 iB rfl rfl R S rfl) ?_
   refine l' (gX (b:=d) (m:=1 + c.toNat * 1 + 0) (k:=0) (v:=aL (rd ([a.f1.f0,a.f1.f1,a.f1.f2] : List Int) c)) Tryz.underlying21 rfl rfl rfl (oY (q:=0) (kd:=(Kd.int .i32)) (m0:=1) (N:=3) (sz:=1) (xs:=([a.f1.f0,a.f1.f1,a.f1.f2] : List Int)) (i:=c) (dO (fun x_ : Int=>[Value.int .i32 x_]) (fun _ _=>rfl) (by kernel_rfl) _) rfl rfl R S (fun _ h_=>by rw [h_]; rfl))) ?_
   refine ad (bk rfl rfl) (h:=bA ?_)
   rcases bE H with⟨I,H⟩|⟨I,H⟩
   ·refine aC rfl I (aR (ad ar (h:=ad ar (h:=S' aA ?_))))
    obtain⟨⟨a4,a5⟩,H⟩:=aO H
    refine s' (.pointer (some ((⟨d,0,none⟩ : Addr).add (1 + c.toNat * 1 + 0)))) (gn (B:=⟨d,0,none⟩) (m:=1) (o:=1 + c.toNat * 1 + 0) Tryz.underlying53 iB rfl rfl a4 a5 rfl) ?_
    refine o' (oC (b:=d) (m:=1 + c.toNat * 1 + 0) (k:=0) (vs:=[aL a1]) (cs':=(bV (aY.mk a.f0 (fX.mk (if c = 0 then a1 else a.f1.f0) (if c = 1 then a1 else a.f1.f1) (if c = 2 then a1 else a.f1.f2)) a.f2 a.f3))) rfl rfl rfl rfl rfl rfl iB (by show 1 + c.toNat * 1 + 0 + 1 ≤ 15; omega) (by rcases (show c = 0 ∨ c = 1 ∨ c = 2 by omega) with h_ | h_ | h_ <;> (rewrite [h_]; kernel_rfl)) ?_)
    refine cP (bp (cm 0) (h:=o' (bi s 0 1 (bV (aY.mk a.f0 (fX.mk (if c = 0 then a1 else a.f1.f0) (if c = 1 then a1 else a.f1.f1) (if c = 2 then a1 else a.f1.f2)) a.f2 a.f3)) (h:=cC (ba (aG (aG (ba (aG (aG ?_))))))))))
    have h:=aN H;subst h
    have hb_:=dw p
    have hr_:=Option.some.inj hb_
    clear hb_
    subst hr_
    exact gi (rs:=[.cell 4 55]) (vs:=[.agg (bV (aY.mk a.f0 (fX.mk (if c = 0 then a1 else a.f1.f0) (if c = 1 then a1 else a.f1.f1) (if c = 2 then a1 else a.f1.f2)) a.f2 a.f3)).toArray]) [] rfl ⟨RV.cell (k:=1) rfl rfl Tryz.underlying55 rfl cl,trivial⟩ rfl (eZ []) ⟨rfl,rfl⟩
   refine aB rfl I (ap (aF (aa (ak (ad ar (h:=S' (bW rfl rfl) ?_))))))
   obtain⟨n25,Z,H⟩:=bj H
   refine bP (ae n25) (bo (v:=ae n25) (congrArg (Value.int .i64) Z.symm)) (h:=ah ?_)
   exact aa ⟨J,Nat.lt_succ_self _,_,_,_,d,s,H,dZ [0,1]⟩
  refine aB rfl F (cf (aX (aX (cg ?_))))
  have h:=aN H;subst h
  exact aa ⟨(a,l),rfl,d,s,dZ [0,1]⟩
 rintro e ds As ⟨u,ht,D,z,M⟩
 clear H
 subst ht
 replace p:=fw p
 have H:=p
 clear p
 refine aa (SA.of_St M fun junk=>aR (bp (cm 0) (h:=o' (bi z 0 1 (bV u.1) (h:=cC ?_)))))
 have h:=aN H;subst h
 exact gi (rs:=[.cell 4 55]) (vs:=[.agg (bV u.1).toArray]) [] rfl ⟨RV.cell (k:=1) rfl rfl Tryz.underlying55 rfl cl,trivial⟩ rfl (eZ []) ⟨rfl,rfl⟩


def lV.f (k : Nat) (p0 : aJ) (a1 : Int) : Option (aJ):=lt (i64.wrap (p0.f2 - 1)) fun n6=>(if p0.f3 = true then (some p0.f2) else (some n6) : Option (Int)).bind (fun j=>if j < 0 then (some (p0)) else (lt (i64.wrap ((i64.wrap (p0.f1 * p0.f0.f0)) + j)) fun b=>if 0 ≤ b∧b < (p0.f0.f2.length : Int) then ((if ((rd p0.f0.f2 b).f2) = 0 then (lt (i64.wrap (b - 1)) fun h=>some h) else (some b) : Option (Int)).bind (fun a=>if 0 ≤ a∧a < (p0.f0.f2.length : Int) then ((mj.f k (rd p0.f0.f2 a) a1).bind (fun d=>if 0 ≤ a∧a < (p0.f0.f2.length : Int) then (lt (p0.f0.f2.set a.toNat d) fun c=>(some (({ p0 with f0:=(bH.mk p0.f0.f0 p0.f0.f1 c) })))) else none)) else none)) else none))
theorem lV.ok {p0 : aJ} {a1 : Int} {r : aJ} (H : lV.f k p0 a1 = some r) : dk Tryz.prog 100 #[.pointer (some ⟨bg,0,none⟩),aL a1] (cN bg p0 af ag ay az au av aw ax) (fun v B=>∃ P0_0_ q0_0_ P0_1_ q0_1_ P0_2_ q0_2_ P0_3_ q0_3_,v = .tuple #[]∧B = (cN bg r P0_0_ q0_0_ P0_1_ q0_1_ P0_2_ q0_2_ P0_3_ q0_3_)):=by
 refine aj Tryz.func100 rfl rfl ?_
 unfold lV.f at H
 refine aR (ad ar (h:=ad cI (h:=ad aA (h:=bp (aP 0) (h:=S' (cT rfl rfl) ?_)))))
 obtain⟨n6,S,H⟩:=bj H
 refine bP (ae n6) (bo (v:=ae n6) (congrArg (Value.int .i64) S.symm)) (h:=eD (ad ar (h:=ad cI (h:=ad aA (h:=bp (aP 0) (h:=bA ?_))))))
 obtain⟨U,H,N⟩:=ac H
 refine bI (St [(0,aH bg),(1,aL a1),(4,ae U)] (cN bg p0 af ag ay az au av aw ax)) ?_ ?_
 ·rcases bE H with⟨O,H⟩|⟨O,H⟩
  ·refine aD rfl O (ak (ad ar (h:=ad cI (h:=ad aA (h:=bp (aP 0) (h:=ad aW (h:=ah ?_)))))))
   have h:=aN H;subst h
   exact bK [0,1,2,3,4]
  refine aE rfl O (ap ?_)
  have h:=aN H;subst h
  exact bK [0,1,2,3,4]
 rintro e ds As R
 clear H
 have H:=N
 clear N
 refine aa (SA.of_St R fun junk=>ao (aR (ad ar (h:=ad (ce rfl rfl) (h:=bA ?_)))))
 rcases bE H with⟨E,H⟩|⟨E,H⟩
 ·refine aC rfl E (fm (aG ?_))
  have h:=aN H;subst h
  exact kR (cN bg p0 af ag ay az au av aw ax) rfl (eZ [0,1,2,3,4]) ⟨af,ag,ay,az,au,av,aw,ax,rfl,rfl⟩
 refine aB rfl E (ap (aa (ao ?_)))
 refine fj (dt 0 13) [0] (dt 1 4) fun _ _ _ _ _ sH dd pk=>?_
 refine bc 0 rfl sH ar (h:=bc 1 rfl sH cI (h:=bc 2 rfl sH aA (h:=bQ 3 rfl sH (aP 0) (h:=bc 4 rfl sH ar (h:=bc 5 rfl sH cI (h:=bc 6 rfl sH aA (h:=bc 7 rfl sH aA (h:=bQ 8 rfl sH (aP 0) (h:=T' 9 rfl sH (jt rfl rfl) ?_)))))))))
 refine bc 10 rfl sH ar (h:=T' 11 rfl sH (bW rfl rfl) ?_)
 obtain⟨b,K,H⟩:=bj H
 refine kV (ae b) 12 rfl sH (bo (v:=ae b) (congrArg (Value.int .i64) K.symm)) (h:=aV dd sH (aI (by kernel_rfl) (aa (ao (aR (ad ar (h:=ad cI (h:=ad aA (h:=ad aA (h:=bp (aP 0) (h:=S' ar ?_)))))))))))
 obtain⟨⟨z,D⟩,H⟩:=aO H
 refine bp (bu (i:=b) Tryz.underlying24 cl rfl rfl (Src.buf (k:=1) rfl) z D) (h:=bP (.pointer (some ((el af (b.toNat * 15)).add 4))) (lp (el af (b.toNat * 15)) 0 4) (h:=bp (bJ (enc:=cZ) (i:=b) (j:=b.toNat * 15) (m:=4) (sz:=15) Tryz.underlying5 rfl rfl rfl rfl (Src.buf (k:=1) rfl) z D (fun _ _ h=>h) rfl) (h:=ad (bk rfl rfl) (h:=bA (SA.of_St (l:=[(0,aH bg),(1,aL a1),(5,ae b),(42,.bool (decide (((rd p0.f0.f2 b).f2) = 0)))]) (B:=(cN bg p0 af ag ay az au av aw ax)) (St.mk1 (cB rfl (cB rfl (cB rfl (cB rfl dS)))) (Gh.sel [0,1,2,3,4] (by kernel_rfl) (by kernel_rfl))) fun junk=>?_)))))
 obtain⟨a,H,o⟩:=ac H
 refine bI (St [(0,aH bg),(1,aL a1),(5,ae a)] (cN bg p0 af ag ay az au av aw ax)) ?_ ?_
 ·rcases bE H with⟨d,H⟩|⟨d,H⟩
  ·refine aC rfl d (ak (ad ar (h:=S' (cT rfl rfl) ?_)))
   obtain⟨I,L,H⟩:=bj H
   refine bP (ae I) (bo (v:=ae I) (congrArg (Value.int .i64) L.symm)) (h:=ah ?_)
   have h:=aN H;subst h
   exact bK [0,1,2,3,4]
  refine aB rfl d (ap ?_)
  have h:=aN H;subst h
  exact bK [0,1,2,3,4]
 rintro e ds As F
 clear H
 have H:=o
 clear o
 refine aa (SA.of_St F fun junk=>?_)
 refine fj (0::1::2::3::4::5::6::7::8::9::10::11::12::13::14::16::[]) [0,1] [2,3,4] fun _ _ _ _ _ sH dd pk=>?_
 refine bc 0 rfl sH ar (h:=bc 1 rfl sH cI (h:=bc 2 rfl sH aA (h:=bc 3 rfl sH aA (h:=bQ 4 rfl sH (aP 0) (h:=bc 5 rfl sH ar (h:=bc 6 rfl sH ar (h:=bc 7 rfl sH cI (h:=bc 8 rfl sH aA (h:=T' 9 rfl sH aA ?_)))))))))
 refine bQ 10 rfl sH (aP 0) (h:=T' 11 rfl sH ar ?_)
 obtain⟨⟨p,q⟩,H⟩:=aO H
 refine bQ 12 rfl sH (bu (i:=a) Tryz.underlying24 cl rfl rfl (Src.buf (k:=1) rfl) p q) (h:=bQ 13 rfl sH (ci (enc:=cZ) (i:=a) (j:=a.toNat * 15) (m:=0) (sz:=15) (vs:=(bV (aY.mk ((rd p0.f0.f2 a).f0) ((rd p0.f0.f2 a).f1) ((rd p0.f0.f2 a).f2) ((rd p0.f0.f2 a).f3)))) Tryz.underlying55 rfl cl rfl rfl rfl (Src.buf (k:=1) rfl) p q (fun _ _ h=>h) rfl) (h:=T' 14 rfl sH ar ?_))
 obtain⟨y,J,H⟩:=ac H
 refine dU 15 rfl dd (dc [] [0,1,2] (mj.ok J) ?_)
 obtain⟨⟨s,u⟩,H⟩:=aO H
 refine bQ 16 rfl sH (bu (i:=a) Tryz.underlying24 cl rfl rfl (Src.buf (k:=1) rfl) s u) (h:=aV dd sH ?_)
 obtain⟨M,c,H⟩:=bj H
 have hl_n1818 : M.length = p0.f0.f2.length:=by rw [c]; exact List.length_set
 refine eC 17 rfl (fW (k:=1) (i:=a) (j:=a.toNat * 15) (m:=0) (sz:=15) (xs:=p0.f0.f2) (vs:=(bV y)) y rfl rfl rfl rfl rfl rfl rfl rfl cl s u rfl (fun _ _ h_=>by subst h_; rfl) ?_)
 rewrite [← c]
 try unfold cN
 try unfold fc
 try unfold al
 try rewrite [← hl_n1818]
 refine aI (by kernel_rfl) ?_
 have h:=aN H;subst h
 exact fG [0,1,2,3,4] ⟨af,ag,ay,az,au,av,aw,ax,rfl,rfl⟩


def ip.f (k : Nat) (a0 : bH) (a1 : cM) (a2 : Int) : Option (Bool):=(fA.f k a0).bind (fun h=>(if (!h) = true then (some true) else ((qa.f a1).bind (fun c=>some (!c))) : Option Bool).bind (fun d=>lt (d || (decide (a2 < 0))) fun a=>lt (a || (decide (a2 ≥ a0.f1))) fun b=>some (b)))
theorem ip.ok {a0 : bH} {a1 : cM} {a2 : Int} {r : Bool} (H : ip.f k a0 a1 a2 = some r) : fS Tryz.prog 144 #[.agg #[ae a0.f0,ae a0.f1,.slice af a0.f2.length ag],.agg (bF a1).toArray,ae a2] [Buf bD 55 af ag a0.f2] (.bool r):=by
 refine aj Tryz.func144 rfl rfl ?_
 unfold ip.f at H
 refine aR (o' (bO (h:=fun d=>o' (bO (h:=fun B=>ad aW (h:=bA (ao (bM 0 fun y=>ak (l' (cz d 0 1 [ae a0.f0,ae a0.f1,.slice af a0.f2.length ag]) ?_)))))))))
 obtain⟨D,q,H⟩:=ac H
 refine o' (dc [0] [1,2] (fA.ok q) ?_)
 refine ad (bX rfl) (h:=S' ar ?_)
 obtain⟨u,H,o⟩:=ac H
 refine dy 4 [(2,ae a2),(3,aH d),(14,.bool u)] [Buf bD 55 af ag a0.f2,aK d 26 [ae a0.f0,ae a0.f1,.slice af a0.f2.length ag]] ?_ fun junk=>?_
 ·rcases bE H with⟨c,H⟩|⟨c,H⟩
  ·refine cu 3 c (gN c ?_)
   have h:=aN H;subst h
   exact dL [0,1]
  refine z' (aM c) (cm 2) ?_
  obtain⟨z,p,H⟩:=ac H
  refine fT (aM c) (dc [] [0,1,2] (qa.ok p) ?_)
  refine bf (aM c) (bX rfl) (h:=fZ (aM c) ?_)
  have h:=aN H;subst h
  exact dL [0,1]
 replace H:=o
 refine S' ar ?_
 obtain⟨m,j,H⟩:=bj H
 refine dy 3 [(2,ae a2),(3,aH d),(18,.bool m)] [Buf bD 55 af ag a0.f2,aK d 26 [ae a0.f0,ae a0.f1,.slice af a0.f2.length ag]] ?_ fun junk=>?_
 ·by_cases b : u = true
  ·refine cu 2 b (cd b (h:=ah ?_))
   have x_:=ji j b;exact bK [0,1]
  refine bf (aM b) ar (h:=bf (aM b) (ce rfl rfl) (h:=ck (aM b) (h:=ah ?_)))
  have x_:=jh j ((aM b));exact bK [0,1]
 refine S' ar ?_
 obtain⟨s,l,H⟩:=bj H
 refine dy 5 [(24,.bool s)] [Buf bD 55 af ag a0.f2] ?_ fun junk=>?_
 ·by_cases a : m = true
  ·refine cu 4 a (cd a (h:=ah ?_))
   have x_:=ji l a;exact bK [0]
  refine bf (aM a) ar (h:=bf (aM a) aA (h:=cE (aM a) (aP 1) (h:=bf (aM a) (dT rfl rfl) (h:=ck (aM a) (h:=ah ?_)))))
  have x_:=jh l ((aM a));exact bK [0]
 refine ad aW (h:=cC ?_)
 have h:=aN H;subst h
 exact dX [0] ⟨rfl,rfl⟩


def dv.f (a0 : bH) (a1 : Int) : Option ((Int × Int)):=if 0 ≤ (i64.wrap (a1 * a0.f0))∧(i64.wrap (a1 * a0.f0)) ≤ (i64.wrap ((i64.wrap (a1 + 1)) * a0.f0))∧(i64.wrap ((i64.wrap (a1 + 1)) * a0.f0)) ≤ (a0.f2.length : Int) then (some (((0 + (i64.wrap (a1 * a0.f0)) : Int),((i64.wrap ((i64.wrap (a1 + 1)) * a0.f0)) - (i64.wrap (a1 * a0.f0)) : Int)))) else none
theorem dv.ok {a0 : bH} {a1 : Int} {r : (Int × Int)} (H : dv.f a0 a1 = some r) : dk Tryz.prog 145 #[.agg #[ae a0.f0,ae a0.f1,.slice af a0.f2.length ag],ae a1] [Buf bD 55 af ag a0.f2] (fun v B=>∃ (V0_ : Option Addr) (v0_ : Nat) (_ : eu af V0_ 15 r.1 r.2 v0_),v = .slice V0_ r.2.toNat v0_∧B = [Buf bD 55 af ag a0.f2]):=by
 refine aj Tryz.func145 rfl rfl ?_
 unfold dv.f at H
 refine aR (o' (bO (h:=fun u=>ad aW (h:=bA (ao (bM 0 fun s=>ak (ad aA (h:=bp (aP 1) (h:=ad ar (h:=S' aA ?_))))))))))
 refine bp (aP 1) (h:=ad (jt rfl rfl) (h:=ad ar (h:=ad (bW rfl rfl) (h:=ad aA (h:=bp (aP 1) (h:=S' (jt rfl rfl) ?_))))))
 obtain⟨⟨j,o,p⟩,H⟩:=aO H
 refine s' (.slice (dj af (i64.wrap (a1 * a0.f0)) ((ag : Nat) : Int) 15) ((i64.wrap ((i64.wrap (a1 + 1)) * a0.f0)) - (i64.wrap (a1 * a0.f0))).toNat (((ag : Nat) : Int).toNat - (i64.wrap (a1 * a0.f0)).toNat)) (dq (l:=0) (m:=(a0.f2.length : Int)) (a:=i64.wrap (a1 * a0.f0)) (b:=i64.wrap ((i64.wrap (a1 + 1)) * a0.f0)) (q:=((ag : Nat) : Int)) (eu.whole (A:=af) (sz:=15) (xs:=a0.f2) (c:=ag) (by omega)) Tryz.underlying24 cl rfl rfl rfl rfl (.inr ⟨_,rfl⟩) (.inr ⟨_,rfl⟩) (.inl ⟨rfl,rfl⟩) j o p) ?_
 have d : eu af (dj af (i64.wrap (a1 * a0.f0)) ((ag : Nat) : Int) 15) 15 (0 + (i64.wrap (a1 * a0.f0))) ((i64.wrap ((i64.wrap (a1 + 1)) * a0.f0)) - (i64.wrap (a1 * a0.f0))) (((ag : Nat) : Int).toNat - (i64.wrap (a1 * a0.f0)).toNat):=eu.sub (eu.whole (A:=af) (sz:=15) (xs:=a0.f2) (c:=ag) (by omega)) j o p (.inl rfl) (Int.le_refl _)
 refine bP (.slice (dj af (i64.wrap (a1 * a0.f0)) ((ag : Nat) : Int) 15) ((i64.wrap ((i64.wrap (a1 + 1)) * a0.f0)) - (i64.wrap (a1 * a0.f0))).toNat (((ag : Nat) : Int).toNat - (i64.wrap (a1 * a0.f0)).toNat)) rN (h:=cC ?_)
 have h:=aN H;subst h
 exact dX [0] ⟨dj af (i64.wrap (a1 * a0.f0)) ((ag : Nat) : Int) 15,((ag : Nat) : Int).toNat - (i64.wrap (a1 * a0.f0)).toNat,d,rfl,rfl⟩

end Go.Proofs.YtckilbegmbaeeaaGreat.Z6

/- What functions compute, and that they do: 114b0, 115b0, 121Lb_0_, 135i34m0b_0_, 137, 138, 139, 151, 158, 16b0, 57b0, 59b0, 60b0, 61, 97. -/
import Derived.Test.YtckilbegmbaeeaaGreatZ33
namespace Go.Proofs.YtckilbegmbaeeaaGreat.Z3
open Go Go.RowKit Go.Proofs.YtckilbegmbaeeaaGreat.SL
open Go.IntKind (i64)
set_option linter.unusedVariables false
set_option maxHeartbeats 20000000
set_option maxRecDepth 100000
set_option linter.unusedSimpArgs false
attribute [local irreducible] IntKind.wrap cC dO eX gp gl lH fU cN gm rd sub bytesOf eG cL
variable {ba af ay ar au k : Nat}
variable {ag az aw av : Option Addr}
def fJ.l0 (a0 : bF) : Nat → aZ → Int → Option (Out (Bool) (aZ))
  | 0,_,_=>none
  | k + 1,b,a=>if a < (a0.f2.length : Int) then (if 0 ≤ a∧a < (a0.f2.length : Int) then (if a0.f0 ≠ 0 then (lt ((decide ((a.tmod a0.f0) = 0)) && (decide (b.f2 = 2))) fun d=>if d = true then (some (Out.ret (false))) else (lt ((decide (((rd a0.f2 a).f2) = 0)) && (decide (((rd a0.f2 a).f3) = b.f3))) fun h=>(if h = true then (if a0.f0 ≠ 0 then (some (decide ((a.tmod a0.f0) > 0))) else none) else (some false) : Option Bool).bind (fun c=>(lg.f k (aZ.mk ((rd a0.f2 a).f0) ((rd a0.f2 a).f1) ((rd a0.f2 a).f2) ((rd a0.f2 a).f3))).bind (fun j=>lt ((!j) || (decide ((decide (b.f2 = 2)) ≠ c))) fun l=>(if l = true then (some true) else (if ((rd a0.f2 a).f2) = 0 then (some (!c)) else (some false)) : Option Bool).bind (fun m=>if m = true then (some (Out.ret (false))) else (fJ.l0 a0 k (aZ.mk ((rd a0.f2 a).f0) ((rd a0.f2 a).f1) ((rd a0.f2 a).f2) ((rd a0.f2 a).f3)) (i64.wrap (a + 1)))))))) else none) else none) else (some (Out.go b))
def fJ.f (k : Nat) (a0 : bF) : Option (Bool):=(qH.f a0.f0 a0.f1).bind (fun c=>lt ((!c) || (decide ((a0.f2.length : Int) ≠ (i64.wrap (a0.f0 * a0.f1))))) fun d=>if d = true then (some (false)) else ((fJ.l0 a0 k (aZ.mk 0 (fR.mk 0 0 0) 1 (cA.mk 0 0 false false false false false false false false)) 0 : Option (Out (Bool) (aZ))).bind (fun a=>Out.el a (fun r_=>some r_) (fun b=>some (decide (b.f2 ≠ 2))))))
theorem fJ.ok {a0 : bF} {r : Bool} (H : fJ.f k a0 = some r) : fK Tryz.prog 57 #[.agg #[ae a0.f0,ae a0.f1,.slice ag a0.f2.length af]] [Buf bE 55 ag af a0.f2] (.bool r):=by
 refine ai Tryz.func57 rfl rfl ?_
 unfold fJ.f at H
 refine aQ (o' (bN (h:=fun s=>ad aV (h:=eJ (ad aE (h:=bD (aT 1) (h:=ad aE (h:=l' (aT 1) ?_))))))))
 obtain⟨r4,a9,H⟩:=ac H
 refine o' (da [] [0,1] (qH.ok a9) ?_)
 refine ad (ca rfl) (h:=S' ax ?_)
 obtain⟨q5,a3,H⟩:=br H
 refine cD 10 (St [(1,aK s),(23,.bool q5)] [Buf bE 55 ag af a0.f2,aL s 26 [ae a0.f0,ae a0.f1,.slice ag a0.f2.length af]]) ?_ ?_
 ·by_cases u : (!r4) = true
  ·refine cI 9 u (cq u (h:=aj ?_))
   have x_:=jL a3 u;exact bM [0,1]
  refine bn (aX u) aE (h:=dc (aX u) (aT 1) (h:=kQ (aX u) (ae (a0.f2.length : Int)) (dB Tryz.underlying24 rfl) (h:=bn (aX u) aE (h:=dc (aX u) (aT 1) (h:=bn (aX u) aE (h:=dc (aX u) (aT 1) (h:=bn (aX u) (jq rfl rfl) (h:=bn (aX u) (dK rfl rfl) (h:=gL (aX u) ?_)))))))))
  refine aj ?_
  have x_:=jN a3 ((aX u));exact bM [0,1]
 rintro e ds As a7
 refine bC (SA.of_St a7 fun junk=>?_)
 rcases bH H with⟨h8,H⟩|⟨h8,H⟩
 ·refine aC rfl h8 (aQ (ad aV (h:=cE ?_)))
  have h:=aN H;subst h
  exact er [0] ⟨rfl,rfl⟩
 refine aD rfl h8 (ap (aa (aQ (bO (.agg (bR (aZ.mk 0 (fR.mk 0 0 0) 1 fQ)).toArray) dA (h:=o' (cy (h:=fun b9=>o' (bg b9 0 2 (bR (aZ.mk 0 (fR.mk 0 0 0) 1 fQ)) (h:=eJ (ad aE (h:=bD (aT 1) (h:=bO (ae (a0.f2.length : Int)) (dB Tryz.underlying24 rfl) (h:=S' ax ?_)))))))))))))
 refine bC ?_
 obtain⟨a4,H,B⟩:=ac H
 refine bI (fun e ds As=>∃ (F : aZ),a4 = Out.go F∧∃ (I : Nat),St [(3,aK I)] [aL I 55 (bR F),Buf bE 55 ag af a0.f2] e ds As) ?_ ?_
 ·refine aU (cw (fun k_ e ds As=>∃ (b : aZ) (a : Int),∃ (c : Nat),fJ.l0 a0 k_ b a = some a4∧St [(1,aK s),(3,aK c),(26,.slice ag a0.f2.length af),(27,ae (a0.f2.length : Int)),(28,ae a)] [Buf bE 55 ag af a0.f2,aL s 26 [ae a0.f0,ae a0.f1,.slice ag a0.f2.length af],aL c 55 (bR b)] e ds As) (k:=k) ⟨_,_,b9,H,kW [0,1,2]⟩ ?_)
  clear H
  rintro J e ds As ⟨b,a,c,H,Y⟩
  obtain _ | J:=J
  ·cases H
  rw [fJ.l0] at H
  refine SA.of_St Y fun junk=>aQ (ad (cn rfl rfl) (h:=bC (ao ?_)))
  rcases bH H with⟨K,H⟩|⟨K,H⟩
  ·refine aB rfl K (ap (aa (ao (aU (aQ (S' ax ?_))))))
   obtain⟨⟨a5,a6⟩,H⟩:=aR H
   refine bD (bK (i:=a) Tryz.underlying24 cl rfl rfl (Src.buf (k:=0) rfl) a5 a6) (h:=bD (cj (enc:=di) (i:=a) (j:=a.toNat * 15) (m:=0) (sz:=15) (vs:=(bR (aZ.mk ((rd a0.f2 a).f0) ((rd a0.f2 a).f1) ((rd a0.f2 a).f2) ((rd a0.f2 a).f3)))) Tryz.underlying55 rfl cl rfl rfl rfl (Src.buf (k:=0) rfl) a5 a6 (fun _ _ h=>h) rfl) (h:=o' (cy (h:=fun d=>ad aV (h:=o' (bg d 0 3 (bR (aZ.mk ((rd a0.f2 a).f0) ((rd a0.f2 a).f1) ((rd a0.f2 a).f2) ((rd a0.f2 a).f3))) (h:=eJ (ad ax (h:=ad aE (h:=l' (aT 1) ?_))))))))))
   obtain⟨b0,H⟩:=aR H
   refine bO (ae (a.tmod a0.f0)) (oZ rfl rfl b0) (h:=ad (bk rfl rfl) (h:=S' ax ?_))
   obtain⟨b1,L,H⟩:=br H
   refine cD 4 (St [(1,aK s),(3,aK c),(4,ae a),(5,aK d),(26,.slice ag a0.f2.length af),(27,ae (a0.f2.length : Int)),(28,ae a),(42,.bool b1)] [Buf bE 55 ag af a0.f2,aL s 26 [ae a0.f0,ae a0.f1,.slice ag a0.f2.length af],aL c 55 (bR b),aL d 55 (bR (aZ.mk ((rd a0.f2 a).f0) ((rd a0.f2 a).f1) ((rd a0.f2 a).f2) ((rd a0.f2 a).f3)))]) ?_ ?_
   ·by_cases D : (a.tmod a0.f0) = 0
    ·refine bn (ak D) aE (h:=dc (ak D) (aT 2) (h:=bn (ak D) (bk rfl rfl) (h:=cq (ak D) (h:=aj ?_))))
     have x_:=gD L ((ak D));exact bM [0,1,2,3]
    refine cI 3 (am D) (cv (am D) (h:=aj ?_))
    have x_:=gC L ((am D));exact bM [0,1,2,3]
   rintro e ds As Z
   refine bC (SA.of_St Z fun junk=>?_)
   rcases bH H with⟨M,H⟩|⟨M,H⟩
   ·refine aC rfl M (aQ (ad aV (h:=cE (bi (aI (aI (bi (aI (aI ?_)))))))))
    have h:=aN H;subst h
    have hb_:=dS B
    have hr_:=Option.some.inj hb_
    clear hb_
    subst hr_
    exact er [0] ⟨rfl,rfl⟩
   refine aD rfl M (ap (aa (aQ (ad aE (h:=bD (aT 3) (h:=ad (bk rfl rfl) (h:=S' ax ?_)))))))
   obtain⟨b3,N,H⟩:=br H
   refine eg 6 [(1,aK s),(3,aK c),(4,ae a),(5,aK d),(26,.slice ag a0.f2.length af),(27,ae (a0.f2.length : Int)),(28,ae a),(52,.bool b3)] [Buf bE 55 ag af a0.f2,aL s 26 [ae a0.f0,ae a0.f1,.slice ag a0.f2.length af],aL c 55 (bR b),aL d 55 (bR (aZ.mk ((rd a0.f2 a).f0) ((rd a0.f2 a).f1) ((rd a0.f2 a).f2) ((rd a0.f2 a).f3)))] ?_ fun junk=>?_
   ·by_cases o : ((rd a0.f2 a).f2) = 0
    ·refine bn (ak o) aE (h:=dc (ak o) (cG d 5 3 (bG ((rd a0.f2 a).f3))) (h:=bn (ak o) aE (h:=dc (ak o) (cG c 5 2 (bG b.f3)) (h:=kQ (ak o) (.bool (decide (((rd a0.f2 a).f3) = b.f3))) (mb (xs:=(bG ((rd a0.f2 a).f3))) (ys:=(bG b.f3)) (r:=(((((rd a0.f2 a).f3).f0) == b.f3.f0) && (((((rd a0.f2 a).f3).f1) == b.f3.f1) && (((((rd a0.f2 a).f3).f2) == b.f3.f2) && (((((rd a0.f2 a).f3).f3) == b.f3.f3) && (((((rd a0.f2 a).f3).f4) == b.f3.f4) && (((((rd a0.f2 a).f3).f5) == b.f3.f5) && (((((rd a0.f2 a).f3).f6) == b.f3.f6) && (((((rd a0.f2 a).f3).f7) == b.f3.f7) && (((((rd a0.f2 a).f3).f8) == b.f3.f8) && (((((rd a0.f2 a).f3).f9) == b.f3.f9) && true))))))))))) (p:=((rd a0.f2 a).f3) = b.f3) ng rfl rfl (by kernel_rfl) (nh (x:=((rd a0.f2 a).f3)) (y:=b.f3))) (h:=cq (ak o) (h:=aj ?_))))))
     have x_:=gD N ((ak o));exact bM [0,1,2,3]
    refine cI 5 (am o) (cv (am o) (h:=aj ?_))
    have x_:=gC N ((am o));exact bM [0,1,2,3]
   refine S' ax ?_
   obtain⟨O,H,a8⟩:=ac H
   refine eg 6 [(1,aK s),(3,aK c),(5,aK d),(26,.slice ag a0.f2.length af),(27,ae (a0.f2.length : Int)),(28,ae a),(59,.bool O)] [Buf bE 55 ag af a0.f2,aL s 26 [ae a0.f0,ae a0.f1,.slice ag a0.f2.length af],aL c 55 (bR b),aL d 55 (bR (aZ.mk ((rd a0.f2 a).f0) ((rd a0.f2 a).f1) ((rd a0.f2 a).f2) ((rd a0.f2 a).f3)))] ?_ fun junk=>?_
   ·rcases bH H with⟨z,H⟩|⟨z,H⟩
    ·refine bn z ax (h:=bn z aE (h:=z' z (aT 1) ?_))
     obtain⟨b4,H⟩:=aR H
     refine kQ z (ae (a.tmod a0.f0)) (oZ rfl rfl b4) (h:=bn z (eR rfl rfl) (h:=ii z ?_))
     have h:=aN H;subst h
     exact dV [0,1,2,3]
    refine cI 5 (aX z) (gL (aX z) ?_)
    have h:=aN H;subst h
    exact dV [0,1,2,3]
   replace H:=a8
   refine ad aV (h:=eJ (l' (ck 3) ?_))
   obtain⟨b5,b6,H⟩:=ac H
   refine o' (da [] [0,1,2,3] (lg.ok b6) ?_)
   refine ad (ca rfl) (h:=S' ax ?_)
   obtain⟨b7,R,H⟩:=br H
   refine eg 6 [(1,aK s),(3,aK c),(5,aK d),(6,.bool O),(26,.slice ag a0.f2.length af),(27,ae (a0.f2.length : Int)),(28,ae a),(69,.bool b7)] [Buf bE 55 ag af a0.f2,aL s 26 [ae a0.f0,ae a0.f1,.slice ag a0.f2.length af],aL c 55 (bR b),aL d 55 (bR (aZ.mk ((rd a0.f2 a).f0) ((rd a0.f2 a).f1) ((rd a0.f2 a).f2) ((rd a0.f2 a).f3)))] ?_ fun junk=>?_
   ·by_cases q : (!b5) = true
    ·refine cI 5 q (cq q (h:=aj ?_))
     have x_:=jL R q;exact bM [0,1,2,3]
    refine bn (aX q) aE (h:=dc (aX q) (aT 2) (h:=bn (aX q) (bk rfl rfl) (h:=bn (aX q) ax (h:=kQ (aX q) (.bool (decide ((decide (b.f2 = 2)) ≠ O))) (rp Tryz.underlying4 rfl rfl) (h:=cv (aX q) (h:=aj ?_))))))
    have x_:=jN R ((aX q));exact bM [0,1,2,3]
   refine S' ax ?_
   obtain⟨b8,H,S⟩:=ac H
   refine cD 8 (St [(1,aK s),(3,aK c),(5,aK d),(26,.slice ag a0.f2.length af),(27,ae (a0.f2.length : Int)),(28,ae a),(78,.bool b8)] [Buf bE 55 ag af a0.f2,aL s 26 [ae a0.f0,ae a0.f1,.slice ag a0.f2.length af],aL c 55 (bR b),aL d 55 (bR (aZ.mk ((rd a0.f2 a).f0) ((rd a0.f2 a).f1) ((rd a0.f2 a).f2) ((rd a0.f2 a).f3)))]) ?_ ?_
   ·rcases bH H with⟨l,H⟩|⟨l,H⟩
    ·refine cI 4 l (gj (gj (cI 1 l (ii l ?_))))
     have h:=aN H;subst h
     exact dV [0,1,2,3]
    refine bn (aX l) aE (h:=dc (aX l) (aT 3) (h:=bn (aX l) (bk rfl rfl) (h:=Y' (aX l) ax ?_)))
    rcases bH H with⟨E,H⟩|⟨E,H⟩
    ·refine bn (ak E) ax (h:=bn (ak E) (ca rfl) (h:=gE (aX l) (dl rfl (bX rfl (ak E) rfl) (gL (aX l) ?_))))
     have h:=aN H;subst h
     exact dV [0,1,2,3]
    refine cI 2 (am E) (gE (aX l) (dl rfl (bY rfl (am E) rfl) (gL (aX l) ?_)))
    have h:=aN H;subst h
    exact dV [0,1,2,3]
   rintro e ds As a1
   clear H
   have H:=S
   clear S
   refine bC (SA.of_St a1 fun junk=>?_)
   rcases bH H with⟨U,H⟩|⟨U,H⟩
   ·refine aC rfl U (aQ (ad aV (h:=cE (bi (aI (aI (bi (aI (aI ?_)))))))))
    have h:=aN H;subst h
    have hb_:=dS B
    have hr_:=Option.some.inj hb_
    clear hb_
    subst hr_
    exact er [0] ⟨rfl,rfl⟩
   refine aD rfl U (ap (aa (ah (bD (ck 3) (h:=o' (bg c 0 2 (bR (aZ.mk ((rd a0.f2 a).f0) ((rd a0.f2 a).f1) ((rd a0.f2 a).f2) ((rd a0.f2 a).f3))) (h:=aj (aF (aa (ah (ad (bV rfl rfl) (h:=ad ax (h:=aj ?_)))))))))))))
   exact aa ⟨J,Nat.lt_succ_self _,_,_,c,H,ed [0,1,2]⟩
  refine aA rfl K (ct (bc (bc (cr ?_))))
  have h:=aN H;subst h
  exact aa ⟨b,rfl,c,ed [2,0]⟩
 rintro e ds As ⟨F,ht,I,a2⟩
 clear H
 subst ht
 replace B:=fW B
 have H:=B
 clear B
 refine aa (SA.of_St a2 fun junk=>aQ (ad aE (h:=bD (aT 0) (h:=ad (dK rfl rfl) (h:=ad aV (h:=cF ?_))))))
 have h:=aN H;subst h
 exact er [1] ⟨rfl,rfl⟩


def jB.l0 (l0 : (List aZ)) (l1 : (List aZ)) : Nat → Int → Option (Out (Bool) (Unit))
  | 0,_=>none
  | k + 1,a=>if a < (l0.length : Int) then (if 0 ≤ a∧a < (l0.length : Int) then (if 0 ≤ a∧a < (l1.length : Int) then (if (rd l0 a) ≠ (rd l1 a) then (some (Out.ret (false))) else (jB.l0 l0 l1 k (i64.wrap (a + 1)))) else none) else none) else (some (Out.go ()))
def jB.f (k : Nat) (l0 : (List aZ)) (l1 : (List aZ)) : Option (Bool):=if (l0.length : Int) ≠ (l1.length : Int) then (some (false)) else ((jB.l0 l0 l1 k 0 : Option (Out (Bool) (Unit))).bind (fun a=>Out.el a (fun r_=>some r_) (fun b=>some (true))))

def pR.f (k : Nat) (a0 : bF) (a1 : bF) : Option (Bool):=lt ((decide (a0.f0 = a1.f0)) && (decide (a0.f1 = a1.f1))) fun c=>(if c = true then ((jB.f k a0.f2 a1.f2).bind (fun a=>some a)) else (some false) : Option Bool).bind (fun b=>some (b))

def iZ.l0 (l0 : (List Int)) (g1 : Int → Option (Bool)) : Nat → Int → Option (Out (Int) (Unit))
  | 0,_=>none
  | k + 1,a=>if a < (l0.length : Int) then (if 0 ≤ a∧a < (l0.length : Int) then ((g1 (rd l0 a)).bind (fun b=>if b = true then (some (Out.ret (a))) else (iZ.l0 l0 g1 k (i64.wrap (a + 1))))) else none) else (some (Out.go ()))
def iZ.f (k : Nat) (l0 : (List Int)) (g1 : Int → Option (Bool)) : Option (Int):=(iZ.l0 l0 g1 k 0 : Option (Out (Int) (Unit))).bind (fun a=>Out.el a (fun r_=>some r_) (fun b=>some ((-1))))

def qi.f (k : Nat) (l0 : (List Int)) (g1 : Int → Option (Bool)) : Option (Bool):=(iZ.f k l0 g1).bind (fun a=>some (decide (a ≥ 0)))

def vg.f (a0 : Int) : Option (Bool):=some (decide (a0 < 0))
theorem vg.ok {a0 : Int} {r : Bool} (H : vg.f a0 = some r) : fK Tryz.prog 61 #[aJ a0] [] (.bool r):=by
 refine ai Tryz.func61 rfl rfl ?_
 unfold vg.f at H
 refine aQ (ad aV (h:=cV (ad ax (h:=ad (cn rfl rfl) (h:=ad aV (h:=cF ?_))))))
 have h:=aN H;subst h
 exact er [] ⟨rfl,rfl⟩


def ei.l1 (a0 : aG) : Nat → Int → Int → Option (Out (Bool) (Unit))
  | 0,_,_=>none
  | k + 1,b,a=>if a < (a0.f7.length : Int) then (if 0 ≤ a∧a < (a0.f7.length : Int) then (lt (rd a0.f7 a) fun n65=>lt ((decide (n65 ≤ b)) || (decide (n65 ≥ a0.f0.f0))) fun c=>if c = true then (some (Out.ret (false))) else (ei.l1 a0 k n65 (i64.wrap (a + 1)))) else none) else (some (Out.go ()))
def ei.l0 (a0 : aG) : Nat → Int → Option (Out (Bool) (Unit))
  | 0,_=>none
  | k + 1,a=>if a < 2 then (if 0 ≤ a∧a < (2 : Int) then (lt ((decide (((rd ([(dq.mk a0.f1 a0.f2 a0.f3 false (cA.mk 0 0 false false false false false false false false)),a0.f14] : List dq) a).f0) < 0)) || (decide (((rd ([(dq.mk a0.f1 a0.f2 a0.f3 false (cA.mk 0 0 false false false false false false false false)),a0.f14] : List dq) a).f0) ≥ a0.f0.f1))) fun b=>lt (b || (decide (((rd ([(dq.mk a0.f1 a0.f2 a0.f3 false (cA.mk 0 0 false false false false false false false false)),a0.f14] : List dq) a).f1) < 0))) fun c=>lt (c || (decide (((rd ([(dq.mk a0.f1 a0.f2 a0.f3 false (cA.mk 0 0 false false false false false false false false)),a0.f14] : List dq) a).f1) ≥ a0.f0.f0))) fun d=>(if d = true then (some true) else (if ((rd ([(dq.mk a0.f1 a0.f2 a0.f3 false (cA.mk 0 0 false false false false false false false false)),a0.f14] : List dq) a).f2) = true then (some (decide (((rd ([(dq.mk a0.f1 a0.f2 a0.f3 false (cA.mk 0 0 false false false false false false false false)),a0.f14] : List dq) a).f1) ≠ (i64.wrap (a0.f0.f0 - 1))))) else (some false)) : Option Bool).bind (fun h=>if h = true then (some (Out.ret (false))) else (ei.l0 a0 k (i64.wrap (a + 1))))) else none) else (some (Out.go ()))
def ei.f (k : Nat) (a0 : aG) : Option (Bool):=(fJ.f k a0.f0).bind (fun a=>(if (!a) = true then (some true) else ((qf.f a0.f4).bind (fun b=>some (!b))) : Option Bool).bind (fun c=>(if c = true then (some true) else ((qf.f a0.f14.f4).bind (fun gy=>some (!gy))) : Option Bool).bind (fun d=>lt (d || (decide (a0.f5 < 0))) fun h=>lt (h || (decide (a0.f5 > a0.f6))) fun j=>lt (j || (decide (a0.f6 ≥ a0.f0.f1))) fun l=>if l = true then (some (false)) else ((ei.l0 a0 k 0 : Option (Out (Bool) (Unit))).bind (fun m=>Out.el m (fun r_=>some r_) (fun B=>(ei.l1 a0 k (-1) 0 : Option (Out (Bool) (Unit))).bind (fun o=>Out.el o (fun r_=>some r_) (fun D=>(if a0.f15 = true then ((fJ.f k a0.f16).bind (fun p=>if (!p) = true then (some true) else (if a0.f16.f0 ≠ a0.f0.f0 then (some true) else (some (decide (a0.f16.f1 ≠ a0.f0.f1)))))) else (some false) : Option Bool).bind (fun q=>(if q = true then (some true) else (if (!a0.f15) = true then ((pR.f k a0.f16 (bF.mk 0 0 ([] : (List aZ)))).bind (fun r=>some (!r))) else (some false)) : Option Bool).bind (fun s=>if s = true then (some (false)) else ((if (a0.f17.length : Int) ≤ 256 then ((qi.f k a0.f17 (fun (u : Int)=>vg.f u)).bind (fun y=>some (!y))) else (some false) : Option Bool).bind (fun z=>some (z)))))))))))))

def sG.f (l0 : (List aZ)) : Option ((List aZ)):=if ([] : (List aZ)).length + l0.length ≤ 2932031007402 then lt (([] : (List aZ)) ++ l0) fun n9=>(some (n9)) else none
theorem sG.ok {l0 : (List aZ)} {A0 : Option Addr} {c0 : Nat} {r : (List aZ)} (H : sG.f l0 = some r) : df Tryz.prog 158 #[.slice A0 l0.length c0] [Ro bE A0 c0 l0] (fun v B=>∃ aP aO,v = .slice aP r.length aO∧B = [Buf bE 55 aP aO r]):=by
 refine ai Tryz.func158 rfl rfl ?_
 unfold sG.f at H
 refine aQ (ad aV (h:=eJ (ad ax (h:=bO (.bool A0.isNone) (om Tryz.underlying24 rfl rfl) (h:=bC ?_)))))
 by_cases h2 : A0 = none
 ·subst h2
  refine nI (k:=0) rfl fun e_=>?_
  subst e_
  replace H:=rK (x:=some (([] : (List aZ)))) H (by simp [lt])
  refine aC rfl rfl (aQ (ad aV (h:=cE ?_)))
  have h:=aN H;subst h
  exact mq [Buf bE 55 none 0 ([] : (List aZ))] rfl rfl ((Gh.nilBuf bE 55).trans (eY [1])) ⟨none,0,rfl,rfl⟩
 obtain⟨a_,rfl⟩:=Option.ne_none_iff_exists'.1 h2
 refine aD rfl (by first | decide | simp) (ap (aa (aQ (o' (hU (kd:=bE) (zv:=(.agg (bR lP).toArray)) (sz:=15) (cells:=[]) (xs:=([] : (List aZ))) rfl Tryz.underlying24 jX cl rfl rfl rfl (by kernel_rfl) rfl rfl (dL di (fun _ _=>rfl) (by kernel_rfl)) fun b=>S' ax ?_)))))
 obtain⟨l,H⟩:=aR H
 obtain⟨n9,a,H⟩:=br H
 refine o' (gZ (k:=1) (A:=some ⟨b,0,none⟩) (c:=0) (xs:=([] : (List aZ))) (ys:=l0) n9 a rfl Tryz.underlying24 nl rfl rfl rfl rfl rfl (oe.slice Tryz.underlying24 (Src.ro (k:=0) rfl)) (by omega) (by omega) fun d j=>ad aV (h:=cF ?_))
 have h:=aN H;subst h
 exact er [1] ⟨d,j,rfl,rfl⟩


def pD.f (a0 : bF) : Option (bF):=(sG.f a0.f2).bind (fun a=>some ((bF.mk a0.f0 a0.f1 a)))
theorem pD.ok {a0 : bF} {r : bF} (H : pD.f a0 = some r) : df Tryz.prog 137 #[.agg #[ae a0.f0,ae a0.f1,.slice ag a0.f2.length af]] [Ro bE ag af a0.f2] (fun v B=>∃ aP aO,v = .agg #[ae r.f0,ae r.f1,.slice aP r.f2.length aO]∧B = [Buf bE 55 aP aO r.f2]):=by
 refine ai Tryz.func137 rfl rfl ?_
 unfold pD.f at H
 refine aQ (o' (bN (h:=fun j=>o' (cy (h:=fun l=>cV (ad aE (h:=l' (aT 1) ?_)))))))
 obtain⟨c,d,H⟩:=ac H
 refine o' (gu [0] [0,1,2] (sG.ok (A0:=ag) (c0:=af) d) fun a b=>?_)
 refine ad aE (h:=o' (cH 2 [.slice a c.length b] (h:=(cV (bD (cG j 0 2 [ae a0.f0,ae a0.f1,.slice a c.length b]) (h:=o' (bg l 0 3 [ae a0.f0,ae a0.f1,.slice a c.length b] (h:=cF ?_))))))))
 have h:=aN H;subst h
 exact gH (rs:=[.cell 2 26]) (vs:=[.agg #[ae a0.f0,ae a0.f1,.slice a c.length b]]) [Buf bE 55 a b c] rfl ⟨RV.cell (k:=3) rfl rfl Tryz.underlying26 rfl uU,trivial⟩ rfl (eY [0]) ⟨a,b,rfl,rfl⟩


def sJ.f (l0 : (List Int)) : Option ((List Int)):=if ([] : (List Int)).length + l0.length ≤ 17592186044416 then lt (([] : (List Int)) ++ l0) fun n9=>(some (n9)) else none
theorem sJ.ok {l0 : (List Int)} {A0 : Option Addr} {c0 : Nat} {r : (List Int)} (H : sJ.f l0 = some r) : df Tryz.prog 138 #[.slice A0 l0.length c0] [yY A0 c0 l0] (fun v B=>∃ aP aO,v = .slice aP r.length aO∧B = [fm 3 aP aO r]):=by
 refine ai Tryz.func138 rfl rfl ?_
 unfold sJ.f at H
 refine aQ (ad aV (h:=eJ (ad ax (h:=bO (.bool A0.isNone) (om Tryz.underlying29 rfl rfl) (h:=bC ?_)))))
 by_cases h2 : A0 = none
 ·subst h2
  refine nI (k:=0) rfl fun e_=>?_
  subst e_
  replace H:=rK (x:=some (([] : (List Int)))) H (by simp [lt])
  refine aC rfl rfl (aQ (ad aV (h:=cE ?_)))
  have h:=aN H;subst h
  exact mq [fm 3 none 0 ([] : (List Int))] rfl rfl ((Gh.nilBuf (Kd.int .i64) 3).trans (eY [1])) ⟨none,0,rfl,rfl⟩
 obtain⟨a_,rfl⟩:=Option.ne_none_iff_exists'.1 h2
 refine aD rfl (by first | decide | simp) (ap (aa (aQ (o' (hU (kd:=(Kd.int .i64)) (zv:=(ae 0)) (sz:=1) (cells:=[]) (xs:=([] : (List Int))) rfl Tryz.underlying29 ot jG rfl rfl rfl (by kernel_rfl) rfl rfl (dL (fun x_ : Int=>[Value.int .i64 x_]) (fun _ _=>rfl) (by kernel_rfl)) fun b=>S' ax ?_)))))
 obtain⟨l,H⟩:=aR H
 obtain⟨n9,a,H⟩:=br H
 refine o' (gZ (k:=1) (A:=some ⟨b,0,none⟩) (c:=0) (xs:=([] : (List Int))) (ys:=l0) n9 a rfl Tryz.underlying29 qA rfl rfl rfl rfl rfl (oe.slice Tryz.underlying29 (Src.ro (k:=0) rfl)) (by omega) (by omega) fun d j=>ad aV (h:=cF ?_))
 have h:=aN H;subst h
 exact er [1] ⟨d,j,rfl,rfl⟩


def sT.f (l0 : (List Int)) : Option ((List Int)):=if ([] : (List Int)).length + l0.length ≤ 35184372088832 then lt (([] : (List Int)) ++ l0) fun n9=>(some (n9)) else none
theorem sT.ok {l0 : (List Int)} {A0 : Option Addr} {c0 : Nat} {r : (List Int)} (H : sT.f l0 = some r) : df Tryz.prog 139 #[.slice A0 l0.length c0] [vj A0 c0 l0] (fun v B=>∃ aP aO,v = .slice aP r.length aO∧B = [jf 21 aP aO r]):=by
 refine ai Tryz.func139 rfl rfl ?_
 unfold sT.f at H
 refine aQ (ad aV (h:=eJ (ad ax (h:=bO (.bool A0.isNone) (om Tryz.underlying32 rfl rfl) (h:=bC ?_)))))
 by_cases h2 : A0 = none
 ·subst h2
  refine nI (k:=0) rfl fun e_=>?_
  subst e_
  replace H:=rK (x:=some (([] : (List Int)))) H (by simp [lt])
  refine aC rfl rfl (aQ (ad aV (h:=cE ?_)))
  have h:=aN H;subst h
  exact mq [jf 21 none 0 ([] : (List Int))] rfl rfl ((Gh.nilBuf (Kd.int .i32) 21).trans (eY [1])) ⟨none,0,rfl,rfl⟩
 obtain⟨a_,rfl⟩:=Option.ne_none_iff_exists'.1 h2
 refine aD rfl (by first | decide | simp) (ap (aa (aQ (o' (hU (kd:=(Kd.int .i32)) (zv:=(aJ 0)) (sz:=1) (cells:=[]) (xs:=([] : (List Int))) rfl Tryz.underlying32 tW kP rfl rfl rfl (by kernel_rfl) rfl rfl (dL (fun x_ : Int=>[Value.int .i32 x_]) (fun _ _=>rfl) (by kernel_rfl)) fun b=>S' ax ?_)))))
 obtain⟨l,H⟩:=aR H
 obtain⟨n9,a,H⟩:=br H
 refine o' (gZ (k:=1) (A:=some ⟨b,0,none⟩) (c:=0) (xs:=([] : (List Int))) (ys:=l0) n9 a rfl Tryz.underlying32 vI rfl rfl rfl rfl rfl (oe.slice Tryz.underlying32 (Src.ro (k:=0) rfl)) (by omega) (by omega) fun d j=>ad aV (h:=cF ?_))
 have h:=aN H;subst h
 exact er [1] ⟨d,j,rfl,rfl⟩


def lL.f (a0 : aG) : Option (aG):=(pD.f a0.f0).bind (fun a=>(pD.f a0.f16).bind (fun b=>(sJ.f a0.f7).bind (fun c=>(sT.f a0.f17).bind (fun d=>some (({ a0 with f0:=a,f7:=c,f16:=b,f17:=d }))))))
theorem lL.ok {a0 : aG} {r : aG} (H : lL.f a0 = some r) : df Tryz.prog 97 #[.agg (al a0 ag af az ay aw ar av au).toArray] (eK a0 ag af az ay aw ar av au) (fun v B=>∃ aP aO bA bv bq bp bB bw,v = .agg (al r aP aO bA bv bq bp bB bw).toArray∧B = (aS r aP aO bA bv bq bp bB bw)):=by
 refine ai Tryz.func97 rfl rfl ?_
 unfold lL.f at H
 refine aQ (o' (bN (h:=fun z=>o' (cy (h:=fun D=>bC (ao ?_))))))
 refine fk [0,1,3,4,6] (dG 0 5) [0,1,2,3,5] fun _ _ _ _ _ sH dd pk=>?_
 refine bf 0 rfl sH aE (h:=bT 1 rfl sH (cG z 0 4 [ae a0.f0.f0,ae a0.f0.f1,.slice ag a0.f0.f2.length af]) (h:=bf 3 rfl sH aE (h:=r' 4 rfl sH (cG z 40 4 [ae a0.f16.f0,ae a0.f16.f1,.slice aw a0.f16.f2.length ar]) ?_)))
 obtain⟨a,E,H⟩:=ac H
 refine dx 2 rfl dd (gu [0] [0,1,2,3,4] (pD.ok E) fun c d=>?_)
 refine T' 6 rfl sH aE ?_
 obtain⟨b,F,H⟩:=ac H
 refine dx 5 rfl dd (gu [3] [0,1,2,3,4,5] (pD.ok F) fun j m=>?_)
 refine aW dd sH (ey 7 rfl (cH 4 [ae a.f0,ae a.f1,.slice c a.f2.length d] (h:=(bW 8 rfl aE (h:=ey 9 rfl (cH 4 [ae b.f0,ae b.f1,.slice j b.f2.length m] (h:=(aH (by kernel_rfl) (aa (ao ?_))))))))))
 refine fk [0,1,3,4,6] [0,1,2,3,4,0,1,2,3] [0,1,2,3,5,6,0,1,2,3,11] fun _ _ _ _ _ sH dd pk=>?_
 refine bf 0 rfl sH aE (h:=bT 1 rfl sH (aT 4) (h:=bf 3 rfl sH aE (h:=r' 4 rfl sH (aT 4) ?_)))
 obtain⟨u,I,H⟩:=ac H
 refine dx 2 rfl dd (gu [1] [0,1,2,3,4,5,6,7,8,9,10] (sJ.ok (A0:=az) (c0:=ay) I) fun o p=>?_)
 refine T' 6 rfl sH aE ?_
 obtain⟨y,J,H⟩:=ac H
 refine dx 5 rfl dd (gu [4] [0,1,2,3,4,5,6,7,8,9,10,11] (sT.ok (A0:=av) (c0:=au) J) fun q s=>?_)
 refine aW dd sH (ey 7 rfl (cH 4 [.slice o u.length p] (h:=(bW 8 rfl aE (h:=ey 9 rfl (cH 4 [.slice q y.length s] (h:=(aH (by kernel_rfl) (aa (SA.of_St (l:=[(1,aK z),(2,aK D)]) (B:=[aL z 34 (al ({ a0 with f0:=a,f7:=u,f16:=b,f17:=y }) c d o p j m q s),Buf bE 55 c d a.f2,fm 3 o p u,Buf bE 55 j m b.f2,jf 21 q s y,aL D 34 (al cx none 0 none 0 none 0 none 0)]) (St.mk1 (cJ rfl (cJ rfl dQ)) (Gh.sel [4,16,10,15,9,21] (by kernel_rfl) (by kernel_rfl))) fun junk=>aQ (bD (ck 0) (h:=o' (uX D 0 5 (al ({ a0 with f0:=a,f7:=u,f16:=b,f17:=y }) c d o p j m q s) ?_)))))))))))))
 refine cF ?_
 have h:=aN H;subst h
 exact gH (rs:=[.cell 2 34]) (vs:=[.agg (al ({ a0 with f0:=a,f7:=u,f16:=b,f17:=y }) c d o p j m q s).toArray]) [Buf bE 55 c d a.f2,fm 3 o p u,Buf bE 55 j m b.f2,jf 21 q s y] rfl ⟨RV.cell (k:=5) rfl rfl Tryz.underlying34 rfl sD,trivial⟩ rfl (eY [1,2,3,4]) ⟨c,d,o,p,j,m,q,s,rfl,rfl⟩


def dJ.f (p0 : aG) (a1 : Int) : Option ((Int × Int)):=lt (i64.wrap (a1 * p0.f0.f0)) fun n6=>if 0 ≤ n6∧n6 ≤ (i64.wrap (n6 + p0.f0.f0))∧(i64.wrap (n6 + p0.f0.f0)) ≤ (p0.f0.f2.length : Int)∧(i64.wrap (n6 + p0.f0.f0)) ≤ (i64.wrap (n6 + p0.f0.f0))∧(i64.wrap (n6 + p0.f0.f0)) ≤ (p0.f0.f2.length : Int) then (some (((0 + n6 : Int),((i64.wrap (n6 + p0.f0.f0)) - n6 : Int)))) else none
theorem dJ.ok {p0 : aG} {a1 : Int} {r : (Int × Int)} (H : dJ.f p0 a1 = some r) : df Tryz.prog 135 #[.pointer (some ⟨ba,0,none⟩),ae a1] (cK ba p0 ag af az ay aw ar av au) (fun v B=>∃ (V0_ : Option Addr) (v0_ : Nat) (_ : dZ ag V0_ 15 r.1 r.2 v0_),v = .slice V0_ r.2.toNat v0_∧B = (cK ba p0 ag af az ay aw ar av au)):=by
 refine ai Tryz.func135 rfl rfl ?_
 unfold dJ.f at H
 refine aQ (ad aV (h:=cV (ad ax (h:=ad ax (h:=ad cz (h:=ad aE (h:=bD (aT 0) (h:=S' (jq rfl rfl) ?_))))))))
 obtain⟨n6,y,H⟩:=br H
 refine bO (ae n6) (bz (v:=ae n6) (congrArg (Value.int .i64) y.symm)) (h:=bC (ao (bj 1 fun D=>bj 2 fun E=>bj 3 fun F=>bj 4 fun z=>?_)))
 refine fk (dG 0 19) [0] (dG 1 4) fun _ _ _ _ _ sH dd pk=>?_
 refine bf 0 rfl sH ax (h:=bf 1 rfl sH cz (h:=bf 2 rfl sH aE (h:=bT 3 rfl sH (aT 0) (h:=bf 4 rfl sH ax (h:=bf 5 rfl sH ax (h:=bf 6 rfl sH ax (h:=bf 7 rfl sH cz (h:=bf 8 rfl sH aE (h:=r' 9 rfl sH (aT 0) ?_)))))))))
 refine bf 10 rfl sH (bV rfl rfl) (h:=bf 11 rfl sH ax (h:=bf 12 rfl sH ax (h:=bf 13 rfl sH cz (h:=bf 14 rfl sH aE (h:=bT 15 rfl sH (aT 0) (h:=T' 16 rfl sH (bV rfl rfl) ?_))))))
 obtain⟨⟨d,j,o,p,s⟩,H⟩:=aR H
 refine t' (.slice (cL ag n6 (i64.wrap (n6 + p0.f0.f0)) 15) ((i64.wrap (n6 + p0.f0.f0)) - n6).toNat ((i64.wrap (n6 + p0.f0.f0)).toNat - n6.toNat)) 17 rfl sH (dh (l:=0) (m:=(p0.f0.f2.length : Int)) (a:=n6) (b:=i64.wrap (n6 + p0.f0.f0)) (q:=i64.wrap (n6 + p0.f0.f0)) (dZ.whole (A:=ag) (sz:=15) (xs:=p0.f0.f2) (c:=af) (by omega)) Tryz.underlying24 cl rfl rfl rfl rfl (.inr ⟨_,rfl⟩) (.inr ⟨_,rfl⟩) (.inr ⟨⟨_,rfl⟩,⟨_,rfl⟩,p,s⟩) d j o) ?_
 have u : dZ ag (cL ag n6 (i64.wrap (n6 + p0.f0.f0)) 15) 15 (0 + n6) ((i64.wrap (n6 + p0.f0.f0)) - n6) ((i64.wrap (n6 + p0.f0.f0)).toNat - n6.toNat):=dZ.sub (dZ.whole (A:=ag) (sz:=15) (xs:=p0.f0.f2) (c:=af) (by omega)) d j o (.inr p) (Int.le_trans s ((dZ.whole (A:=ag) (sz:=15) (xs:=p0.f0.f2) (c:=af) (by omega))).cap)
 refine kY (.slice (cL ag n6 (i64.wrap (n6 + p0.f0.f0)) 15) ((i64.wrap (n6 + p0.f0.f0)) - n6).toNat ((i64.wrap (n6 + p0.f0.f0)).toNat - n6.toNat)) 18 rfl sH sf (h:=aW dd sH (aH (by kernel_rfl) (aa (fa ?_))))
 have h:=aN H;subst h
 exact er [0,1,2,3,4] ⟨cL ag n6 (i64.wrap (n6 + p0.f0.f0)) 15,(i64.wrap (n6 + p0.f0.f0)).toNat - n6.toNat,u,rfl,rfl⟩


def dP.f (p0 : aG) : Option ((Int × Int)):=(dJ.f p0 p0.f1).bind (fun a=>if (0 ≤ a.1∧0 ≤ a.2∧a.1 + a.2 ≤ (p0.f0.f2.length : Int)) then (some (((a.1 : Int),(a.2 : Int)))) else none)
theorem dP.ok {p0 : aG} {r : (Int × Int)} (H : dP.f p0 = some r) : df Tryz.prog 121 #[.agg #[.pointer (some ⟨ba,0,none⟩)]] (cK ba p0 ag af az ay aw ar av au) (fun v B=>∃ (V0_ : Option Addr) (v0_ : Nat) (_ : dZ ag V0_ 15 r.1 r.2 v0_),v = .slice V0_ r.2.toNat v0_∧B = (cK ba p0 ag af az ay aw ar av au)):=by
 refine ai Tryz.func121 rfl rfl ?_
 unfold dP.f at H
 refine aQ (o' (bN (h:=fun q=>ad aV (h:=bC (ao (bj 1 fun o=>bj 2 fun p=>bj 3 fun j=>bj 4 fun l=>?_))))))
 refine fk (dG 0 9) [0,5] (dG 1 4) fun _ _ _ _ _ sH dd pk=>?_
 refine bf 0 rfl sH aE (h:=bT 1 rfl sH (aT 1) (h:=bf 2 rfl sH cz (h:=bf 3 rfl sH aE (h:=bf 4 rfl sH aE (h:=bT 5 rfl sH (aT 1) (h:=bf 6 rfl sH cz (h:=bf 7 rfl sH aE (h:=bT 8 rfl sH (aT 0) (h:=aW dd sH ?_)))))))))
 obtain⟨m,b,H⟩:=ac H
 obtain⟨⟨hl556a,hl556b,hl556c⟩,H⟩:=aR H
 refine ey 9 rfl (mC [0,2,3,4,5] [1] (dJ.ok (ba:=ba) b) ?_)
 rintro _ _⟨c,d,a,rfl,rfl⟩
 refine bW 10 rfl aV (h:=aH (by kernel_rfl) (aa (fa ?_)))
 have h:=aN H;subst h
 exact er [0,1,2,3,4] ⟨c,d,a,rfl,rfl⟩


def mm.l0 (a0 : aZ) (a1 : Int) : Nat → aZ → Int → Option (aZ)
  | 0,_,_=>none
  | k + 1,b,a=>if a < 3 then (if 0 ≤ a∧a < (3 : Int) then (lt (rd ([a0.f1.f0,a0.f1.f1,a0.f1.f2] : List Int) a) fun n21=>if n21 = 0 then (if 0 ≤ a∧a < (3 : Int) then (some (aZ.mk b.f0 (fR.mk (if a = 0 then a1 else b.f1.f0) (if a = 1 then a1 else b.f1.f1) (if a = 2 then a1 else b.f1.f2)) b.f2 b.f3)) else none) else (mm.l0 a0 a1 k b (i64.wrap (a + 1)))) else none) else (some b)
def mm.f (k : Nat) (a0 : aZ) (a1 : Int) : Option (aZ):=(lZ.f k a1).bind (fun b=>lt ((decide (b ≠ 0)) || (decide (a0.f2 = 0))) fun c=>lt (c || (decide (a0.f2 > 2))) fun d=>if d = true then (some (a0)) else ((mm.l0 a0 a1 k a0 0 : Option (aZ)).bind (fun a=>some (a))))
theorem mm.ok {a0 : aZ} {a1 : Int} {r : aZ} (H : mm.f k a0 a1 = some r) : fK Tryz.prog 151 #[.agg (bR a0).toArray,aJ a1] [] (.agg (bR r).toArray):=by
 refine ai Tryz.func151 rfl rfl ?_
 unfold mm.f at H
 refine aQ (o' (bN (h:=fun s=>o' (cy (h:=fun l=>eJ (S' ax ?_))))))
 obtain⟨r5,O,H⟩:=ac H
 refine o' (da [] [0,1] (lZ.ok O) ?_)
 refine ad (dK rfl rfl) (h:=S' ax ?_)
 obtain⟨R,L,H⟩:=br H
 refine eg 4 [(1,aJ a1),(2,aK s),(4,aK l),(14,.bool R)] [aL s 55 (bR a0),aL l 55 (bR lP)] ?_ fun junk=>?_
 ·by_cases p : r5 ≠ 0
  ·refine cI 3 (ak p) (cq (ak p) (h:=aj ?_))
   have x_:=jL L ((ak p));exact bM [0,1]
  refine bn (am p) aE (h:=dc (am p) (aT 0) (h:=bn (am p) (bk rfl rfl) (h:=cv (am p) (h:=aj ?_))))
  have x_:=jN L ((am p));exact bM [0,1]
 refine S' ax ?_
 obtain⟨q9,M,H⟩:=br H
 refine cD 4 (St [(1,aJ a1),(2,aK s),(4,aK l),(19,.bool q9)] [aL s 55 (bR a0),aL l 55 (bR lP)]) ?_ ?_
 ·by_cases j : R = true
  ·refine cI 3 j (cq j (h:=aj ?_))
   have x_:=jL M j;exact bM [0,1]
  refine bn (aX j) aE (h:=dc (aX j) (aT 0) (h:=bn (aX j) (eR rfl rfl) (h:=cv (aX j) (h:=aj ?_))))
  have x_:=jN M ((aX j));exact bM [0,1]
 rintro e ds As I
 refine bC (SA.of_St I fun junk=>?_)
 rcases bH H with⟨u,H⟩|⟨u,H⟩
 ·refine aC rfl u (aQ (bD (ck 0) (h:=o' (bg l 0 1 (bR a0) (h:=cE ?_)))))
  have h:=aN H;subst h
  exact gH (rs:=[.cell 4 55]) (vs:=[.agg (bR a0).toArray]) [] rfl ⟨RV.cell (k:=1) rfl rfl Tryz.underlying55 rfl cl,trivial⟩ rfl (eY []) ⟨rfl,rfl⟩
 refine aD rfl u (ap (aa (ao (aQ (ad aE (h:=bD (cG s 1 0 [aJ a0.f1.f0,aJ a0.f1.f1,aJ a0.f1.f2]) (h:=ad ax (h:=bC ?_))))))))
 obtain⟨q,H,y⟩:=ac H
 refine bI (fun e ds As=>∃ (z : Nat),St [(2,aK z),(4,aK l)] [aL z 55 (bR q),aL l 55 (bR lP)] e ds As) ?_ ?_
 ·refine aU (cw (fun k_ e ds As=>∃ (c : aZ) (a : Int),∃ (d : Nat),mm.l0 a0 a1 k_ c a = some q∧St [(1,aJ a1),(2,aK d),(4,aK l),(22,.agg #[aJ a0.f1.f0,aJ a0.f1.f1,aJ a0.f1.f2]),(23,ae a)] [aL d 55 (bR c),aL l 55 (bR lP)] e ds As) (k:=k) ⟨_,_,s,H,kW [0,1]⟩ ?_)
  clear H
  rintro D e ds As ⟨c,a,d,H,J⟩
  obtain _ | D:=D
  ·cases H
  rw [mm.l0] at H
  refine SA.of_St J fun junk=>aQ (ad (cn rfl rfl) (h:=bC (ao ?_)))
  rcases bH H with⟨E,H⟩|⟨E,H⟩
  ·refine aB rfl E (ap (aa (ao (aU (aQ (S' ax ?_))))))
   obtain⟨⟨S,U⟩,H⟩:=aR H
   refine s' (aJ (rd ([a0.f1.f0,a0.f1.f1,a0.f1.f2] : List Int) a)) (pe (kd:=(Kd.int .i32)) (i:=a) (cs:=[aJ a0.f1.f0,aJ a0.f1.f1,aJ a0.f1.f2]) (xs:=([a0.f1.f0,a0.f1.f1,a0.f1.f2] : List Int)) (v:=aJ (rd ([a0.f1.f0,a0.f1.f1,a0.f1.f2] : List Int) a)) Tryz.underlying53 kP Tryz.underlying21 rfl rfl rfl (dL (fun x_ : Int=>[Value.int .i32 x_]) (fun _ _=>rfl) (by kernel_rfl) _) rfl rfl S U (fun _ h_=>by rw [h_]; rfl)) ?_
   refine S' aV ?_
   obtain⟨n21,N,H⟩:=br H
   refine bO (aJ n21) (bz (v:=aJ n21) (congrArg (Value.int .i32) N.symm)) (h:=cV (ad ax (h:=ad (bk rfl rfl) (h:=bC ?_))))
   rcases bH H with⟨F,H⟩|⟨F,H⟩
   ·refine aB rfl F (aQ (ad ax (h:=ad ax (h:=S' aE ?_))))
    obtain⟨⟨Y,Z⟩,H⟩:=aR H
    refine s' (.pointer (some ((⟨d,0,none⟩ : Addr).add (1 + a.toNat * 1 + 0)))) (dM (B:=⟨d,0,none⟩) (m:=1) (o:=1 + a.toNat * 1 + 0) Tryz.underlying53 kP rfl rfl Y Z rfl) ?_
    refine o' (oW (b:=d) (m:=1 + a.toNat * 1 + 0) (k:=0) (vs:=[aJ a1]) (cs':=(bR (aZ.mk c.f0 (fR.mk (if a = 0 then a1 else c.f1.f0) (if a = 1 then a1 else c.f1.f1) (if a = 2 then a1 else c.f1.f2)) c.f2 c.f3))) rfl rfl rfl rfl rfl rfl kP (by show 1 + a.toNat * 1 + 0 + 1 ≤ 15; omega) (by rcases (show a = 0 ∨ a = 1 ∨ a = 2 by omega) with h_ | h_ | h_ <;> (rewrite [h_]; kernel_rfl)) ?_)
    refine bC (ct (tB rfl (bc (bc (cr ?_)))))
    have h:=aN H;subst h
    exact aa ⟨d,ed [0,1]⟩
   refine aA rfl F (ap (aF (aa (ah (ad (bV rfl rfl) (h:=ad ax (h:=aj ?_)))))))
   exact aa ⟨D,Nat.lt_succ_self _,_,_,d,H,ed [0,1]⟩
  refine aA rfl E (ct (bc (bc (cr ?_))))
  have h:=aN H;subst h
  exact aa ⟨d,ed [0,1]⟩
 rintro e ds As ⟨z,K⟩
 clear H
 have H:=y
 clear y
 refine aa (SA.of_St K fun junk=>aQ (bD (ck 0) (h:=o' (bg l 0 1 (bR q) (h:=cF ?_)))))
 have h:=aN H;subst h
 exact gH (rs:=[.cell 4 55]) (vs:=[.agg (bR q).toArray]) [] rfl ⟨RV.cell (k:=1) rfl rfl Tryz.underlying55 rfl cl,trivial⟩ rfl (eY []) ⟨rfl,rfl⟩

end Go.Proofs.YtckilbegmbaeeaaGreat.Z3

/- Walks. -/
import Derived.Test.YtckilbegmbaeeaaGreatZ71
namespace Go.Proofs.YtckilbegmbaeeaaGreat.Z7
open Go Go.RowKit Go.Proofs.YtckilbegmbaeeaaGreat.SL
open Go.IntKind (i64)
set_option linter.unusedVariables false
set_option maxHeartbeats 20000000
set_option maxRecDepth 100000
set_option linter.unusedSimpArgs false
attribute [local irreducible] IntKind.wrap dm fE iD md lW rn lM fG ma rd sub bytesOf jD dv
variable {bg vf ag az av ax k : Nat}
variable {af ay au aw : Option Addr}
def fM.l0 (a0 : bJ) : Nat → ba → Int → Option (Out (Bool) (ba))
  | 0,_,_=>none
  | k + 1,b,a=>if a < (a0.f2.length : Int) then (if 0 ≤ a∧a < (a0.f2.length : Int) then (if a0.f0 ≠ 0 then (lt ((decide ((a.tmod a0.f0) = 0)) && (decide (b.f2 = 2))) fun d=>if d = true then (some (Out.ret (false))) else (lt ((decide (((rd a0.f2 a).f2) = 0)) && (decide (((rd a0.f2 a).f3) = b.f3))) fun h=>(if h = true then (if a0.f0 ≠ 0 then (some (decide ((a.tmod a0.f0) > 0))) else none) else (some false) : Option Bool).bind (fun c=>(kV.f k (ba.mk ((rd a0.f2 a).f0) ((rd a0.f2 a).f1) ((rd a0.f2 a).f2) ((rd a0.f2 a).f3))).bind (fun m=>lt ((!m) || (decide ((decide (b.f2 = 2)) ≠ c))) fun j=>(if j = true then (some true) else (if ((rd a0.f2 a).f2) = 0 then (some (!c)) else (some false)) : Option Bool).bind (fun l=>if l = true then (some (Out.ret (false))) else (fM.l0 a0 k (ba.mk ((rd a0.f2 a).f0) ((rd a0.f2 a).f1) ((rd a0.f2 a).f2) ((rd a0.f2 a).f3)) (i64.wrap (a + 1)))))))) else none) else none) else (some (Out.go b))
def fM.f (k : Nat) (a0 : bJ) : Option (Bool):=(qH.f a0.f0 a0.f1).bind (fun d=>lt ((!d) || (decide ((a0.f2.length : Int) ≠ (i64.wrap (a0.f0 * a0.f1))))) fun c=>if c = true then (some (false)) else ((fM.l0 a0 k (ba.mk 0 (fX.mk 0 0 0) 1 (cN.mk 0 0 false false false false false false false false)) 0 : Option (Out (Bool) (ba))).bind (fun b=>Out.el b (fun r_=>some r_) (fun a=>some (decide (a.f2 ≠ 2))))))
theorem fM.ok {a0 : bJ} {r : Bool} (H : fM.f k a0 = some r) : fU Tryz.prog 57 #[.agg #[ae a0.f0,ae a0.f1,.slice af a0.f2.length ag]] [Buf bI 55 af ag a0.f2] (.bool r):=by
 refine aj Tryz.func57 rfl rfl ?_
 unfold fM.f at H
 refine aP (o' (bO (h:=fun s=>ad aW (h:=eA (ad aA (h:=bq (aO 1) (h:=ad aA (h:=l' (aO 1) ?_))))))))
 obtain⟨r4,b0,H⟩:=ac H
 refine o' (da [] [0,1] (qH.ok b0) ?_)
 refine ad (bU rfl) (h:=S' ar ?_)
 obtain⟨q5,a5,H⟩:=bi H
 refine cI 10 (St [(1,aI s),(23,.bool q5)] [Buf bI 55 af ag a0.f2,aL s 26 [ae a0.f0,ae a0.f1,.slice af a0.f2.length ag]]) ?_ ?_
 ·by_cases z : (!r4) = true
  ·refine ct 9 z (bY z (h:=ah ?_))
   have x_:=ik a5 z;exact bH [0,1]
  refine aZ (aK z) aA (h:=cn (aK z) (aO 1) (h:=gS (aK z) (ae (a0.f2.length : Int)) (cP Tryz.underlying24 rfl) (h:=aZ (aK z) aA (h:=cn (aK z) (aO 1) (h:=aZ (aK z) aA (h:=cn (aK z) (aO 1) (h:=aZ (aK z) (jt rfl rfl) (h:=aZ (aK z) (dt rfl rfl) (h:=fZ (aK z) ?_)))))))))
  refine ah ?_
  have x_:=ij a5 ((aK z));exact bH [0,1]
 rintro e ds As a8
 refine bA (SA.of_St a8 fun junk=>?_)
 rcases bD H with⟨h8,H⟩|⟨h8,H⟩
 ·refine aD rfl h8 (aP (ad aW (h:=cA ?_)))
  have h:=aN H;subst h
  exact dJ [0] ⟨rfl,rfl⟩
 refine aE rfl h8 (ao (aa (aP (bT (.agg (bW (ba.mk 0 (fX.mk 0 0 0) 1 fV)).toArray) dS (h:=o' (cC (h:=fun b9=>o' (bj b9 0 2 (bW (ba.mk 0 (fX.mk 0 0 0) 1 fV)) (h:=eA (ad aA (h:=bq (aO 1) (h:=bT (ae (a0.f2.length : Int)) (cP Tryz.underlying24 rfl) (h:=S' ar ?_)))))))))))))
 refine bA ?_
 obtain⟨a6,H,B⟩:=ac H
 refine bK (fun e ds As=>∃ (U : ba),a6 = Out.go U∧∃ (I : Nat),St [(3,aI I)] [aL I 55 (bW U),Buf bI 55 af ag a0.f2] e ds As) ?_ ?_
 ·refine aT (cl (fun k_ e ds As=>∃ (b : ba) (a : Int),∃ (c : Nat),fM.l0 a0 k_ b a = some a6∧St [(1,aI s),(3,aI c),(26,.slice af a0.f2.length ag),(27,ae (a0.f2.length : Int)),(28,ae a)] [Buf bI 55 af ag a0.f2,aL s 26 [ae a0.f0,ae a0.f1,.slice af a0.f2.length ag],aL c 55 (bW b)] e ds As) (k:=k) ⟨_,_,b9,H,jQ [0,1,2]⟩ ?_)
  clear H
  rintro R e ds As ⟨b,a,c,H,Y⟩
  obtain _ | R:=R
  ·cases H
  rw [fM.l0] at H
  refine SA.of_St Y fun junk=>aP (ad (cg rfl rfl) (h:=bA (ap ?_)))
  rcases bD H with⟨J,H⟩|⟨J,H⟩
  ·refine aC rfl J (ao (aa (ap (aT (aP (S' ar ?_))))))
   obtain⟨⟨a3,a4⟩,H⟩:=aS H
   refine bq (br (i:=a) Tryz.underlying24 ck rfl rfl (Src.buf (k:=0) rfl) a3 a4) (h:=bq (cf (enc:=cZ) (i:=a) (j:=a.toNat * 15) (m:=0) (sz:=15) (vs:=(bW (ba.mk ((rd a0.f2 a).f0) ((rd a0.f2 a).f1) ((rd a0.f2 a).f2) ((rd a0.f2 a).f3)))) Tryz.underlying55 rfl ck rfl rfl rfl (Src.buf (k:=0) rfl) a3 a4 (fun _ _ h=>h) rfl) (h:=o' (cC (h:=fun d=>ad aW (h:=o' (bj d 0 3 (bW (ba.mk ((rd a0.f2 a).f0) ((rd a0.f2 a).f1) ((rd a0.f2 a).f2) ((rd a0.f2 a).f3))) (h:=eA (ad ar (h:=ad aA (h:=l' (aO 1) ?_))))))))))
   obtain⟨b1,H⟩:=aS H
   refine bT (ae (a.tmod a0.f0)) (nj rfl rfl b1) (h:=ad (bk rfl rfl) (h:=S' ar ?_))
   obtain⟨b4,M,H⟩:=bi H
   refine cI 4 (St [(1,aI s),(3,aI c),(4,ae a),(5,aI d),(26,.slice af a0.f2.length ag),(27,ae (a0.f2.length : Int)),(28,ae a),(42,.bool b4)] [Buf bI 55 af ag a0.f2,aL s 26 [ae a0.f0,ae a0.f1,.slice af a0.f2.length ag],aL c 55 (bW b),aL d 55 (bW (ba.mk ((rd a0.f2 a).f0) ((rd a0.f2 a).f1) ((rd a0.f2 a).f2) ((rd a0.f2 a).f3)))]) ?_ ?_
   ·by_cases D : (a.tmod a0.f0) = 0
    ·refine aZ (ai D) aA (h:=cn (ai D) (aO 2) (h:=aZ (ai D) (bk rfl rfl) (h:=bY (ai D) (h:=ah ?_))))
     have x_:=fq M ((ai D));exact bH [0,1,2,3]
    refine ct 3 (al D) (ca (al D) (h:=ah ?_))
    have x_:=fp M ((al D));exact bH [0,1,2,3]
   rintro e ds As Z
   refine bA (SA.of_St Z fun junk=>?_)
   rcases bD H with⟨K,H⟩|⟨K,H⟩
   ·refine aD rfl K (aP (ad aW (h:=cA (aY (aF (aF (aY (aF (aF ?_)))))))))
    have h:=aN H;subst h
    have hb_:=dz B
    have hr_:=Option.some.inj hb_
    clear hb_
    subst hr_
    exact dJ [0] ⟨rfl,rfl⟩
   refine aE rfl K (ao (aa (aP (ad aA (h:=bq (aO 3) (h:=ad (bk rfl rfl) (h:=S' ar ?_)))))))
   obtain⟨b5,N,H⟩:=bi H
   refine dy 6 [(1,aI s),(3,aI c),(4,ae a),(5,aI d),(26,.slice af a0.f2.length ag),(27,ae (a0.f2.length : Int)),(28,ae a),(52,.bool b5)] [Buf bI 55 af ag a0.f2,aL s 26 [ae a0.f0,ae a0.f1,.slice af a0.f2.length ag],aL c 55 (bW b),aL d 55 (bW (ba.mk ((rd a0.f2 a).f0) ((rd a0.f2 a).f1) ((rd a0.f2 a).f2) ((rd a0.f2 a).f3)))] ?_ fun junk=>?_
   ·by_cases o : ((rd a0.f2 a).f2) = 0
    ·refine aZ (ai o) aA (h:=cn (ai o) (cx d 5 3 (bF ((rd a0.f2 a).f3))) (h:=aZ (ai o) aA (h:=cn (ai o) (cx c 5 2 (bF b.f3)) (h:=gS (ai o) (.bool (decide (((rd a0.f2 a).f3) = b.f3))) (kC (xs:=(bF ((rd a0.f2 a).f3))) (ys:=(bF b.f3)) (r:=(((((rd a0.f2 a).f3).f0) == b.f3.f0) && (((((rd a0.f2 a).f3).f1) == b.f3.f1) && (((((rd a0.f2 a).f3).f2) == b.f3.f2) && (((((rd a0.f2 a).f3).f3) == b.f3.f3) && (((((rd a0.f2 a).f3).f4) == b.f3.f4) && (((((rd a0.f2 a).f3).f5) == b.f3.f5) && (((((rd a0.f2 a).f3).f6) == b.f3.f6) && (((((rd a0.f2 a).f3).f7) == b.f3.f7) && (((((rd a0.f2 a).f3).f8) == b.f3.f8) && (((((rd a0.f2 a).f3).f9) == b.f3.f9) && true))))))))))) (p:=((rd a0.f2 a).f3) = b.f3) lh rfl rfl (by kernel_rfl) (lj (x:=((rd a0.f2 a).f3)) (y:=b.f3))) (h:=bY (ai o) (h:=ah ?_))))))
     have x_:=fq N ((ai o));exact bH [0,1,2,3]
    refine ct 5 (al o) (ca (al o) (h:=ah ?_))
    have x_:=fp N ((al o));exact bH [0,1,2,3]
   refine S' ar ?_
   obtain⟨S,H,a7⟩:=ac H
   refine dy 6 [(1,aI s),(3,aI c),(5,aI d),(26,.slice af a0.f2.length ag),(27,ae (a0.f2.length : Int)),(28,ae a),(59,.bool S)] [Buf bI 55 af ag a0.f2,aL s 26 [ae a0.f0,ae a0.f1,.slice af a0.f2.length ag],aL c 55 (bW b),aL d 55 (bW (ba.mk ((rd a0.f2 a).f0) ((rd a0.f2 a).f1) ((rd a0.f2 a).f2) ((rd a0.f2 a).f3)))] ?_ fun junk=>?_
   ·rcases bD H with⟨u,H⟩|⟨u,H⟩
    ·refine aZ u ar (h:=aZ u aA (h:=z' u (aO 1) ?_))
     obtain⟨b3,H⟩:=aS H
     refine gS u (ae (a.tmod a0.f0)) (nj rfl rfl b3) (h:=aZ u (eN rfl rfl) (h:=gJ u ?_))
     have h:=aN H;subst h
     exact dQ [0,1,2,3]
    refine ct 5 (aK u) (fZ (aK u) ?_)
    have h:=aN H;subst h
    exact dQ [0,1,2,3]
   replace H:=a7
   refine ad aW (h:=eA (l' (cm 3) ?_))
   obtain⟨b8,a9,H⟩:=ac H
   refine o' (da [] [0,1,2,3] (kV.ok a9) ?_)
   refine ad (bU rfl) (h:=S' ar ?_)
   obtain⟨b6,O,H⟩:=bi H
   refine dy 6 [(1,aI s),(3,aI c),(5,aI d),(6,.bool S),(26,.slice af a0.f2.length ag),(27,ae (a0.f2.length : Int)),(28,ae a),(69,.bool b6)] [Buf bI 55 af ag a0.f2,aL s 26 [ae a0.f0,ae a0.f1,.slice af a0.f2.length ag],aL c 55 (bW b),aL d 55 (bW (ba.mk ((rd a0.f2 a).f0) ((rd a0.f2 a).f1) ((rd a0.f2 a).f2) ((rd a0.f2 a).f3)))] ?_ fun junk=>?_
   ·by_cases q : (!b8) = true
    ·refine ct 5 q (bY q (h:=ah ?_))
     have x_:=ik O q;exact bH [0,1,2,3]
    refine aZ (aK q) aA (h:=cn (aK q) (aO 2) (h:=aZ (aK q) (bk rfl rfl) (h:=aZ (aK q) ar (h:=gS (aK q) (.bool (decide ((decide (b.f2 = 2)) ≠ S))) (mR Tryz.underlying4 rfl rfl) (h:=ca (aK q) (h:=ah ?_))))))
    have x_:=ij O ((aK q));exact bH [0,1,2,3]
   refine S' ar ?_
   obtain⟨b7,H,F⟩:=ac H
   refine cI 8 (St [(1,aI s),(3,aI c),(5,aI d),(26,.slice af a0.f2.length ag),(27,ae (a0.f2.length : Int)),(28,ae a),(78,.bool b7)] [Buf bI 55 af ag a0.f2,aL s 26 [ae a0.f0,ae a0.f1,.slice af a0.f2.length ag],aL c 55 (bW b),aL d 55 (bW (ba.mk ((rd a0.f2 a).f0) ((rd a0.f2 a).f1) ((rd a0.f2 a).f2) ((rd a0.f2 a).f3)))]) ?_ ?_
   ·rcases bD H with⟨l,H⟩|⟨l,H⟩
    ·refine ct 4 l (fY (fY (ct 1 l (gJ l ?_))))
     have h:=aN H;subst h
     exact dQ [0,1,2,3]
    refine aZ (aK l) aA (h:=cn (aK l) (aO 3) (h:=aZ (aK l) (bk rfl rfl) (h:=Y' (aK l) ar ?_)))
    rcases bD H with⟨E,H⟩|⟨E,H⟩
    ·refine aZ (ai E) ar (h:=aZ (ai E) (bU rfl) (h:=fR (aK l) (dB rfl (bR rfl (ai E) rfl) (fZ (aK l) ?_))))
     have h:=aN H;subst h
     exact dQ [0,1,2,3]
    refine ct 2 (al E) (fR (aK l) (dB rfl (bL rfl (al E) rfl) (fZ (aK l) ?_)))
    have h:=aN H;subst h
    exact dQ [0,1,2,3]
   rintro e ds As a1
   clear H
   have H:=F
   clear F
   refine bA (SA.of_St a1 fun junk=>?_)
   rcases bD H with⟨L,H⟩|⟨L,H⟩
   ·refine aD rfl L (aP (ad aW (h:=cA (aY (aF (aF (aY (aF (aF ?_)))))))))
    have h:=aN H;subst h
    have hb_:=dz B
    have hr_:=Option.some.inj hb_
    clear hb_
    subst hr_
    exact dJ [0] ⟨rfl,rfl⟩
   refine aE rfl L (ao (aa (ak (bq (cm 3) (h:=o' (bj c 0 2 (bW (ba.mk ((rd a0.f2 a).f0) ((rd a0.f2 a).f1) ((rd a0.f2 a).f2) ((rd a0.f2 a).f3))) (h:=ah (aG (aa (ak (ad (bX rfl rfl) (h:=ad ar (h:=ah ?_)))))))))))))
   exact aa ⟨R,Nat.lt_succ_self _,_,_,c,H,eb [0,1,2]⟩
  refine aB rfl J (ci (aX (aX (cj ?_))))
  have h:=aN H;subst h
  exact aa ⟨b,rfl,c,eb [2,0]⟩
 rintro e ds As ⟨U,ht,I,a2⟩
 clear H
 subst ht
 replace B:=fi B
 have H:=B
 clear B
 refine aa (SA.of_St a2 fun junk=>aP (ad aA (h:=bq (aO 0) (h:=ad (dt rfl rfl) (h:=ad aW (h:=cD ?_))))))
 have h:=aN H;subst h
 exact dJ [1] ⟨rfl,rfl⟩


def gj.l0 (l0 : (List ba)) (l1 : (List ba)) : Nat → Int → Option (Out (Bool) (Unit))
  | 0,_=>none
  | k + 1,a=>if a < (l0.length : Int) then (if 0 ≤ a∧a < (l0.length : Int) then (if 0 ≤ a∧a < (l1.length : Int) then (if (rd l0 a) ≠ (rd l1 a) then (some (Out.ret (false))) else (gj.l0 l0 l1 k (i64.wrap (a + 1)))) else none) else none) else (some (Out.go ()))
def gj.f (k : Nat) (l0 : (List ba)) (l1 : (List ba)) : Option (Bool):=if (l0.length : Int) ≠ (l1.length : Int) then (some (false)) else ((gj.l0 l0 l1 k 0 : Option (Out (Bool) (Unit))).bind (fun a=>Out.el a (fun r_=>some r_) (fun b=>some (true))))

def mm.f (k : Nat) (a0 : bJ) (a1 : bJ) : Option (Bool):=lt ((decide (a0.f0 = a1.f0)) && (decide (a0.f1 = a1.f1))) fun c=>(if c = true then ((gj.f k a0.f2 a1.f2).bind (fun b=>some b)) else (some false) : Option Bool).bind (fun a=>some (a))

def ja.l0 (l0 : (List Int)) (g1 : Int → Option (Bool)) : Nat → Int → Option (Out (Int) (Unit))
  | 0,_=>none
  | k + 1,a=>if a < (l0.length : Int) then (if 0 ≤ a∧a < (l0.length : Int) then ((g1 (rd l0 a)).bind (fun b=>if b = true then (some (Out.ret (a))) else (ja.l0 l0 g1 k (i64.wrap (a + 1))))) else none) else (some (Out.go ()))
def ja.f (k : Nat) (l0 : (List Int)) (g1 : Int → Option (Bool)) : Option (Int):=(ja.l0 l0 g1 k 0 : Option (Out (Int) (Unit))).bind (fun a=>Out.el a (fun r_=>some r_) (fun b=>some ((-1))))

def qc.f (k : Nat) (l0 : (List Int)) (g1 : Int → Option (Bool)) : Option (Bool):=(ja.f k l0 g1).bind (fun a=>some (decide (a ≥ 0)))

def uP.f (a0 : Int) : Option (Bool):=some (decide (a0 < 0))
theorem uP.ok {a0 : Int} {r : Bool} (H : uP.f a0 = some r) : fU Tryz.prog 61 #[aM a0] [] (.bool r):=by
 refine aj Tryz.func61 rfl rfl ?_
 unfold uP.f at H
 refine aP (ad aW (h:=cR (ad ar (h:=ad (cg rfl rfl) (h:=ad aW (h:=cD ?_))))))
 have h:=aN H;subst h
 exact dJ [] ⟨rfl,rfl⟩


def eu.l1 (a0 : aJ) : Nat → Int → Int → Option (Out (Bool) (Unit))
  | 0,_,_=>none
  | k + 1,b,a=>if a < (a0.f7.length : Int) then (if 0 ≤ a∧a < (a0.f7.length : Int) then (lt (rd a0.f7 a) fun n65=>lt ((decide (n65 ≤ b)) || (decide (n65 ≥ a0.f0.f0))) fun c=>if c = true then (some (Out.ret (false))) else (eu.l1 a0 k n65 (i64.wrap (a + 1)))) else none) else (some (Out.go ()))
def eu.l0 (a0 : aJ) : Nat → Int → Option (Out (Bool) (Unit))
  | 0,_=>none
  | k + 1,a=>if a < 2 then (if 0 ≤ a∧a < (2 : Int) then (lt ((decide (((rd ([(dH.mk a0.f1 a0.f2 a0.f3 false (cN.mk 0 0 false false false false false false false false)),a0.f14] : List dH) a).f0) < 0)) || (decide (((rd ([(dH.mk a0.f1 a0.f2 a0.f3 false (cN.mk 0 0 false false false false false false false false)),a0.f14] : List dH) a).f0) ≥ a0.f0.f1))) fun b=>lt (b || (decide (((rd ([(dH.mk a0.f1 a0.f2 a0.f3 false (cN.mk 0 0 false false false false false false false false)),a0.f14] : List dH) a).f1) < 0))) fun c=>lt (c || (decide (((rd ([(dH.mk a0.f1 a0.f2 a0.f3 false (cN.mk 0 0 false false false false false false false false)),a0.f14] : List dH) a).f1) ≥ a0.f0.f0))) fun d=>(if d = true then (some true) else (if ((rd ([(dH.mk a0.f1 a0.f2 a0.f3 false (cN.mk 0 0 false false false false false false false false)),a0.f14] : List dH) a).f2) = true then (some (decide (((rd ([(dH.mk a0.f1 a0.f2 a0.f3 false (cN.mk 0 0 false false false false false false false false)),a0.f14] : List dH) a).f1) ≠ (i64.wrap (a0.f0.f0 - 1))))) else (some false)) : Option Bool).bind (fun h=>if h = true then (some (Out.ret (false))) else (eu.l0 a0 k (i64.wrap (a + 1))))) else none) else (some (Out.go ()))
def eu.f (k : Nat) (a0 : aJ) : Option (Bool):=(fM.f k a0.f0).bind (fun o=>(if (!o) = true then (some true) else ((qb.f a0.f4).bind (fun p=>some (!p))) : Option Bool).bind (fun a=>(if a = true then (some true) else ((qb.f a0.f14.f4).bind (fun gf=>some (!gf))) : Option Bool).bind (fun b=>lt (b || (decide (a0.f5 < 0))) fun c=>lt (c || (decide (a0.f5 > a0.f6))) fun d=>lt (d || (decide (a0.f6 ≥ a0.f0.f1))) fun h=>if h = true then (some (false)) else ((eu.l0 a0 k 0 : Option (Out (Bool) (Unit))).bind (fun u=>Out.el u (fun r_=>some r_) (fun B=>(eu.l1 a0 k (-1) 0 : Option (Out (Bool) (Unit))).bind (fun y=>Out.el y (fun r_=>some r_) (fun D=>(if a0.f15 = true then ((fM.f k a0.f16).bind (fun q=>if (!q) = true then (some true) else (if a0.f16.f0 ≠ a0.f0.f0 then (some true) else (some (decide (a0.f16.f1 ≠ a0.f0.f1)))))) else (some false) : Option Bool).bind (fun j=>(if j = true then (some true) else (if (!a0.f15) = true then ((mm.f k a0.f16 (bJ.mk 0 0 ([] : (List ba)))).bind (fun r=>some (!r))) else (some false)) : Option Bool).bind (fun l=>if l = true then (some (false)) else ((if (a0.f17.length : Int) ≤ 256 then ((qc.f k a0.f17 (fun (z : Int)=>uP.f z)).bind (fun s=>some (!s))) else (some false) : Option Bool).bind (fun m=>some (m)))))))))))))

def sv.f (l0 : (List ba)) : Option ((List ba)):=if ([] : (List ba)).length + l0.length ≤ 2932031007402 then lt (([] : (List ba)) ++ l0) fun n9=>(some (n9)) else none
theorem sv.ok {l0 : (List ba)} {A0 : Option Addr} {c0 : Nat} {r : (List ba)} (H : sv.f l0 = some r) : dp Tryz.prog 158 #[.slice A0 l0.length c0] [Ro bI A0 c0 l0] (fun v B=>∃ aQ aR,v = .slice aQ r.length aR∧B = [Buf bI 55 aQ aR r]):=by
 refine aj Tryz.func158 rfl rfl ?_
 unfold sv.f at H
 refine aP (ad aW (h:=eA (ad ar (h:=bT (.bool A0.isNone) (nM Tryz.underlying24 rfl rfl) (h:=bA ?_)))))
 by_cases h2 : A0 = none
 ·subst h2
  refine nK (k:=0) rfl fun e_=>?_
  subst e_
  replace H:=rV (x:=some (([] : (List ba)))) H (by simp [lt])
  refine aD rfl rfl (aP (ad aW (h:=cA ?_)))
  have h:=aN H;subst h
  exact mi [Buf bI 55 none 0 ([] : (List ba))] rfl rfl ((Gh.nilBuf bI 55).trans (fk [1])) ⟨none,0,rfl,rfl⟩
 obtain⟨a_,rfl⟩:=Option.ne_none_iff_exists'.1 h2
 refine aE rfl (by first | decide | simp) (ao (aa (aP (o' (gD (kd:=bI) (zv:=(.agg (bW lu).toArray)) (sz:=15) (cells:=[]) (xs:=([] : (List ba))) rfl Tryz.underlying24 jF ck rfl rfl rfl (by kernel_rfl) rfl rfl (dR cZ (fun _ _=>rfl) (by kernel_rfl)) fun d=>S' ar ?_)))))
 obtain⟨l,H⟩:=aS H
 obtain⟨n9,a,H⟩:=bi H
 refine o' (gm (k:=1) (A:=some ⟨d,0,none⟩) (c:=0) (xs:=([] : (List ba))) (ys:=l0) n9 a rfl Tryz.underlying24 mD rfl rfl rfl rfl rfl (nk.slice Tryz.underlying24 (Src.ro (k:=0) rfl)) (by omega) (by omega) fun b j=>ad aW (h:=cD ?_))
 have h:=aN H;subst h
 exact dJ [1] ⟨b,j,rfl,rfl⟩


def oV.f (a0 : bJ) : Option (bJ):=(sv.f a0.f2).bind (fun a=>some ((bJ.mk a0.f0 a0.f1 a)))
theorem oV.ok {a0 : bJ} {r : bJ} (H : oV.f a0 = some r) : dp Tryz.prog 137 #[.agg #[ae a0.f0,ae a0.f1,.slice af a0.f2.length ag]] [Ro bI af ag a0.f2] (fun v B=>∃ aQ aR,v = .agg #[ae r.f0,ae r.f1,.slice aQ r.f2.length aR]∧B = [Buf bI 55 aQ aR r.f2]):=by
 refine aj Tryz.func137 rfl rfl ?_
 unfold oV.f at H
 refine aP (o' (bO (h:=fun j=>o' (cC (h:=fun l=>cR (ad aA (h:=l' (aO 1) ?_)))))))
 obtain⟨c,d,H⟩:=ac H
 refine o' (gy [0] [0,1,2] (sv.ok (A0:=af) (c0:=ag) d) fun a b=>?_)
 refine ad aA (h:=o' (cJ 2 [.slice a c.length b] (h:=(cR (bq (cx j 0 2 [ae a0.f0,ae a0.f1,.slice a c.length b]) (h:=o' (bj l 0 3 [ae a0.f0,ae a0.f1,.slice a c.length b] (h:=cD ?_))))))))
 have h:=aN H;subst h
 exact gi (rs:=[.cell 2 26]) (vs:=[.agg #[ae a0.f0,ae a0.f1,.slice a c.length b]]) [Buf bI 55 a b c] rfl ⟨RV.cell (k:=3) rfl rfl Tryz.underlying26 rfl uA,trivial⟩ rfl (fk [0]) ⟨a,b,rfl,rfl⟩


def st.f (l0 : (List Int)) : Option ((List Int)):=if ([] : (List Int)).length + l0.length ≤ 17592186044416 then lt (([] : (List Int)) ++ l0) fun n9=>(some (n9)) else none
theorem st.ok {l0 : (List Int)} {A0 : Option Addr} {c0 : Nat} {r : (List Int)} (H : st.f l0 = some r) : dp Tryz.prog 138 #[.slice A0 l0.length c0] [wm A0 c0 l0] (fun v B=>∃ aQ aR,v = .slice aQ r.length aR∧B = [gL 3 aQ aR r]):=by
 refine aj Tryz.func138 rfl rfl ?_
 unfold st.f at H
 refine aP (ad aW (h:=eA (ad ar (h:=bT (.bool A0.isNone) (nM Tryz.underlying29 rfl rfl) (h:=bA ?_)))))
 by_cases h2 : A0 = none
 ·subst h2
  refine nK (k:=0) rfl fun e_=>?_
  subst e_
  replace H:=rV (x:=some (([] : (List Int)))) H (by simp [lt])
  refine aD rfl rfl (aP (ad aW (h:=cA ?_)))
  have h:=aN H;subst h
  exact mi [gL 3 none 0 ([] : (List Int))] rfl rfl ((Gh.nilBuf (Kd.int .i64) 3).trans (fk [1])) ⟨none,0,rfl,rfl⟩
 obtain⟨a_,rfl⟩:=Option.ne_none_iff_exists'.1 h2
 refine aE rfl (by first | decide | simp) (ao (aa (aP (o' (gD (kd:=(Kd.int .i64)) (zv:=(ae 0)) (sz:=1) (cells:=[]) (xs:=([] : (List Int))) rfl Tryz.underlying29 nu jm rfl rfl rfl (by kernel_rfl) rfl rfl (dR (fun x_ : Int=>[Value.int .i64 x_]) (fun _ _=>rfl) (by kernel_rfl)) fun d=>S' ar ?_)))))
 obtain⟨l,H⟩:=aS H
 obtain⟨n9,a,H⟩:=bi H
 refine o' (gm (k:=1) (A:=some ⟨d,0,none⟩) (c:=0) (xs:=([] : (List Int))) (ys:=l0) n9 a rfl Tryz.underlying29 pg rfl rfl rfl rfl rfl (nk.slice Tryz.underlying29 (Src.ro (k:=0) rfl)) (by omega) (by omega) fun b j=>ad aW (h:=cD ?_))
 have h:=aN H;subst h
 exact dJ [1] ⟨b,j,rfl,rfl⟩


def su.f (l0 : (List Int)) : Option ((List Int)):=if ([] : (List Int)).length + l0.length ≤ 35184372088832 then lt (([] : (List Int)) ++ l0) fun n9=>(some (n9)) else none
theorem su.ok {l0 : (List Int)} {A0 : Option Addr} {c0 : Nat} {r : (List Int)} (H : su.f l0 = some r) : dp Tryz.prog 139 #[.slice A0 l0.length c0] [sT A0 c0 l0] (fun v B=>∃ aQ aR,v = .slice aQ r.length aR∧B = [lZ 21 aQ aR r]):=by
 refine aj Tryz.func139 rfl rfl ?_
 unfold su.f at H
 refine aP (ad aW (h:=eA (ad ar (h:=bT (.bool A0.isNone) (nM Tryz.underlying32 rfl rfl) (h:=bA ?_)))))
 by_cases h2 : A0 = none
 ·subst h2
  refine nK (k:=0) rfl fun e_=>?_
  subst e_
  replace H:=rV (x:=some (([] : (List Int)))) H (by simp [lt])
  refine aD rfl rfl (aP (ad aW (h:=cA ?_)))
  have h:=aN H;subst h
  exact mi [lZ 21 none 0 ([] : (List Int))] rfl rfl ((Gh.nilBuf (Kd.int .i32) 21).trans (fk [1])) ⟨none,0,rfl,rfl⟩
 obtain⟨a_,rfl⟩:=Option.ne_none_iff_exists'.1 h2
 refine aE rfl (by first | decide | simp) (ao (aa (aP (o' (gD (kd:=(Kd.int .i32)) (zv:=(aM 0)) (sz:=1) (cells:=[]) (xs:=([] : (List Int))) rfl Tryz.underlying32 rL jg rfl rfl rfl (by kernel_rfl) rfl rfl (dR (fun x_ : Int=>[Value.int .i32 x_]) (fun _ _=>rfl) (by kernel_rfl)) fun d=>S' ar ?_)))))
 obtain⟨l,H⟩:=aS H
 obtain⟨n9,a,H⟩:=bi H
 refine o' (gm (k:=1) (A:=some ⟨d,0,none⟩) (c:=0) (xs:=([] : (List Int))) (ys:=l0) n9 a rfl Tryz.underlying32 tN rfl rfl rfl rfl rfl (nk.slice Tryz.underlying32 (Src.ro (k:=0) rfl)) (by omega) (by omega) fun b j=>ad aW (h:=cD ?_))
 have h:=aN H;subst h
 exact dJ [1] ⟨b,j,rfl,rfl⟩


def ly.f (a0 : aJ) : Option (aJ):=(oV.f a0.f0).bind (fun a=>(oV.f a0.f16).bind (fun b=>(st.f a0.f7).bind (fun c=>(su.f a0.f17).bind (fun d=>some (({ a0 with f0:=a,f7:=c,f16:=b,f17:=d }))))))
theorem ly.ok {a0 : aJ} {r : aJ} (H : ly.f a0 = some r) : dp Tryz.prog 97 #[.agg (am a0 af ag ay az au av aw ax).toArray] (co a0 af ag ay az au av aw ax) (fun v B=>∃ aQ aR bv bx bo bp bw bz,v = .agg (am r aQ aR bv bx bo bp bw bz).toArray∧B = (bn r aQ aR bv bx bo bp bw bz)):=by
 refine aj Tryz.func97 rfl rfl ?_
 unfold ly.f at H
 refine aP (o' (bO (h:=fun z=>o' (cC (h:=fun J=>bA (ap ?_))))))
 refine fg [0,1,3,4,6] (dC 0 5) [0,1,2,3,5] fun _ _ _ _ _ sH dd pk=>?_
 refine bf 0 rfl sH aA (h:=bN 1 rfl sH (cx z 0 4 [ae a0.f0.f0,ae a0.f0.f1,.slice af a0.f0.f2.length ag]) (h:=bf 3 rfl sH aA (h:=r' 4 rfl sH (cx z 40 4 [ae a0.f16.f0,ae a0.f16.f1,.slice au a0.f16.f2.length av]) ?_)))
 obtain⟨a,D,H⟩:=ac H
 refine dT 2 rfl dd (gy [0] [0,1,2,3,4] (oV.ok D) fun c o=>?_)
 refine T' 6 rfl sH aA ?_
 obtain⟨b,E,H⟩:=ac H
 refine dT 5 rfl dd (gy [3] [0,1,2,3,4,5] (oV.ok E) fun d p=>?_)
 refine aV dd sH (eG 7 rfl (cJ 4 [ae a.f0,ae a.f1,.slice c a.f2.length o] (h:=(cd 8 rfl aA (h:=eG 9 rfl (cJ 4 [ae b.f0,ae b.f1,.slice d b.f2.length p] (h:=(aH (by kernel_rfl) (aa (ap ?_))))))))))
 refine fg [0,1,3,4,6] [0,1,2,3,4,0,1,2,3] [0,1,2,3,5,6,0,1,2,3,11] fun _ _ _ _ _ sH dd pk=>?_
 refine bf 0 rfl sH aA (h:=bN 1 rfl sH (aO 4) (h:=bf 3 rfl sH aA (h:=r' 4 rfl sH (aO 4) ?_)))
 obtain⟨u,F,H⟩:=ac H
 refine dT 2 rfl dd (gy [1] [0,1,2,3,4,5,6,7,8,9,10] (st.ok (A0:=ay) (c0:=az) F) fun j q=>?_)
 refine T' 6 rfl sH aA ?_
 obtain⟨y,I,H⟩:=ac H
 refine dT 5 rfl dd (gy [4] [0,1,2,3,4,5,6,7,8,9,10,11] (su.ok (A0:=aw) (c0:=ax) I) fun m s=>?_)
 refine aV dd sH (eG 7 rfl (cJ 4 [.slice j u.length q] (h:=(cd 8 rfl aA (h:=eG 9 rfl (cJ 4 [.slice m y.length s] (h:=(aH (by kernel_rfl) (aa (SA.of_St (l:=[(1,aI z),(2,aI J)]) (B:=[aL z 34 (am ({ a0 with f0:=a,f7:=u,f16:=b,f17:=y }) c o j q d p m s),Buf bI 55 c o a.f2,gL 3 j q u,Buf bI 55 d p b.f2,lZ 21 m s y,aL J 34 (am cB none 0 none 0 none 0 none 0)]) (St.mk1 (cO rfl (cO rfl dY)) (Gh.sel [4,16,10,15,9,21] (by kernel_rfl) (by kernel_rfl))) fun junk=>aP (bq (cm 0) (h:=o' (uF J 0 5 (am ({ a0 with f0:=a,f7:=u,f16:=b,f17:=y }) c o j q d p m s) ?_)))))))))))))
 refine cD ?_
 have h:=aN H;subst h
 exact gi (rs:=[.cell 2 34]) (vs:=[.agg (am ({ a0 with f0:=a,f7:=u,f16:=b,f17:=y }) c o j q d p m s).toArray]) [Buf bI 55 c o a.f2,gL 3 j q u,Buf bI 55 d p b.f2,lZ 21 m s y] rfl ⟨RV.cell (k:=5) rfl rfl Tryz.underlying34 rfl rH,trivial⟩ rfl (fk [1,2,3,4]) ⟨c,o,j,q,d,p,m,s,rfl,rfl⟩


def dZ.f (p0 : aJ) (a1 : Int) : Option ((Int × Int)):=lt (i64.wrap (a1 * p0.f0.f0)) fun n6=>if 0 ≤ n6∧n6 ≤ (i64.wrap (n6 + p0.f0.f0))∧(i64.wrap (n6 + p0.f0.f0)) ≤ (p0.f0.f2.length : Int)∧(i64.wrap (n6 + p0.f0.f0)) ≤ (i64.wrap (n6 + p0.f0.f0))∧(i64.wrap (n6 + p0.f0.f0)) ≤ (p0.f0.f2.length : Int) then (some (((0 + n6 : Int),((i64.wrap (n6 + p0.f0.f0)) - n6 : Int)))) else none
theorem dZ.ok {p0 : aJ} {a1 : Int} {r : (Int × Int)} (H : dZ.f p0 a1 = some r) : dp Tryz.prog 135 #[.pointer (some ⟨bg,0,none⟩),ae a1] (cQ bg p0 af ag ay az au av aw ax) (fun v B=>∃ (V0_ : Option Addr) (v0_ : Nat) (_ : ey af V0_ 15 r.1 r.2 v0_),v = .slice V0_ r.2.toNat v0_∧B = (cQ bg p0 af ag ay az au av aw ax)):=by
 refine aj Tryz.func135 rfl rfl ?_
 unfold dZ.f at H
 refine aP (ad aW (h:=cR (ad ar (h:=ad ar (h:=ad cL (h:=ad aA (h:=bq (aO 0) (h:=S' (jt rfl rfl) ?_))))))))
 obtain⟨n6,y,H⟩:=bi H
 refine bT (ae n6) (bu (v:=ae n6) (congrArg (Value.int .i64) y.symm)) (h:=bA (ap (bQ 1 fun D=>bQ 2 fun E=>bQ 3 fun F=>bQ 4 fun z=>?_)))
 refine fg (dC 0 19) [0] (dC 1 4) fun _ _ _ _ _ sH dd pk=>?_
 refine bf 0 rfl sH ar (h:=bf 1 rfl sH cL (h:=bf 2 rfl sH aA (h:=bN 3 rfl sH (aO 0) (h:=bf 4 rfl sH ar (h:=bf 5 rfl sH ar (h:=bf 6 rfl sH ar (h:=bf 7 rfl sH cL (h:=bf 8 rfl sH aA (h:=r' 9 rfl sH (aO 0) ?_)))))))))
 refine bf 10 rfl sH (bX rfl rfl) (h:=bf 11 rfl sH ar (h:=bf 12 rfl sH ar (h:=bf 13 rfl sH cL (h:=bf 14 rfl sH aA (h:=bN 15 rfl sH (aO 0) (h:=T' 16 rfl sH (bX rfl rfl) ?_))))))
 obtain⟨⟨d,j,o,p,s⟩,H⟩:=aS H
 refine t' (.slice (dv af n6 (i64.wrap (n6 + p0.f0.f0)) 15) ((i64.wrap (n6 + p0.f0.f0)) - n6).toNat ((i64.wrap (n6 + p0.f0.f0)).toNat - n6.toNat)) 17 rfl sH (dA (l:=0) (m:=(p0.f0.f2.length : Int)) (a:=n6) (b:=i64.wrap (n6 + p0.f0.f0)) (q:=i64.wrap (n6 + p0.f0.f0)) (ey.whole (A:=af) (sz:=15) (xs:=p0.f0.f2) (c:=ag) (by omega)) Tryz.underlying24 ck rfl rfl rfl rfl (.inr ⟨_,rfl⟩) (.inr ⟨_,rfl⟩) (.inr ⟨⟨_,rfl⟩,⟨_,rfl⟩,p,s⟩) d j o) ?_
 have u : ey af (dv af n6 (i64.wrap (n6 + p0.f0.f0)) 15) 15 (0 + n6) ((i64.wrap (n6 + p0.f0.f0)) - n6) ((i64.wrap (n6 + p0.f0.f0)).toNat - n6.toNat):=ey.sub (ey.whole (A:=af) (sz:=15) (xs:=p0.f0.f2) (c:=ag) (by omega)) d j o (.inr p) (Int.le_trans s ((ey.whole (A:=af) (sz:=15) (xs:=p0.f0.f2) (c:=ag) (by omega))).cap)
 refine kQ (.slice (dv af n6 (i64.wrap (n6 + p0.f0.f0)) 15) ((i64.wrap (n6 + p0.f0.f0)) - n6).toNat ((i64.wrap (n6 + p0.f0.f0)).toNat - n6.toNat)) 18 rfl sH rR (h:=aV dd sH (aH (by kernel_rfl) (aa (eM ?_))))
 have h:=aN H;subst h
 exact dJ [0,1,2,3,4] ⟨dv af n6 (i64.wrap (n6 + p0.f0.f0)) 15,(i64.wrap (n6 + p0.f0.f0)).toNat - n6.toNat,u,rfl,rfl⟩


def ed.f (p0 : aJ) : Option ((Int × Int)):=(dZ.f p0 p0.f1).bind (fun a=>if (0 ≤ a.1∧0 ≤ a.2∧a.1 + a.2 ≤ (p0.f0.f2.length : Int)) then (some (((a.1 : Int),(a.2 : Int)))) else none)
theorem ed.ok {p0 : aJ} {r : (Int × Int)} (H : ed.f p0 = some r) : dp Tryz.prog 121 #[.agg #[.pointer (some ⟨bg,0,none⟩)]] (cQ bg p0 af ag ay az au av aw ax) (fun v B=>∃ (V0_ : Option Addr) (v0_ : Nat) (_ : ey af V0_ 15 r.1 r.2 v0_),v = .slice V0_ r.2.toNat v0_∧B = (cQ bg p0 af ag ay az au av aw ax)):=by
 refine aj Tryz.func121 rfl rfl ?_
 unfold ed.f at H
 refine aP (o' (bO (h:=fun q=>ad aW (h:=bA (ap (bQ 1 fun o=>bQ 2 fun p=>bQ 3 fun j=>bQ 4 fun l=>?_))))))
 refine fg (dC 0 9) [0,5] (dC 1 4) fun _ _ _ _ _ sH dd pk=>?_
 refine bf 0 rfl sH aA (h:=bN 1 rfl sH (aO 1) (h:=bf 2 rfl sH cL (h:=bf 3 rfl sH aA (h:=bf 4 rfl sH aA (h:=bN 5 rfl sH (aO 1) (h:=bf 6 rfl sH cL (h:=bf 7 rfl sH aA (h:=bN 8 rfl sH (aO 0) (h:=aV dd sH ?_)))))))))
 obtain⟨m,b,H⟩:=ac H
 obtain⟨⟨hl556a,hl556b,hl556c⟩,H⟩:=aS H
 refine eG 9 rfl (mu [0,2,3,4,5] [1] (dZ.ok (bg:=bg) b) ?_)
 rintro _ _⟨c,d,a,rfl,rfl⟩
 refine cd 10 rfl aW (h:=aH (by kernel_rfl) (aa (eM ?_)))
 have h:=aN H;subst h
 exact dJ [0,1,2,3,4] ⟨c,d,a,rfl,rfl⟩


def ml.l0 (a0 : ba) (a1 : Int) : Nat → ba → Int → Option (ba)
  | 0,_,_=>none
  | k + 1,b,a=>if a < 3 then (if 0 ≤ a∧a < (3 : Int) then (lt (rd ([a0.f1.f0,a0.f1.f1,a0.f1.f2] : List Int) a) fun n21=>if n21 = 0 then (if 0 ≤ a∧a < (3 : Int) then (some (ba.mk b.f0 (fX.mk (if a = 0 then a1 else b.f1.f0) (if a = 1 then a1 else b.f1.f1) (if a = 2 then a1 else b.f1.f2)) b.f2 b.f3)) else none) else (ml.l0 a0 a1 k b (i64.wrap (a + 1)))) else none) else (some b)
def ml.f (k : Nat) (a0 : ba) (a1 : Int) : Option (ba):=(lS.f k a1).bind (fun d=>lt ((decide (d ≠ 0)) || (decide (a0.f2 = 0))) fun b=>lt (b || (decide (a0.f2 > 2))) fun c=>if c = true then (some (a0)) else ((ml.l0 a0 a1 k a0 0 : Option (ba)).bind (fun a=>some (a))))
theorem ml.ok {a0 : ba} {a1 : Int} {r : ba} (H : ml.f k a0 a1 = some r) : fU Tryz.prog 151 #[.agg (bW a0).toArray,aM a1] [] (.agg (bW r).toArray):=by
 refine aj Tryz.func151 rfl rfl ?_
 unfold ml.f at H
 refine aP (o' (bO (h:=fun s=>o' (cC (h:=fun l=>eA (S' ar ?_))))))
 obtain⟨r5,O,H⟩:=ac H
 refine o' (da [] [0,1] (lS.ok O) ?_)
 refine ad (dt rfl rfl) (h:=S' ar ?_)
 obtain⟨Z,L,H⟩:=bi H
 refine dy 4 [(1,aM a1),(2,aI s),(4,aI l),(14,.bool Z)] [aL s 55 (bW a0),aL l 55 (bW lu)] ?_ fun junk=>?_
 ·by_cases p : r5 ≠ 0
  ·refine ct 3 (ai p) (bY (ai p) (h:=ah ?_))
   have x_:=ik L ((ai p));exact bH [0,1]
  refine aZ (al p) aA (h:=cn (al p) (aO 0) (h:=aZ (al p) (bk rfl rfl) (h:=ca (al p) (h:=ah ?_))))
  have x_:=ij L ((al p));exact bH [0,1]
 refine S' ar ?_
 obtain⟨q9,M,H⟩:=bi H
 refine cI 4 (St [(1,aM a1),(2,aI s),(4,aI l),(19,.bool q9)] [aL s 55 (bW a0),aL l 55 (bW lu)]) ?_ ?_
 ·by_cases j : Z = true
  ·refine ct 3 j (bY j (h:=ah ?_))
   have x_:=ik M j;exact bH [0,1]
  refine aZ (aK j) aA (h:=cn (aK j) (aO 0) (h:=aZ (aK j) (eN rfl rfl) (h:=ca (aK j) (h:=ah ?_))))
  have x_:=ij M ((aK j));exact bH [0,1]
 rintro e ds As I
 refine bA (SA.of_St I fun junk=>?_)
 rcases bD H with⟨z,H⟩|⟨z,H⟩
 ·refine aD rfl z (aP (bq (cm 0) (h:=o' (bj l 0 1 (bW a0) (h:=cA ?_)))))
  have h:=aN H;subst h
  exact gi (rs:=[.cell 4 55]) (vs:=[.agg (bW a0).toArray]) [] rfl ⟨RV.cell (k:=1) rfl rfl Tryz.underlying55 rfl ck,trivial⟩ rfl (fk []) ⟨rfl,rfl⟩
 refine aE rfl z (ao (aa (ap (aP (ad aA (h:=bq (cx s 1 0 [aM a0.f1.f0,aM a0.f1.f1,aM a0.f1.f2]) (h:=ad ar (h:=bA ?_))))))))
 obtain⟨q,H,u⟩:=ac H
 refine bK (fun e ds As=>∃ (y : Nat),St [(2,aI y),(4,aI l)] [aL y 55 (bW q),aL l 55 (bW lu)] e ds As) ?_ ?_
 ·refine aT (cl (fun k_ e ds As=>∃ (c : ba) (a : Int),∃ (d : Nat),ml.l0 a0 a1 k_ c a = some q∧St [(1,aM a1),(2,aI d),(4,aI l),(22,.agg #[aM a0.f1.f0,aM a0.f1.f1,aM a0.f1.f2]),(23,ae a)] [aL d 55 (bW c),aL l 55 (bW lu)] e ds As) (k:=k) ⟨_,_,s,H,jQ [0,1]⟩ ?_)
  clear H
  rintro F e ds As ⟨c,a,d,H,J⟩
  obtain _ | F:=F
  ·cases H
  rw [ml.l0] at H
  refine SA.of_St J fun junk=>aP (ad (cg rfl rfl) (h:=bA (ap ?_)))
  rcases bD H with⟨D,H⟩|⟨D,H⟩
  ·refine aC rfl D (ao (aa (ap (aT (aP (S' ar ?_))))))
   obtain⟨⟨R,S⟩,H⟩:=aS H
   refine s' (aM (rd ([a0.f1.f0,a0.f1.f1,a0.f1.f2] : List Int) a)) (oG (kd:=(Kd.int .i32)) (i:=a) (cs:=[aM a0.f1.f0,aM a0.f1.f1,aM a0.f1.f2]) (xs:=([a0.f1.f0,a0.f1.f1,a0.f1.f2] : List Int)) (v:=aM (rd ([a0.f1.f0,a0.f1.f1,a0.f1.f2] : List Int) a)) Tryz.underlying53 jg Tryz.underlying21 rfl rfl rfl (dR (fun x_ : Int=>[Value.int .i32 x_]) (fun _ _=>rfl) (by kernel_rfl) _) rfl rfl R S (fun _ h_=>by rw [h_]; rfl)) ?_
   refine S' aW ?_
   obtain⟨n21,N,H⟩:=bi H
   refine bT (aM n21) (bu (v:=aM n21) (congrArg (Value.int .i32) N.symm)) (h:=cR (ad ar (h:=ad (bk rfl rfl) (h:=bA ?_))))
   rcases bD H with⟨E,H⟩|⟨E,H⟩
   ·refine aC rfl E (aP (ad ar (h:=ad ar (h:=S' aA ?_))))
    obtain⟨⟨U,Y⟩,H⟩:=aS H
    refine s' (.pointer (some ((⟨d,0,none⟩ : Addr).add (1 + a.toNat * 1 + 0)))) (gp (B:=⟨d,0,none⟩) (m:=1) (o:=1 + a.toNat * 1 + 0) Tryz.underlying53 jg rfl rfl U Y rfl) ?_
    refine o' (oF (b:=d) (m:=1 + a.toNat * 1 + 0) (k:=0) (vs:=[aM a1]) (cs':=(bW (ba.mk c.f0 (fX.mk (if a = 0 then a1 else c.f1.f0) (if a = 1 then a1 else c.f1.f1) (if a = 2 then a1 else c.f1.f2)) c.f2 c.f3))) rfl rfl rfl rfl rfl rfl jg (by show 1 + a.toNat * 1 + 0 + 1 ≤ 15; omega) (by rcases (show a = 0 ∨ a = 1 ∨ a = 2 by omega) with h_ | h_ | h_ <;> (rewrite [h_]; kernel_rfl)) ?_)
    refine bA (ci (tM rfl (aX (aX (cj ?_)))))
    have h:=aN H;subst h
    exact aa ⟨d,eb [0,1]⟩
   refine aB rfl E (ao (aG (aa (ak (ad (bX rfl rfl) (h:=ad ar (h:=ah ?_)))))))
   exact aa ⟨F,Nat.lt_succ_self _,_,_,d,H,eb [0,1]⟩
  refine aB rfl D (ci (aX (aX (cj ?_))))
  have h:=aN H;subst h
  exact aa ⟨d,eb [0,1]⟩
 rintro e ds As ⟨y,K⟩
 clear H
 have H:=u
 clear u
 refine aa (SA.of_St K fun junk=>aP (bq (cm 0) (h:=o' (bj l 0 1 (bW q) (h:=cD ?_)))))
 have h:=aN H;subst h
 exact gi (rs:=[.cell 4 55]) (vs:=[.agg (bW q).toArray]) [] rfl ⟨RV.cell (k:=1) rfl rfl Tryz.underlying55 rfl ck,trivial⟩ rfl (fk []) ⟨rfl,rfl⟩


def ip.f (k : Nat) (p0 : aJ) (a1 : Int) : Option (aJ):=(if (!p0.f3) = true then (lt (i64.wrap (p0.f2 - 1)) fun n10=>some n10) else (some p0.f2) : Option (Int)).bind (fun c=>if c < 0 then (some (p0)) else ((ed.f p0).bind (fun a=>if (0 ≤ a.1∧0 ≤ a.2∧a.1 + a.2 ≤ (p0.f0.f2.length : Int)) then (if 0 ≤ c∧c < a.2 then ((if ((rd p0.f0.f2 (a.1 + c)).f2) = 0 then (lt (i64.wrap (c - 1)) fun n28=>some n28) else (some c) : Option (Int)).bind (fun b=>if 0 ≤ b∧b < a.2 then ((ml.f k (rd p0.f0.f2 (a.1 + b)) a1).bind (fun d=>if 0 ≤ b∧b < a.2 then (lt (p0.f0.f2.set (a.1 + b).toNat d) fun n39=>(some (({ p0 with f0:=(bJ.mk p0.f0.f0 p0.f0.f1 n39) })))) else none)) else none)) else none) else none)))
theorem ip.ok {p0 : aJ} {a1 : Int} {r : aJ} (H : ip.f k p0 a1 = some r) : dp Tryz.prog 118 #[.agg #[.pointer (some ⟨bg,0,none⟩)],aM a1] (cQ bg p0 af ag ay az au av aw ax) (fun v B=>∃ P0_0_ q0_0_ P0_1_ q0_1_ P0_2_ q0_2_ P0_3_ q0_3_,v = .tuple #[]∧B = (cQ bg r P0_0_ q0_0_ P0_1_ q0_1_ P0_2_ q0_2_ P0_3_ q0_3_)):=by
 refine aj Tryz.func118 rfl rfl ?_
 unfold ip.f at H
 refine aP (o' (bO (h:=fun E=>cR (ad aA (h:=bq (aO 5) (h:=ad cL (h:=ad aA (h:=bq (aO 0) (h:=ad aW (h:=eA ?_))))))))))
 refine ad aA (h:=bq (aO 5) (h:=ad cL (h:=ad aA (h:=bq (aO 0) (h:=ad (bU rfl) (h:=bA ?_))))))
 obtain⟨c,H,z⟩:=ac H
 refine bK (St [(1,aM a1),(2,aI E),(4,ae c)] (aL bg 34 (am p0 af ag ay az au av aw ax)::(bn p0 af ag ay az au av aw ax++[aL E 84 [aI bg]]))) ?_ ?_
 ·rcases bD H with⟨F,H⟩|⟨F,H⟩
  ·refine aD rfl F (ak (ad ar (h:=S' (cV rfl rfl) ?_)))
   obtain⟨n10,I,H⟩:=bi H
   refine bT (ae n10) (bu (v:=ae n10) (congrArg (Value.int .i64) I.symm)) (h:=ah ?_)
   have h:=aN H;subst h
   exact bH [0,1,2,3,4,5]
  refine aE rfl F (ao ?_)
  have h:=aN H;subst h
  exact bH [0,1,2,3,4,5]
 rintro e ds As u
 clear H
 have H:=z
 clear z
 refine aa (SA.of_St u fun junk=>ap (aP (ad ar (h:=ad (cg rfl rfl) (h:=bA ?_)))))
 rcases bD H with⟨p,H⟩|⟨p,H⟩
 ·refine aC rfl p (eM (aF ?_))
  have h:=aN H;subst h
  exact kO (cQ bg p0 af ag ay az au av aw ax) rfl (fk [0,1,2,3,4]) ⟨af,ag,ay,az,au,av,aw,ax,rfl,rfl⟩
 refine aB rfl p (ao (aa (ap (bQ 1 fun a7=>bQ 2 fun a8=>bQ 3 fun a9=>bQ 4 fun b0=>ak (l' (cx E 0 5 [aI bg]) ?_)))))
 obtain⟨a,L,H⟩:=ac H
 obtain⟨⟨hl21a,hl21b,hl21c⟩,H⟩:=aS H
 refine o' (mu [0,1,2,3,4] [5] (ed.ok (bg:=bg) L) ?_)
 rintro _ _⟨M,a6,d,rfl,rfl⟩
 refine ad aW (h:=eA (ad ar (h:=S' ar ?_)))
 obtain⟨⟨N,O⟩,H⟩:=aS H
 have R : 0 ≤ a.1 + c:=by omega
 have S : a.1 + c < (p0.f0.f2.length : Int):=by omega
 refine bq (eQ (l:=a.1) (m:=a.2) (i:=c) (sz:=15) d Tryz.underlying116 ck rfl rfl (Src.buf (k:=1) rfl) N O (by omega)) (h:=bT (.pointer (some ((el af ((a.1 + c).toNat * 15)).add 4))) (lL (el af ((a.1 + c).toNat * 15)) 0 4) (h:=bq (bE (enc:=cZ) (i:=a.1 + c) (j:=(a.1 + c).toNat * 15) (m:=4) (sz:=15) Tryz.underlying5 rfl rfl rfl rfl (Src.buf (k:=1) rfl) R S (fun _ _ h=>h) rfl) (h:=ad (bk rfl rfl) (h:=bA ?_))))
 obtain⟨b,H,o⟩:=ac H
 refine bK (St [(1,aM a1),(4,ae b),(5,.slice M a.2.toNat a6)] (cQ bg p0 af ag ay az au av aw ax)) ?_ ?_
 ·rcases bD H with⟨q,H⟩|⟨q,H⟩
  ·refine aC rfl q (ak (ad ar (h:=S' (cV rfl rfl) ?_)))
   obtain⟨n28,J,H⟩:=bi H
   refine bT (ae n28) (bu (v:=ae n28) (congrArg (Value.int .i64) J.symm)) (h:=ah ?_)
   have h:=aN H;subst h
   exact bH [0,1,2,3,4]
  refine aB rfl q (ao ?_)
  have h:=aN H;subst h
  exact bH [0,1,2,3,4]
 rintro e ds As y
 clear H
 have H:=o
 clear o
 refine aa (SA.of_St y fun junk=>ak (ad ar (h:=ad ar (h:=ad ar (h:=S' ar ?_)))))
 obtain⟨⟨U,Y⟩,H⟩:=aS H
 have Z : 0 ≤ a.1 + b:=by omega
 have a0 : a.1 + b < (p0.f0.f2.length : Int):=by omega
 refine bq (eQ (l:=a.1) (m:=a.2) (i:=b) (sz:=15) d Tryz.underlying116 ck rfl rfl (Src.buf (k:=1) rfl) U Y (by omega)) (h:=bq (cf (enc:=cZ) (i:=a.1 + b) (j:=(a.1 + b).toNat * 15) (m:=0) (sz:=15) (vs:=(bW (ba.mk ((rd p0.f0.f2 (a.1 + b)).f0) ((rd p0.f0.f2 (a.1 + b)).f1) ((rd p0.f0.f2 (a.1 + b)).f2) ((rd p0.f0.f2 (a.1 + b)).f3)))) Tryz.underlying55 rfl ck rfl rfl rfl (Src.buf (k:=1) rfl) Z a0 (fun _ _ h=>h) rfl) (h:=S' ar ?_))
 obtain⟨D,K,H⟩:=ac H
 refine o' (da [] [0,1,2,3,4] (ml.ok K) ?_)
 obtain⟨⟨a2,a3⟩,H⟩:=aS H
 have a4 : 0 ≤ a.1 + b:=by omega
 have a5 : a.1 + b < (p0.f0.f2.length : Int):=by omega
 refine l' (eQ (l:=a.1) (m:=a.2) (i:=b) (sz:=15) d Tryz.underlying116 ck rfl rfl (Src.buf (k:=1) rfl) a2 a3 (by omega)) ?_
 obtain⟨n39,s,H⟩:=bi H
 have hl_n39 : n39.length = p0.f0.f2.length:=by rw [s]; exact List.length_set
 refine o' (iG (k:=1) (i:=a.1 + b) (j:=(a.1 + b).toNat * 15) (m:=0) (sz:=15) (xs:=p0.f0.f2) (vs:=(bW D)) D rfl rfl rfl rfl rfl rfl rfl rfl ck a4 a5 rfl (fun _ _ h_=>by subst h_; rfl) ?_)
 rewrite [← s]
 try unfold cQ
 try unfold eD
 try unfold am
 try rewrite [← hl_n39]
 refine ah ?_
 have h:=aN H;subst h
 exact fH [0,1,2,3,4] ⟨af,ag,ay,az,au,av,aw,ax,rfl,rfl⟩


def fb.l0 (l0 : (List ba)) (o0 : Int) (n0 : Int) (r4 : ba) : Nat → Int → (List ba) → Option ((List ba))
  | 0,_,_=>none
  | k + 1,a,b=>if b.length = l0.length then (if a < n0 then (if 0 ≤ a∧a < n0 then (lt (b.set (o0 + a).toNat r4) fun n15=>(fb.l0 l0 o0 n0 r4 k (i64.wrap (a + 1)) n15)) else none) else (some b)) else none
def fb.f (k : Nat) (l0 : (List ba)) (o0 : Int) (n0 : Int) (a1 : cN) : Option ((List ba)):=if 0 ≤ o0∧0 ≤ n0∧o0 + n0 ≤ (l0.length : Int) then ((nE.f a1).bind (fun b=>(fb.l0 l0 o0 n0 b k 0 l0 : Option ((List ba))).bind (fun a=>if a.length = l0.length then (some (a)) else none))) else none
theorem fb.ok {l0 : (List ba)} {o0 : Int} {n0 : Int} {a1 : cN} {A0 V0 : Option Addr} {c0 v0 : Nat} (hw0 : ey A0 V0 15 o0 n0 v0) {r : (List ba)} (H : fb.f k l0 o0 n0 a1 = some r) : dp Tryz.prog 116 #[.slice V0 n0.toNat v0,.agg (bF a1).toArray] [Buf bI 55 A0 c0 l0] (fun v B=>v = .tuple #[]∧B = [Buf bI 55 A0 c0 r]):=by
 refine aj Tryz.func116 rfl rfl ?_
 unfold fb.f at H
 obtain⟨⟨M,N,O⟩,H⟩:=aS H
 have hcv_hw0:=hw0.cap
 refine aP (o' (bO (h:=fun R=>cR (l' (cm 1) ?_))))
 obtain⟨o,D,H⟩:=ac H
 refine o' (da [] [0,1] (nE.ok D) ?_)
 refine o' (cC (h:=fun s=>o' (bj s 0 2 (bW o) (h:=cR (ad ar (h:=bT (ae n0) (jT hw0 Tryz.underlying24 rfl) (h:=ad ar (h:=bA ?_))))))))
 obtain⟨z,H,q⟩:=ac H
 refine bK (St [] [Buf bI 55 A0 c0 z]) ?_ ?_
 ·refine aT (cl (fun k_ e ds As=>∃ (b : Int) (a : (List ba)),fb.l0 l0 o0 n0 o k_ b a = some z∧St [(0,.slice V0 n0.toNat v0),(4,aI s),(9,ae n0),(10,ae b)] [Buf bI 55 A0 c0 a,aL s 55 (bW o)] e ds As) (k:=k) ⟨_,_,H,jQ [0,2]⟩ ?_)
  clear H
  rintro y e ds As ⟨b,a,H,u⟩
  obtain _ | y:=y
  ·cases H
  rw [fb.l0] at H
  obtain⟨K,H⟩:=aS H
  refine SA.of_St u fun junk=>aP (ad (cg rfl rfl) (h:=bA (ap ?_)))
  rcases bD H with⟨c,H⟩|⟨c,H⟩
  ·refine aC rfl c (ao (aa (ap (aT (aP (ad ar (h:=ad aW (h:=bA (ak (ad ar (h:=ad ar (h:=l' (cm 1) ?_))))))))))))
   obtain⟨⟨E,F⟩,H⟩:=aS H
   have I : 0 ≤ o0 + b:=by omega
   have J : o0 + b < (a.length : Int):=by omega
   refine l' (eQ (l:=o0) (m:=n0) (i:=b) (sz:=15) hw0 Tryz.underlying24 ck rfl rfl (Src.buf (k:=0) rfl) E F (by omega)) ?_
   obtain⟨n15,d,H⟩:=bi H
   have hl_n15 : n15.length = a.length:=by rw [d]; exact List.length_set
   refine o' (iG (k:=0) (i:=o0 + b) (j:=(o0 + b).toNat * 15) (m:=0) (sz:=15) (xs:=a) (vs:=(bW o)) o rfl rfl rfl rfl rfl rfl rfl rfl ck I J rfl (fun _ _ h_=>by subst h_; rfl) ?_)
   rewrite [← d]
   try unfold bF
   try rewrite [← hl_n15]
   refine ah (aG (aa (ak (ad (bX rfl rfl) (h:=ad ar (h:=ah ?_))))))
   exact aa ⟨y,Nat.lt_succ_self _,_,_,H,eb [0,1]⟩
  refine aB rfl c (ci (aX (aX (cj ?_))))
  have h:=aN H;subst h
  exact bH [0]
 rintro e ds As p
 clear H
 have H:=q
 clear q
 obtain⟨L,H⟩:=aS H
 have h:=aN H;subst h
 exact nD p [Buf bI 55 A0 c0 z] rfl (fk [0]) ⟨rfl,rfl⟩


def dk.f (k : Nat) (p0 : aJ) (a1 : Int) (a2 : Int) (a3 : Int) (a4 : cN) : Option (aJ):=lt (i64.wrap ((i64.wrap (a2 - a1)) + 1)) fun n8=>lt (i64.wrap ((fE (i64.wrap (0 - n8)) (dm a3 n8)) * p0.f0.f0)) fun n9=>if 0 ≤ (i64.wrap (a1 * p0.f0.f0))∧(i64.wrap (a1 * p0.f0.f0)) ≤ (i64.wrap ((i64.wrap (a2 + 1)) * p0.f0.f0))∧(i64.wrap ((i64.wrap (a2 + 1)) * p0.f0.f0)) ≤ (p0.f0.f2.length : Int) then (if n9 ≥ 0 then (if 0 ≤ n9∧n9 ≤ ((i64.wrap ((i64.wrap (a2 + 1)) * p0.f0.f0)) - (i64.wrap (a1 * p0.f0.f0)))∧((i64.wrap ((i64.wrap (a2 + 1)) * p0.f0.f0)) - (i64.wrap (a1 * p0.f0.f0))) ≤ ((i64.wrap ((i64.wrap (a2 + 1)) * p0.f0.f0)) - (i64.wrap (a1 * p0.f0.f0))) then (lt (bB p0.f0.f2 (0 + (i64.wrap (a1 * p0.f0.f0))).toNat ((sub p0.f0.f2 ((0 + (i64.wrap (a1 * p0.f0.f0))) + n9) (((0 + (i64.wrap (a1 * p0.f0.f0))) + n9) + (((i64.wrap ((i64.wrap (a2 + 1)) * p0.f0.f0)) - (i64.wrap (a1 * p0.f0.f0))) - n9))).take ((i64.wrap ((i64.wrap (a2 + 1)) * p0.f0.f0)) - (i64.wrap (a1 * p0.f0.f0))).toNat)) fun a=>(if 0 ≤ (i64.wrap (((i64.wrap ((i64.wrap (a2 + 1)) * p0.f0.f0)) - (i64.wrap (a1 * p0.f0.f0))) - n9))∧(i64.wrap (((i64.wrap ((i64.wrap (a2 + 1)) * p0.f0.f0)) - (i64.wrap (a1 * p0.f0.f0))) - n9)) ≤ ((i64.wrap ((i64.wrap (a2 + 1)) * p0.f0.f0)) - (i64.wrap (a1 * p0.f0.f0)))∧((i64.wrap ((i64.wrap (a2 + 1)) * p0.f0.f0)) - (i64.wrap (a1 * p0.f0.f0))) ≤ ((i64.wrap ((i64.wrap (a2 + 1)) * p0.f0.f0)) - (i64.wrap (a1 * p0.f0.f0))) then ((fb.f k a ((0 + (i64.wrap (a1 * p0.f0.f0))) + (i64.wrap (((i64.wrap ((i64.wrap (a2 + 1)) * p0.f0.f0)) - (i64.wrap (a1 * p0.f0.f0))) - n9))) (((i64.wrap ((i64.wrap (a2 + 1)) * p0.f0.f0)) - (i64.wrap (a1 * p0.f0.f0))) - (i64.wrap (((i64.wrap ((i64.wrap (a2 + 1)) * p0.f0.f0)) - (i64.wrap (a1 * p0.f0.f0))) - n9))) a4).bind (fun c=>if c.length = a.length then (some (({ p0 with f0:=(bJ.mk p0.f0.f0 p0.f0.f1 c) }))) else none)) else none)) else none) else (if 0 ≤ (i64.wrap (0 - n9))∧(i64.wrap (0 - n9)) ≤ ((i64.wrap ((i64.wrap (a2 + 1)) * p0.f0.f0)) - (i64.wrap (a1 * p0.f0.f0)))∧((i64.wrap ((i64.wrap (a2 + 1)) * p0.f0.f0)) - (i64.wrap (a1 * p0.f0.f0))) ≤ ((i64.wrap ((i64.wrap (a2 + 1)) * p0.f0.f0)) - (i64.wrap (a1 * p0.f0.f0))) then (lt (bB p0.f0.f2 ((0 + (i64.wrap (a1 * p0.f0.f0))) + (i64.wrap (0 - n9))).toNat ((sub p0.f0.f2 (0 + (i64.wrap (a1 * p0.f0.f0))) ((0 + (i64.wrap (a1 * p0.f0.f0))) + ((i64.wrap ((i64.wrap (a2 + 1)) * p0.f0.f0)) - (i64.wrap (a1 * p0.f0.f0))))).take (((i64.wrap ((i64.wrap (a2 + 1)) * p0.f0.f0)) - (i64.wrap (a1 * p0.f0.f0))) - (i64.wrap (0 - n9))).toNat)) fun b=>(if 0 ≤ (0 : Int)∧(0 : Int) ≤ (i64.wrap (0 - n9))∧(i64.wrap (0 - n9)) ≤ ((i64.wrap ((i64.wrap (a2 + 1)) * p0.f0.f0)) - (i64.wrap (a1 * p0.f0.f0))) then ((fb.f k b ((0 + (i64.wrap (a1 * p0.f0.f0))) + (0 : Int)) ((i64.wrap (0 - n9)) - (0 : Int)) a4).bind (fun d=>if d.length = b.length then (some (({ p0 with f0:=(bJ.mk p0.f0.f0 p0.f0.f1 d) }))) else none)) else none)) else none)) else none
theorem dk.ok {p0 : aJ} {a1 : Int} {a2 : Int} {a3 : Int} {a4 : cN} {r : aJ} (H : dk.f k p0 a1 a2 a3 a4 = some r) : dp Tryz.prog 131 #[.pointer (some ⟨bg,0,none⟩),ae a1,ae a2,ae a3,.agg (bF a4).toArray] (cQ bg p0 af ag ay az au av aw ax) (fun v B=>∃ P0_0_ q0_0_ P0_1_ q0_1_ P0_2_ q0_2_ P0_3_ q0_3_,v = .tuple #[]∧B = (cQ bg r P0_0_ q0_0_ P0_1_ q0_1_ P0_2_ q0_2_ P0_3_ q0_3_)):=by
 refine aj Tryz.func131 rfl rfl ?_
 unfold dk.f at H
 refine aP (o' (bO (h:=fun b6=>cR (ad ar (h:=ad ar (h:=ad (cV rfl rfl) (h:=S' (bX rfl rfl) ?_)))))))
 obtain⟨n8,b0,H⟩:=bi H
 refine bT (ae n8) (bu (v:=ae n8) (congrArg (Value.int .i64) b0.symm)) (h:=cR (ad ar (h:=bT (ae (i64.wrap (0 - n8))) (ms rfl) (h:=ad ar (h:=ad ar (h:=bT (ae (dm a3 n8)) (jL rfl rfl) (h:=bT (ae (fE (i64.wrap (0 - n8)) (dm a3 n8))) (nN rfl rfl) (h:=ad ar (h:=S' cL ?_)))))))))
 refine ad aA (h:=bq (aO 0) (h:=S' (jt rfl rfl) ?_))
 obtain⟨n9,b1,H⟩:=bi H
 refine bT (ae n9) (bu (v:=ae n9) (congrArg (Value.int .i64) b1.symm)) (h:=bA (ap (bQ 1 fun b4=>bQ 2 fun b5=>bQ 3 fun b7=>bQ 4 fun b8=>?_)))
 refine fg (dC 0 19) [0] (dC 1 5) fun _ _ _ _ _ sH dd pk=>?_
 refine bf 0 rfl sH ar (h:=bf 1 rfl sH cL (h:=bf 2 rfl sH aA (h:=bN 3 rfl sH (aO 0) (h:=bf 4 rfl sH ar (h:=bf 5 rfl sH ar (h:=bf 6 rfl sH cL (h:=bf 7 rfl sH aA (h:=bN 8 rfl sH (aO 0) (h:=T' 9 rfl sH (jt rfl rfl) ?_)))))))))
 refine bf 10 rfl sH ar (h:=bf 11 rfl sH (bX rfl rfl) (h:=bf 12 rfl sH ar (h:=bf 13 rfl sH cL (h:=bf 14 rfl sH aA (h:=bN 15 rfl sH (aO 0) (h:=T' 16 rfl sH (jt rfl rfl) ?_))))))
 obtain⟨⟨y,z,D⟩,H⟩:=aS H
 refine t' (.slice (dv af (i64.wrap (a1 * p0.f0.f0)) ((ag : Nat) : Int) 15) ((i64.wrap ((i64.wrap (a2 + 1)) * p0.f0.f0)) - (i64.wrap (a1 * p0.f0.f0))).toNat (((ag : Nat) : Int).toNat - (i64.wrap (a1 * p0.f0.f0)).toNat)) 17 rfl sH (dA (l:=0) (m:=(p0.f0.f2.length : Int)) (a:=i64.wrap (a1 * p0.f0.f0)) (b:=i64.wrap ((i64.wrap (a2 + 1)) * p0.f0.f0)) (q:=((ag : Nat) : Int)) (ey.whole (A:=af) (sz:=15) (xs:=p0.f0.f2) (c:=ag) (by omega)) Tryz.underlying24 ck rfl rfl rfl rfl (.inr ⟨_,rfl⟩) (.inr ⟨_,rfl⟩) (.inl ⟨rfl,rfl⟩) y z D) ?_
 have d : ey af (dv af (i64.wrap (a1 * p0.f0.f0)) ((ag : Nat) : Int) 15) 15 (0 + (i64.wrap (a1 * p0.f0.f0))) ((i64.wrap ((i64.wrap (a2 + 1)) * p0.f0.f0)) - (i64.wrap (a1 * p0.f0.f0))) (((ag : Nat) : Int).toNat - (i64.wrap (a1 * p0.f0.f0)).toNat):=ey.sub (ey.whole (A:=af) (sz:=15) (xs:=p0.f0.f2) (c:=ag) (by omega)) y z D (.inl rfl) (Int.le_refl _)
 refine kQ (.slice (dv af (i64.wrap (a1 * p0.f0.f0)) ((ag : Nat) : Int) 15) ((i64.wrap ((i64.wrap (a2 + 1)) * p0.f0.f0)) - (i64.wrap (a1 * p0.f0.f0))).toNat (((ag : Nat) : Int).toNat - (i64.wrap (a1 * p0.f0.f0)).toNat)) 18 rfl sH rR (h:=aV dd sH (aH (by kernel_rfl) (aa (SA.of_St (l:=[(3,ae n9),(9,aI b6),(11,.slice (dv af (i64.wrap (a1 * p0.f0.f0)) ((ag : Nat) : Int) 15) ((i64.wrap ((i64.wrap (a2 + 1)) * p0.f0.f0)) - (i64.wrap (a1 * p0.f0.f0))).toNat (((ag : Nat) : Int).toNat - (i64.wrap (a1 * p0.f0.f0)).toNat))]) (B:=(aL bg 34 (am p0 af ag ay az au av aw ax)::(bn p0 af ag ay az au av aw ax++[aL b6 28 (bF a4)]))) (St.mk1 (cO rfl (cO rfl (cO rfl dY))) (Gh.sel [0,1,2,3,4,5] (by kernel_rfl) (by kernel_rfl))) fun junk=>aP (ad ar (h:=ad (dU rfl rfl) (h:=bA ?_)))))))
 rcases bD H with⟨j,H⟩|⟨j,H⟩
 ·refine aC rfl j (aP (bT (.slice (dv af (i64.wrap (a1 * p0.f0.f0)) ((ag : Nat) : Int) 15) ((i64.wrap ((i64.wrap (a2 + 1)) * p0.f0.f0)) - (i64.wrap (a1 * p0.f0.f0))).toNat (((ag : Nat) : Int).toNat - (i64.wrap (a1 * p0.f0.f0)).toNat)) fP (h:=bT (.slice (dv af (i64.wrap (a1 * p0.f0.f0)) ((ag : Nat) : Int) 15) ((i64.wrap ((i64.wrap (a2 + 1)) * p0.f0.f0)) - (i64.wrap (a1 * p0.f0.f0))).toNat (((ag : Nat) : Int).toNat - (i64.wrap (a1 * p0.f0.f0)).toNat)) fP (h:=S' ar ?_))))
  obtain⟨⟨E,F,I⟩,H⟩:=aS H
  refine s' (.slice (dv (dv af (i64.wrap (a1 * p0.f0.f0)) ((ag : Nat) : Int) 15) n9 ((((ag : Nat) : Int).toNat - (i64.wrap (a1 * p0.f0.f0)).toNat : Nat) : Int) 15) (((i64.wrap ((i64.wrap (a2 + 1)) * p0.f0.f0)) - (i64.wrap (a1 * p0.f0.f0))) - n9).toNat (((((ag : Nat) : Int).toNat - (i64.wrap (a1 * p0.f0.f0)).toNat : Nat) : Int).toNat - n9.toNat)) (dA (l:=0 + (i64.wrap (a1 * p0.f0.f0))) (m:=(i64.wrap ((i64.wrap (a2 + 1)) * p0.f0.f0)) - (i64.wrap (a1 * p0.f0.f0))) (a:=n9) (b:=(i64.wrap ((i64.wrap (a2 + 1)) * p0.f0.f0)) - (i64.wrap (a1 * p0.f0.f0))) (q:=((((ag : Nat) : Int).toNat - (i64.wrap (a1 * p0.f0.f0)).toNat : Nat) : Int)) d Tryz.underlying24 ck rfl rfl rfl rfl (.inr ⟨_,rfl⟩) (.inl ⟨rfl,rfl,rfl⟩) (.inl ⟨rfl,rfl⟩) E F I) ?_
  have a0 : ey af (dv (dv af (i64.wrap (a1 * p0.f0.f0)) ((ag : Nat) : Int) 15) n9 ((((ag : Nat) : Int).toNat - (i64.wrap (a1 * p0.f0.f0)).toNat : Nat) : Int) 15) 15 ((0 + (i64.wrap (a1 * p0.f0.f0))) + n9) (((i64.wrap ((i64.wrap (a2 + 1)) * p0.f0.f0)) - (i64.wrap (a1 * p0.f0.f0))) - n9) (((((ag : Nat) : Int).toNat - (i64.wrap (a1 * p0.f0.f0)).toNat : Nat) : Int).toNat - n9.toNat):=ey.sub d E F I (.inl rfl) (Int.le_refl _)
  obtain⟨Y,s,H⟩:=bi H
  have hl_n1162 : Y.length = p0.f0.f2.length:=by rw [s]; exact eU (by rw [List.length_take]; omega)
  refine o' (gn (k:=1) (l:=0 + (i64.wrap (a1 * p0.f0.f0))) (m:=(i64.wrap ((i64.wrap (a2 + 1)) * p0.f0.f0)) - (i64.wrap (a1 * p0.f0.f0))) (xs:=p0.f0.f2) (ys:=sub p0.f0.f2 ((0 + (i64.wrap (a1 * p0.f0.f0))) + n9) (((0 + (i64.wrap (a1 * p0.f0.f0))) + n9) + (((i64.wrap ((i64.wrap (a2 + 1)) * p0.f0.f0)) - (i64.wrap (a1 * p0.f0.f0))) - n9))) Y s d rfl Tryz.underlying24 ck rfl rfl rfl (by omega) rfl (pE.win (Src.buf (k:=1) rfl) a0 rfl (by omega)) ?_)
  try unfold bF
  try unfold cQ
  try unfold eD
  try unfold am
  try rewrite [← hl_n1162]
  refine bA ?_
  refine fg (dC 0 7) [5] (dC 0 5) fun _ _ _ _ _ sH dd pk=>?_
  refine kQ (.slice (dv af (i64.wrap (a1 * p0.f0.f0)) ((ag : Nat) : Int) 15) ((i64.wrap ((i64.wrap (a2 + 1)) * p0.f0.f0)) - (i64.wrap (a1 * p0.f0.f0))).toNat (((ag : Nat) : Int).toNat - (i64.wrap (a1 * p0.f0.f0)).toNat)) 0 rfl sH fP (h:=kQ (.slice (dv af (i64.wrap (a1 * p0.f0.f0)) ((ag : Nat) : Int) 15) ((i64.wrap ((i64.wrap (a2 + 1)) * p0.f0.f0)) - (i64.wrap (a1 * p0.f0.f0))).toNat (((ag : Nat) : Int).toNat - (i64.wrap (a1 * p0.f0.f0)).toNat)) 1 rfl sH fP (h:=kQ (ae ((i64.wrap ((i64.wrap (a2 + 1)) * p0.f0.f0)) - (i64.wrap (a1 * p0.f0.f0)))) 2 rfl sH (jT d Tryz.underlying24 rfl) (h:=bf 3 rfl sH ar (h:=T' 4 rfl sH (cV rfl rfl) ?_))))
  obtain⟨⟨J,K,L⟩,H⟩:=aS H
  refine t' (.slice (dv (dv af (i64.wrap (a1 * p0.f0.f0)) ((ag : Nat) : Int) 15) (i64.wrap (((i64.wrap ((i64.wrap (a2 + 1)) * p0.f0.f0)) - (i64.wrap (a1 * p0.f0.f0))) - n9)) ((((ag : Nat) : Int).toNat - (i64.wrap (a1 * p0.f0.f0)).toNat : Nat) : Int) 15) (((i64.wrap ((i64.wrap (a2 + 1)) * p0.f0.f0)) - (i64.wrap (a1 * p0.f0.f0))) - (i64.wrap (((i64.wrap ((i64.wrap (a2 + 1)) * p0.f0.f0)) - (i64.wrap (a1 * p0.f0.f0))) - n9))).toNat (((((ag : Nat) : Int).toNat - (i64.wrap (a1 * p0.f0.f0)).toNat : Nat) : Int).toNat - (i64.wrap (((i64.wrap ((i64.wrap (a2 + 1)) * p0.f0.f0)) - (i64.wrap (a1 * p0.f0.f0))) - n9)).toNat)) 5 rfl sH (dA (l:=0 + (i64.wrap (a1 * p0.f0.f0))) (m:=(i64.wrap ((i64.wrap (a2 + 1)) * p0.f0.f0)) - (i64.wrap (a1 * p0.f0.f0))) (a:=i64.wrap (((i64.wrap ((i64.wrap (a2 + 1)) * p0.f0.f0)) - (i64.wrap (a1 * p0.f0.f0))) - n9)) (b:=(i64.wrap ((i64.wrap (a2 + 1)) * p0.f0.f0)) - (i64.wrap (a1 * p0.f0.f0))) (q:=((((ag : Nat) : Int).toNat - (i64.wrap (a1 * p0.f0.f0)).toNat : Nat) : Int)) d Tryz.underlying24 ck rfl rfl rfl rfl (.inr ⟨_,rfl⟩) (.inl ⟨rfl,rfl,rfl⟩) (.inl ⟨rfl,rfl⟩) J K L) ?_
  have a5 : ey af (dv (dv af (i64.wrap (a1 * p0.f0.f0)) ((ag : Nat) : Int) 15) (i64.wrap (((i64.wrap ((i64.wrap (a2 + 1)) * p0.f0.f0)) - (i64.wrap (a1 * p0.f0.f0))) - n9)) ((((ag : Nat) : Int).toNat - (i64.wrap (a1 * p0.f0.f0)).toNat : Nat) : Int) 15) 15 ((0 + (i64.wrap (a1 * p0.f0.f0))) + (i64.wrap (((i64.wrap ((i64.wrap (a2 + 1)) * p0.f0.f0)) - (i64.wrap (a1 * p0.f0.f0))) - n9))) (((i64.wrap ((i64.wrap (a2 + 1)) * p0.f0.f0)) - (i64.wrap (a1 * p0.f0.f0))) - (i64.wrap (((i64.wrap ((i64.wrap (a2 + 1)) * p0.f0.f0)) - (i64.wrap (a1 * p0.f0.f0))) - n9))) (((((ag : Nat) : Int).toNat - (i64.wrap (a1 * p0.f0.f0)).toNat : Nat) : Int).toNat - (i64.wrap (((i64.wrap ((i64.wrap (a2 + 1)) * p0.f0.f0)) - (i64.wrap (a1 * p0.f0.f0))) - n9)).toNat):=ey.sub d J K L (.inl rfl) (Int.le_refl _)
  refine r' 6 rfl sH (cm 0) ?_
  obtain⟨b2,a8,H⟩:=ac H
  obtain⟨o,H⟩:=aS H
  refine dT 7 rfl dd (da [1] [0,2,3,4] (fb.ok (o0:=(0 + (i64.wrap (a1 * p0.f0.f0))) + (i64.wrap (((i64.wrap ((i64.wrap (a2 + 1)) * p0.f0.f0)) - (i64.wrap (a1 * p0.f0.f0))) - n9))) (n0:=((i64.wrap ((i64.wrap (a2 + 1)) * p0.f0.f0)) - (i64.wrap (a1 * p0.f0.f0))) - (i64.wrap (((i64.wrap ((i64.wrap (a2 + 1)) * p0.f0.f0)) - (i64.wrap (a1 * p0.f0.f0))) - n9))) (A0:=af) (c0:=ag) (V0:=dv (dv af (i64.wrap (a1 * p0.f0.f0)) ((ag : Nat) : Int) 15) (i64.wrap (((i64.wrap ((i64.wrap (a2 + 1)) * p0.f0.f0)) - (i64.wrap (a1 * p0.f0.f0))) - n9)) ((((ag : Nat) : Int).toNat - (i64.wrap (a1 * p0.f0.f0)).toNat : Nat) : Int) 15) (v0:=((((ag : Nat) : Int).toNat - (i64.wrap (a1 * p0.f0.f0)).toNat : Nat) : Int).toNat - (i64.wrap (((i64.wrap ((i64.wrap (a2 + 1)) * p0.f0.f0)) - (i64.wrap (a1 * p0.f0.f0))) - n9)).toNat) (hw0:=a5) a8) ?_)
  try unfold bF
  try unfold cQ
  try unfold eD
  try unfold am
  try rewrite [← o]
  try unfold bF at sH
  try unfold cQ at sH
  try unfold eD at sH
  try unfold am at sH
  try rewrite [← o] at sH
  refine aV dd sH (aH (by kernel_rfl) ?_)
  have h:=aN H;subst h
  exact fH [2,1,3,4,5] ⟨af,ag,ay,az,au,av,aw,ax,rfl,rfl⟩
 refine aB rfl j (aP (bT (.slice (dv af (i64.wrap (a1 * p0.f0.f0)) ((ag : Nat) : Int) 15) ((i64.wrap ((i64.wrap (a2 + 1)) * p0.f0.f0)) - (i64.wrap (a1 * p0.f0.f0))).toNat (((ag : Nat) : Int).toNat - (i64.wrap (a1 * p0.f0.f0)).toNat)) fP (h:=ad ar (h:=s' (ae (i64.wrap (0 - n9))) (ms rfl) ?_))))
 obtain⟨⟨M,N,O⟩,H⟩:=aS H
 refine s' (.slice (dv (dv af (i64.wrap (a1 * p0.f0.f0)) ((ag : Nat) : Int) 15) (i64.wrap (0 - n9)) ((((ag : Nat) : Int).toNat - (i64.wrap (a1 * p0.f0.f0)).toNat : Nat) : Int) 15) (((i64.wrap ((i64.wrap (a2 + 1)) * p0.f0.f0)) - (i64.wrap (a1 * p0.f0.f0))) - (i64.wrap (0 - n9))).toNat (((((ag : Nat) : Int).toNat - (i64.wrap (a1 * p0.f0.f0)).toNat : Nat) : Int).toNat - (i64.wrap (0 - n9)).toNat)) (dA (l:=0 + (i64.wrap (a1 * p0.f0.f0))) (m:=(i64.wrap ((i64.wrap (a2 + 1)) * p0.f0.f0)) - (i64.wrap (a1 * p0.f0.f0))) (a:=i64.wrap (0 - n9)) (b:=(i64.wrap ((i64.wrap (a2 + 1)) * p0.f0.f0)) - (i64.wrap (a1 * p0.f0.f0))) (q:=((((ag : Nat) : Int).toNat - (i64.wrap (a1 * p0.f0.f0)).toNat : Nat) : Int)) d Tryz.underlying24 ck rfl rfl rfl rfl (.inr ⟨_,rfl⟩) (.inl ⟨rfl,rfl,rfl⟩) (.inl ⟨rfl,rfl⟩) M N O) ?_
 have a6 : ey af (dv (dv af (i64.wrap (a1 * p0.f0.f0)) ((ag : Nat) : Int) 15) (i64.wrap (0 - n9)) ((((ag : Nat) : Int).toNat - (i64.wrap (a1 * p0.f0.f0)).toNat : Nat) : Int) 15) 15 ((0 + (i64.wrap (a1 * p0.f0.f0))) + (i64.wrap (0 - n9))) (((i64.wrap ((i64.wrap (a2 + 1)) * p0.f0.f0)) - (i64.wrap (a1 * p0.f0.f0))) - (i64.wrap (0 - n9))) (((((ag : Nat) : Int).toNat - (i64.wrap (a1 * p0.f0.f0)).toNat : Nat) : Int).toNat - (i64.wrap (0 - n9)).toNat):=ey.sub d M N O (.inl rfl) (Int.le_refl _)
 refine s' (.slice (dv af (i64.wrap (a1 * p0.f0.f0)) ((ag : Nat) : Int) 15) ((i64.wrap ((i64.wrap (a2 + 1)) * p0.f0.f0)) - (i64.wrap (a1 * p0.f0.f0))).toNat (((ag : Nat) : Int).toNat - (i64.wrap (a1 * p0.f0.f0)).toNat)) fP ?_
 obtain⟨Z,u,H⟩:=bi H
 have hl_n1650 : Z.length = p0.f0.f2.length:=by rw [u]; exact eU (by rw [List.length_take]; omega)
 refine o' (gn (k:=1) (l:=(0 + (i64.wrap (a1 * p0.f0.f0))) + (i64.wrap (0 - n9))) (m:=((i64.wrap ((i64.wrap (a2 + 1)) * p0.f0.f0)) - (i64.wrap (a1 * p0.f0.f0))) - (i64.wrap (0 - n9))) (xs:=p0.f0.f2) (ys:=sub p0.f0.f2 (0 + (i64.wrap (a1 * p0.f0.f0))) ((0 + (i64.wrap (a1 * p0.f0.f0))) + ((i64.wrap ((i64.wrap (a2 + 1)) * p0.f0.f0)) - (i64.wrap (a1 * p0.f0.f0))))) Z u a6 rfl Tryz.underlying24 ck rfl rfl rfl (by omega) rfl (pE.win (Src.buf (k:=1) rfl) d rfl (by omega)) ?_)
 try unfold bF
 try unfold cQ
 try unfold eD
 try unfold am
 try rewrite [← hl_n1650]
 refine bA ?_
 refine fg (dC 0 5) [5] (dC 0 5) fun _ _ _ _ _ sH dd pk=>?_
 refine kQ (.slice (dv af (i64.wrap (a1 * p0.f0.f0)) ((ag : Nat) : Int) 15) ((i64.wrap ((i64.wrap (a2 + 1)) * p0.f0.f0)) - (i64.wrap (a1 * p0.f0.f0))).toNat (((ag : Nat) : Int).toNat - (i64.wrap (a1 * p0.f0.f0)).toNat)) 0 rfl sH fP (h:=bf 1 rfl sH ar (h:=t' (ae (i64.wrap (0 - n9))) 2 rfl sH (ms rfl) ?_))
 obtain⟨⟨R,S,U⟩,H⟩:=aS H
 refine t' (.slice (dv (dv af (i64.wrap (a1 * p0.f0.f0)) ((ag : Nat) : Int) 15) (0 : Int) ((((ag : Nat) : Int).toNat - (i64.wrap (a1 * p0.f0.f0)).toNat : Nat) : Int) 15) ((i64.wrap (0 - n9)) - (0 : Int)).toNat (((((ag : Nat) : Int).toNat - (i64.wrap (a1 * p0.f0.f0)).toNat : Nat) : Int).toNat - (0 : Int).toNat)) 3 rfl sH (dA (l:=0 + (i64.wrap (a1 * p0.f0.f0))) (m:=(i64.wrap ((i64.wrap (a2 + 1)) * p0.f0.f0)) - (i64.wrap (a1 * p0.f0.f0))) (a:=(0 : Int)) (b:=i64.wrap (0 - n9)) (q:=((((ag : Nat) : Int).toNat - (i64.wrap (a1 * p0.f0.f0)).toNat : Nat) : Int)) d Tryz.underlying24 ck rfl rfl rfl rfl (.inl ⟨rfl,rfl⟩) (.inr ⟨_,rfl⟩) (.inl ⟨rfl,rfl⟩) R S U) ?_
 have a7 : ey af (dv (dv af (i64.wrap (a1 * p0.f0.f0)) ((ag : Nat) : Int) 15) (0 : Int) ((((ag : Nat) : Int).toNat - (i64.wrap (a1 * p0.f0.f0)).toNat : Nat) : Int) 15) 15 ((0 + (i64.wrap (a1 * p0.f0.f0))) + (0 : Int)) ((i64.wrap (0 - n9)) - (0 : Int)) (((((ag : Nat) : Int).toNat - (i64.wrap (a1 * p0.f0.f0)).toNat : Nat) : Int).toNat - (0 : Int).toNat):=ey.sub d R S U (.inl rfl) (Int.le_refl _)
 refine r' 4 rfl sH (cm 0) ?_
 obtain⟨b3,a9,H⟩:=ac H
 obtain⟨p,H⟩:=aS H
 refine dT 5 rfl dd (da [1] [0,2,3,4] (fb.ok (o0:=(0 + (i64.wrap (a1 * p0.f0.f0))) + (0 : Int)) (n0:=(i64.wrap (0 - n9)) - (0 : Int)) (A0:=af) (c0:=ag) (V0:=dv (dv af (i64.wrap (a1 * p0.f0.f0)) ((ag : Nat) : Int) 15) (0 : Int) ((((ag : Nat) : Int).toNat - (i64.wrap (a1 * p0.f0.f0)).toNat : Nat) : Int) 15) (v0:=((((ag : Nat) : Int).toNat - (i64.wrap (a1 * p0.f0.f0)).toNat : Nat) : Int).toNat - (0 : Int).toNat) (hw0:=a7) a9) ?_)
 try unfold bF
 try unfold cQ
 try unfold eD
 try unfold am
 try rewrite [← p]
 try unfold bF at sH
 try unfold cQ at sH
 try unfold eD at sH
 try unfold am at sH
 try rewrite [← p] at sH
 refine aV dd sH (aH (by kernel_rfl) ?_)
 have h:=aN H;subst h
 exact fH [2,1,3,4,5] ⟨af,ag,ay,az,au,av,aw,ax,rfl,rfl⟩


def eZ.f (k : Nat) (p0 : aJ) : Option (aJ):=if p0.f1 = p0.f6 then ((dk.f k p0 p0.f5 p0.f6 1 p0.f4).bind (fun a=>some (a))) else (if p0.f1 < (i64.wrap (p0.f0.f1 - 1)) then (some (({ p0 with f1:=(i64.wrap (p0.f1 + 1)) }))) else (some (p0)))
theorem eZ.ok {p0 : aJ} {r : aJ} (H : eZ.f k p0 = some r) : dp Tryz.prog 119 #[.agg #[.pointer (some ⟨bg,0,none⟩)]] (cQ bg p0 af ag ay az au av aw ax) (fun v B=>∃ P0_0_ q0_0_ P0_1_ q0_1_ P0_2_ q0_2_ P0_3_ q0_3_,v = .tuple #[]∧B = (cQ bg r P0_0_ q0_0_ P0_1_ q0_1_ P0_2_ q0_2_ P0_3_ q0_3_)):=by
 refine aj Tryz.func119 rfl rfl ?_
 unfold eZ.f at H
 refine aP (o' (bO (h:=fun y=>bA (aT (ap ?_)))))
 refine fg (dC 0 12) [0,5] (dC 1 4) fun _ _ _ _ _ sH dd pk=>?_
 refine bf 0 rfl sH aA (h:=bN 1 rfl sH (aO 1) (h:=bf 2 rfl sH cL (h:=bf 3 rfl sH aA (h:=bN 4 rfl sH (aO 0) (h:=bf 5 rfl sH aA (h:=bN 6 rfl sH (aO 1) (h:=bf 7 rfl sH cL (h:=bf 8 rfl sH aA (h:=r' 9 rfl sH (aO 0) ?_)))))))))
 refine bf 10 rfl sH (bk rfl rfl) (h:=bf 11 rfl sH aW (h:=aV dd sH (aH (by kernel_rfl) (aa ?_))))
 rcases bD H with⟨b,H⟩|⟨b,H⟩
 ·refine aC rfl b (bQ 2 fun z=>bQ 3 fun D=>bQ 4 fun E=>bQ 5 fun F=>?_)
  refine fg (dC 0 19) [0,1] (dC 2 4) fun _ _ _ _ _ sH dd pk=>?_
  refine bf 0 rfl sH aA (h:=bN 1 rfl sH (aO 1) (h:=bf 2 rfl sH cL (h:=bf 3 rfl sH aA (h:=bf 4 rfl sH aA (h:=bN 5 rfl sH (aO 1) (h:=bf 6 rfl sH cL (h:=bf 7 rfl sH aA (h:=bN 8 rfl sH (aO 0) (h:=T' 9 rfl sH aA ?_)))))))))
  refine bN 10 rfl sH (aO 1) (h:=bf 11 rfl sH cL (h:=bf 12 rfl sH aA (h:=bN 13 rfl sH (aO 0) (h:=bf 14 rfl sH aA (h:=bN 15 rfl sH (aO 1) (h:=bf 16 rfl sH cL (h:=bf 17 rfl sH aA (h:=bN 18 rfl sH (cx bg 6 0 (bF p0.f4)) (h:=aV dd sH ?_)))))))))
  obtain⟨I,o,H⟩:=ac H
  refine eG 19 rfl (ef [0,2,3,4,5] [1] (dk.ok (bg:=bg) o) fun c p d q j s m u=>?_)
  refine aH (by kernel_rfl) (aG ?_)
  have h:=aN H;subst h
  exact fH [0,1,2,3,4] ⟨c,p,d,q,j,s,m,u,rfl,rfl⟩
 refine aB rfl b (ap ?_)
 refine fg (dC 0 14) [0,1] (dC 2 4) fun _ _ _ _ _ sH dd pk=>?_
 refine bf 0 rfl sH aA (h:=bN 1 rfl sH (aO 1) (h:=bf 2 rfl sH cL (h:=bf 3 rfl sH aA (h:=bN 4 rfl sH (aO 0) (h:=bf 5 rfl sH aA (h:=bN 6 rfl sH (aO 1) (h:=bf 7 rfl sH cL (h:=bf 8 rfl sH aA (h:=T' 9 rfl sH aA ?_)))))))))
 refine bN 10 rfl sH (aO 0) (h:=bf 11 rfl sH (cV rfl rfl) (h:=bf 12 rfl sH (cg rfl rfl) (h:=bf 13 rfl sH aW (h:=aV dd sH (aH (by kernel_rfl) (aa (SA.of_St (l:=[(1,aI y),(34,.bool (decide (p0.f1 < (i64.wrap (p0.f0.f1 - 1)))))]) (B:=(aL bg 34 (am p0 af ag ay az au av aw ax)::(bn p0 af ag ay az au av aw ax++[aL y 84 [aI bg]]))) (St.mk1 (cO rfl (cO rfl dY)) (Gh.sel [0,2,3,4,5,1] (by kernel_rfl) (by kernel_rfl))) fun junk=>?_)))))))
 rcases bD H with⟨a,H⟩|⟨a,H⟩
 ·refine aC rfl a (ak (ad aA (h:=bq (aO 5) (h:=ad cL (h:=ad aA (h:=bq (aO 0) (h:=ad (bX rfl rfl) (h:=ad cL (h:=S' aA ?_)))))))))
  refine o' (cJ 0 [ae (i64.wrap (p0.f1 + 1))] (h:=(ah (aG ?_))))
  have h:=aN H;subst h
  exact fH [0,1,2,3,4] ⟨af,ag,ay,az,au,av,aw,ax,rfl,rfl⟩
 refine aB rfl a (ao (aG ?_))
 have h:=aN H;subst h
 exact fH [0,1,2,3,4] ⟨af,ag,ay,az,au,av,aw,ax,rfl,rfl⟩


def dx.f (p0 : aJ) : Option (Int):=lt (i64.wrap (p0.f0.f0 - 1)) fun n8=>some (n8)
theorem dx.ok {p0 : aJ} {r : Int} (H : dx.f p0 = some r) : fU Tryz.prog 120 #[.agg #[.pointer (some ⟨bg,0,none⟩)]] (cQ bg p0 af ag ay az au av aw ax) (ae r):=by
 refine aj Tryz.func120 rfl rfl ?_
 unfold dx.f at H
 refine aP (o' (bO (h:=fun b=>ad aW (h:=cR (ad aA (h:=bq (aO 5) (h:=ad cL (h:=ad aA (h:=ad aA (h:=l' (aO 0) ?_))))))))))
 refine S' (cV rfl rfl) ?_
 obtain⟨n8,a,H⟩:=bi H
 refine bT (ae n8) (bu (v:=ae n8) (congrArg (Value.int .i64) a.symm)) (h:=cD ?_)
 have h:=aN H;subst h
 exact dJ [0,1,2,3,4] ⟨rfl,rfl⟩


def iu.f (a0 : Int) (a1 : Int) (a2 : cN) (p3 : (List ba)) (o3 : Int) (n3 : Int) : Option (Bool):=if 0 ≤ o3∧0 ≤ n3∧o3 + n3 ≤ (p3.length : Int) then (if a0 ≥ 0 then (if a0 < n3 then (if 0 ≤ a0∧a0 < n3 then (if ((rd p3 (o3 + a0)).f2) = a1 then (if 0 ≤ a0∧a0 < n3 then (some (decide (((rd p3 (o3 + a0)).f3) = a2))) else none) else (some (false))) else none) else (some (false))) else (some (false))) else none
theorem iu.ok {a0 : Int} {a1 : Int} {a2 : cN} {p3 : (List ba)} {o3 : Int} {n3 : Int} {A3 V3 : Option Addr} {c3 v3 : Nat} (hw3 : ey A3 V3 15 o3 n3 v3) {r : Bool} (H : iu.f a0 a1 a2 p3 o3 n3 = some r) : fU Tryz.prog 157 #[ae a0,.int .u8 a1,.agg (bF a2).toArray,.pointer (some ⟨vf,0,none⟩)] [aL vf 116 [.slice V3 n3.toNat v3],Buf bI 55 A3 c3 p3] (.bool r):=by
 refine aj Tryz.func157 rfl rfl ?_
 unfold iu.f at H
 obtain⟨⟨E,F,I⟩,H⟩:=aS H
 have hcv_hw3:=hw3.cap
 refine aP (o' (bO (h:=fun J=>ad aW (h:=bA (ap ?_)))))
 refine fg (dC 0 27) [0,1,2] [] fun _ _ _ _ _ sH dd pk=>?_
 refine bf 0 rfl sH ar (h:=bf 1 rfl sH (dU rfl rfl) (h:=T' 2 rfl sH ar ?_))
 rcases bD H with⟨c,H⟩|⟨c,H⟩
 ·refine cU 3 rfl (ai c) sH ar (h:=cH 4 rfl (ai c) sH (aO 0) (h:=ib (ae n3) 5 rfl (ai c) sH (jT hw3 Tryz.underlying116 rfl) (h:=cU 6 rfl (ai c) sH (cg rfl rfl) (h:=bN 7 rfl sH (VR.ofV (bR rfl (ai c) rfl)) (h:=T' 8 rfl sH ar ?_)))))
  rcases bD H with⟨a,H⟩|⟨a,H⟩
  ·refine cH 9 rfl (ai a) sH (aO 0) (h:=kT 10 rfl (ai a) sH ar ?_)
   obtain⟨⟨u,z⟩,H⟩:=aS H
   have B : 0 ≤ o3 + a0:=by omega
   have D : o3 + a0 < (p3.length : Int):=by omega
   refine cH 11 rfl (ai a) sH (eQ (l:=o3) (m:=n3) (i:=a0) (sz:=15) hw3 Tryz.underlying116 ck rfl rfl (Src.buf (k:=1) rfl) u z (by omega)) (h:=ib (.pointer (some ((el A3 ((o3 + a0).toNat * 15)).add 4))) 12 rfl (ai a) sH (lL (el A3 ((o3 + a0).toNat * 15)) 0 4) (h:=cH 13 rfl (ai a) sH (bE (enc:=cZ) (i:=o3 + a0) (j:=(o3 + a0).toNat * 15) (m:=4) (sz:=15) Tryz.underlying5 rfl rfl rfl rfl (Src.buf (k:=1) rfl) B D (fun _ _ h=>h) rfl) (h:=cU 14 rfl (ai a) sH ar (h:=cU 15 rfl (ai a) sH (bk rfl rfl) (h:=bN 16 rfl sH (VR.ofV (bR rfl (ai a) rfl)) (h:=T' 17 rfl sH ar ?_))))))
   rcases bD H with⟨b,H⟩|⟨b,H⟩
   ·refine cH 18 rfl (ai b) sH (aO 0) (h:=kT 19 rfl (ai b) sH ar ?_)
    obtain⟨⟨d,o⟩,H⟩:=aS H
    have q : 0 ≤ o3 + a0:=by omega
    have s : o3 + a0 < (p3.length : Int):=by omega
    refine cH 20 rfl (ai b) sH (eQ (l:=o3) (m:=n3) (i:=a0) (sz:=15) hw3 Tryz.underlying116 ck rfl rfl (Src.buf (k:=1) rfl) d o (by omega)) (h:=ib (.pointer (some ((el A3 ((o3 + a0).toNat * 15)).add 5))) 21 rfl (ai b) sH (lL (el A3 ((o3 + a0).toNat * 15)) 0 5) (h:=cH 22 rfl (ai b) sH (cf (enc:=cZ) (i:=o3 + a0) (j:=(o3 + a0).toNat * 15) (m:=5) (sz:=15) (vs:=(bF ((rd p3 (o3 + a0)).f3))) Tryz.underlying28 rfl mf rfl rfl rfl (Src.buf (k:=1) rfl) q s (fun _ _ h=>h) rfl) (h:=cH 23 rfl (ai b) sH (cm 2) (h:=ib (.bool (decide (((rd p3 (o3 + a0)).f3) = a2))) 24 rfl (ai b) sH (kC (xs:=(bF ((rd p3 (o3 + a0)).f3))) (ys:=(bF a2)) (r:=(((((rd p3 (o3 + a0)).f3).f0) == a2.f0) && (((((rd p3 (o3 + a0)).f3).f1) == a2.f1) && (((((rd p3 (o3 + a0)).f3).f2) == a2.f2) && (((((rd p3 (o3 + a0)).f3).f3) == a2.f3) && (((((rd p3 (o3 + a0)).f3).f4) == a2.f4) && (((((rd p3 (o3 + a0)).f3).f5) == a2.f5) && (((((rd p3 (o3 + a0)).f3).f6) == a2.f6) && (((((rd p3 (o3 + a0)).f3).f7) == a2.f7) && (((((rd p3 (o3 + a0)).f3).f8) == a2.f8) && (((((rd p3 (o3 + a0)).f3).f9) == a2.f9) && true))))))))))) (p:=((rd p3 (o3 + a0)).f3) = a2) lh rfl rfl (by kernel_rfl) (lj (x:=((rd p3 (o3 + a0)).f3)) (y:=a2))) (h:=bN 25 rfl sH (VR.ofV (bR rfl (ai b) rfl)) (h:=bf 26 rfl sH aW (h:=aV dd sH (aH (by kernel_rfl) (aa (eM ?_))))))))))
    have h:=aN H;subst h
    exact dJ [0,1] ⟨rfl,rfl⟩
   refine bM 18 rfl (al b) (bM 19 rfl (al b) (bM 20 rfl (al b) (bM 21 rfl (al b) (bM 22 rfl (al b) (bM 23 rfl (al b) (bM 24 rfl (al b) (bN 25 rfl sH (VR.ofV (bL rfl (al b) rfl)) (h:=bf 26 rfl sH aW (h:=aV dd sH ?_)))))))))
   refine aH (by kernel_rfl) (aa (eM ?_))
   have h:=aN H;subst h
   exact dJ [0,1] ⟨rfl,rfl⟩
  refine bM 9 rfl (al a) (bM 10 rfl (al a) (bM 11 rfl (al a) (bM 12 rfl (al a) (bM 13 rfl (al a) (bM 14 rfl (al a) (bM 15 rfl (al a) (bN 16 rfl sH (VR.ofV (bL rfl (al a) rfl)) (h:=bf 17 rfl sH ar (h:=bM 18 rfl rfl ?_)))))))))
  refine bM 19 rfl rfl (bM 20 rfl rfl (bM 21 rfl rfl (bM 22 rfl rfl (bM 23 rfl rfl (bM 24 rfl rfl (bN 25 rfl sH (VR.ofV (bL rfl (rfl) rfl)) (h:=bf 26 rfl sH aW (h:=aV dd sH (aH (by kernel_rfl) ?_)))))))))
  refine aa (eM ?_)
  have h:=aN H;subst h
  exact dJ [0,1] ⟨rfl,rfl⟩
 refine bM 3 rfl (al c) (bM 4 rfl (al c) (bM 5 rfl (al c) (bM 6 rfl (al c) (bN 7 rfl sH (VR.ofV (bL rfl (al c) rfl)) (h:=bf 8 rfl sH ar (h:=bM 9 rfl rfl (bM 10 rfl rfl (bM 11 rfl rfl (bM 12 rfl rfl ?_)))))))))
 refine bM 13 rfl rfl (bM 14 rfl rfl (bM 15 rfl rfl (bN 16 rfl sH (VR.ofV (bL rfl (rfl) rfl)) (h:=bf 17 rfl sH ar (h:=bM 18 rfl rfl (bM 19 rfl rfl (bM 20 rfl rfl (bM 21 rfl rfl (bM 22 rfl rfl ?_)))))))))
 refine bM 23 rfl rfl (bM 24 rfl rfl (bN 25 rfl sH (VR.ofV (bL rfl (rfl) rfl)) (h:=bf 26 rfl sH aW (h:=aV dd sH (aH (by kernel_rfl) (aa (eM ?_)))))))
 have h:=aN H;subst h
 exact dJ [0,1] ⟨rfl,rfl⟩


def ei.l0 (l0 : (List ba)) (o0 : Int) (n0 : Int) : Nat → Int → (List ba) → Option ((List ba))
  | 0,_,_=>none
  | k + 1,b,a=>if a.length = l0.length then (if b < n0 then (if 0 ≤ b∧b < n0 then ((if ((rd a (o0 + b)).f2) = 2 then ((iu.f (i64.wrap (b + 1)) 0 ((rd a (o0 + b)).f3) a o0 n0).bind (fun l=>some (!l))) else (some false) : Option Bool).bind (fun h=>(if h = true then (some true) else (if ((rd a (o0 + b)).f2) = 0 then ((iu.f (i64.wrap (b - 1)) 2 ((rd a (o0 + b)).f3) a o0 n0).bind (fun m=>some (!m))) else (some false)) : Option Bool).bind (fun j=>if j = true then ((nE.f ((rd a (o0 + b)).f3)).bind (fun d=>if 0 ≤ b∧b < n0 then (lt (a.set (o0 + b).toNat d) fun c=>(ei.l0 l0 o0 n0 k (i64.wrap (b + 1)) c)) else none)) else (ei.l0 l0 o0 n0 k (i64.wrap (b + 1)) a)))) else none) else (some a)) else none
def ei.f (k : Nat) (l0 : (List ba)) (o0 : Int) (n0 : Int) : Option ((List ba)):=if 0 ≤ o0∧0 ≤ n0∧o0 + n0 ≤ (l0.length : Int) then ((ei.l0 l0 o0 n0 k 0 l0 : Option ((List ba))).bind (fun a=>if a.length = l0.length then (some (a)) else none)) else none
theorem ei.ok {l0 : (List ba)} {o0 : Int} {n0 : Int} {A0 V0 : Option Addr} {c0 v0 : Nat} (hw0 : ey A0 V0 15 o0 n0 v0) {r : (List ba)} (H : ei.f k l0 o0 n0 = some r) : dp Tryz.prog 136 #[.slice V0 n0.toNat v0] [Buf bI 55 A0 c0 l0] (fun v B=>v = .tuple #[]∧B = [Buf bI 55 A0 c0 r]):=by
 refine aj Tryz.func136 rfl rfl ?_
 unfold ei.f at H
 obtain⟨⟨a7,a8,a9⟩,H⟩:=aS H
 have hcv_hw0:=hw0.cap
 refine aP (o' (bO (h:=fun p=>cR (bT (.func (.func 157) #[] #[aI p]) (dP (us:=[aI p]) rfl) (h:=ad aW (h:=cR (bq (aO 1) (h:=bT (ae n0) (jT hw0 Tryz.underlying116 rfl) (h:=ad ar (h:=bA ?_))))))))))
 obtain⟨Y,H,I⟩:=ac H
 refine bK (St [] [Buf bI 55 A0 c0 Y]) ?_ ?_
 ·refine aT (cl (fun k_ e ds As=>∃ (b : Int) (a : (List ba)),ei.l0 l0 o0 n0 k_ b a = some Y∧St [(1,aI p),(2,.func (.func 157) #[] #[aI p]),(6,.slice V0 n0.toNat v0),(7,ae n0),(8,ae b)] [Buf bI 55 A0 c0 a,aL p 116 [.slice V0 n0.toNat v0]] e ds As) (k:=k) ⟨_,_,H,jQ [0,1]⟩ ?_)
  clear H
  rintro F e ds As ⟨b,a,H,S⟩
  obtain _ | F:=F
  ·cases H
  rw [ei.l0] at H
  obtain⟨a5,H⟩:=aS H
  refine SA.of_St S fun junk=>aP (ad (cg rfl rfl) (h:=bA (ap ?_)))
  rcases bD H with⟨R,H⟩|⟨R,H⟩
  ·refine aC rfl R (ao (aa (ap (aT (aP (S' ar ?_))))))
   obtain⟨⟨g8,g9⟩,H⟩:=aS H
   have a1 : 0 ≤ o0 + b:=by omega
   have a2 : o0 + b < (a.length : Int):=by omega
   refine bq (eQ (l:=o0) (m:=n0) (i:=b) (sz:=15) hw0 Tryz.underlying116 ck rfl rfl (Src.buf (k:=0) rfl) g8 g9 (by omega)) (h:=bq (cf (enc:=cZ) (i:=o0 + b) (j:=(o0 + b).toNat * 15) (m:=0) (sz:=15) (vs:=(bW (ba.mk ((rd a (o0 + b)).f0) ((rd a (o0 + b)).f1) ((rd a (o0 + b)).f2) ((rd a (o0 + b)).f3)))) Tryz.underlying55 rfl ck rfl rfl rfl (Src.buf (k:=0) rfl) a1 a2 (fun _ _ h=>h) rfl) (h:=o' (cC (h:=fun q=>ad aW (h:=o' (bj q 0 2 (bW (ba.mk ((rd a (o0 + b)).f0) ((rd a (o0 + b)).f1) ((rd a (o0 + b)).f2) ((rd a (o0 + b)).f3))) (h:=cR (ad aA (h:=bq (aO 2) (h:=ad (bk rfl rfl) (h:=S' ar ?_)))))))))))
   obtain⟨a3,H,J⟩:=ac H
   refine dy 8 [(1,aI p),(2,.func (.func 157) #[] #[aI p]),(3,ae b),(4,aI q),(6,.slice V0 n0.toNat v0),(7,ae n0),(8,ae b),(24,.bool a3)] [Buf bI 55 A0 c0 a,aL p 116 [.slice V0 n0.toNat v0],aL q 55 (bW (ba.mk ((rd a (o0 + b)).f0) ((rd a (o0 + b)).f1) ((rd a (o0 + b)).f2) ((rd a (o0 + b)).f3)))] ?_ fun junk=>?_
   ·rcases bD H with⟨d,H⟩|⟨d,H⟩
    ·refine aZ (ai d) ar (h:=aZ (ai d) ar (h:=aZ (ai d) (bX rfl rfl) (h:=aZ (ai d) aA (h:=z' (ai d) (cx q 5 2 (bF ((rd a (o0 + b)).f3))) ?_))))
     obtain⟨b0,Z,H⟩:=ac H
     refine fR (ai d) (re [1,0] [2] (jj (vs:=[ae (i64.wrap (b + 1)),.int .u8 0,.agg (bF ((rd a (o0 + b)).f3)).toArray]) (cap:=[aI p]) rfl Tryz.func157 wc rfl rfl) (iu.ok (vf:=p) (o3:=o0) (n3:=n0) (A3:=A0) (c3:=c0) (V3:=V0) (v3:=v0) (hw3:=hw0) Z) ?_)
     rintro _ _⟨rfl,rfl⟩
     refine aZ (ai d) (bU rfl) (h:=gJ (ai d) ?_)
     have h:=aN H;subst h
     exact dQ [1,0,2]
    refine ct 7 (al d) (fZ (al d) ?_)
    have h:=aN H;subst h
    exact dQ [0,1,2]
   replace H:=J
   refine S' ar ?_
   obtain⟨a4,H,u⟩:=ac H
   refine cI 13 (St [(1,aI p),(2,.func (.func 157) #[] #[aI p]),(3,ae b),(4,aI q),(6,.slice V0 n0.toNat v0),(7,ae n0),(8,ae b),(38,.bool a4)] [Buf bI 55 A0 c0 a,aL p 116 [.slice V0 n0.toNat v0],aL q 55 (bW (ba.mk ((rd a (o0 + b)).f0) ((rd a (o0 + b)).f1) ((rd a (o0 + b)).f2) ((rd a (o0 + b)).f3)))]) ?_ ?_
   ·rcases bD H with⟨c,H⟩|⟨c,H⟩
    ·refine ct 4 c (fY (fY (fY (fY (fY (fY (fY (ct 1 c (gJ c ?_)))))))))
     have h:=aN H;subst h
     exact dQ [0,1,2]
    refine aZ (aK c) aA (h:=cn (aK c) (aO 2) (h:=aZ (aK c) (bk rfl rfl) (h:=Y' (aK c) ar ?_)))
    rcases bD H with⟨o,H⟩|⟨o,H⟩
    ·refine aZ (ai o) ar (h:=aZ (ai o) ar (h:=aZ (ai o) (cV rfl rfl) (h:=aZ (ai o) aA (h:=z' (ai o) (cx q 5 2 (bF ((rd a (o0 + b)).f3))) ?_))))
     obtain⟨b1,a0,H⟩:=ac H
     refine fR (ai o) (re [1,0] [2] (jj (vs:=[ae (i64.wrap (b - 1)),.int .u8 2,.agg (bF ((rd a (o0 + b)).f3)).toArray]) (cap:=[aI p]) rfl Tryz.func157 wc rfl rfl) (iu.ok (vf:=p) (o3:=o0) (n3:=n0) (A3:=A0) (c3:=c0) (V3:=V0) (v3:=v0) (hw3:=hw0) a0) ?_)
     rintro _ _⟨rfl,rfl⟩
     refine aZ (ai o) (bU rfl) (h:=fR (aK c) (dB rfl (bR rfl (ai o) rfl) (fZ (aK c) ?_)))
     have h:=aN H;subst h
     exact dQ [1,0,2]
    refine ct 7 (al o) (fR (aK c) (dB rfl (bL rfl (al o) rfl) (fZ (aK c) ?_)))
    have h:=aN H;subst h
    exact dQ [0,1,2]
   rintro e ds As E
   clear H
   have H:=u
   clear u
   refine bA (SA.of_St E fun junk=>?_)
   rcases bD H with⟨y,H⟩|⟨y,H⟩
   ·refine aD rfl y ?_
    refine fg [0,1,2,3,5] [0,1,2] [] fun _ _ _ _ _ sH dd pk=>?_
    refine bN 0 rfl sH (aO 1) (h:=bf 1 rfl sH ar (h:=bf 2 rfl sH aA (h:=r' 3 rfl sH (cx q 5 2 (bF ((rd a (o0 + b)).f3))) ?_)))
    obtain⟨D,K,H⟩:=ac H
    refine dT 4 rfl dd (da [] [] (nE.ok K) ?_)
    obtain⟨⟨L,M⟩,H⟩:=aS H
    have N : 0 ≤ o0 + b:=by omega
    have O : o0 + b < (a.length : Int):=by omega
    refine bN 5 rfl sH (eQ (l:=o0) (m:=n0) (i:=b) (sz:=15) hw0 Tryz.underlying116 ck rfl rfl (Src.buf (k:=0) rfl) L M (by omega)) (h:=aV dd sH ?_)
    obtain⟨U,s,H⟩:=bi H
    have hl_n386 : U.length = a.length:=by rw [s]; exact List.length_set
    refine eG 6 rfl (iG (k:=0) (i:=o0 + b) (j:=(o0 + b).toNat * 15) (m:=0) (sz:=15) (xs:=a) (vs:=(bW D)) D rfl rfl rfl rfl rfl rfl rfl rfl ck N O rfl (fun _ _ h_=>by subst h_; rfl) ?_)
    rewrite [← s]
    try rewrite [← hl_n386]
    refine aH (by kernel_rfl) (aG (aa (ak (ad (bX rfl rfl) (h:=ad ar (h:=ah ?_))))))
    exact aa ⟨F,Nat.lt_succ_self _,_,_,H,eb [0,1]⟩
   refine aE rfl y (ao (aG (aa (ak (ad (bX rfl rfl) (h:=ad ar (h:=ah ?_)))))))
   exact aa ⟨F,Nat.lt_succ_self _,_,_,H,eb [0,1]⟩
  refine aB rfl R (ci (aX (aX (cj ?_))))
  have h:=aN H;subst h
  exact bH [0]
 rintro e ds As z
 clear H
 have H:=I
 clear I
 obtain⟨a6,H⟩:=aS H
 have h:=aN H;subst h
 exact nD z [Buf bI 55 A0 c0 Y] rfl (fk [0]) ⟨rfl,rfl⟩


def jb.f (k : Nat) (l0 : (List ba)) (o0 : Int) (n0 : Int) (a1 : Int) (a2 : Int) (a3 : cN) : Option ((List ba)):=if 0 ≤ o0∧0 ≤ n0∧o0 + n0 ≤ (l0.length : Int) then (if 0 ≤ a1∧a1 ≤ n0∧n0 ≤ n0 then (lt (fE (i64.wrap (0 - (n0 - a1))) (dm a2 (n0 - a1))) fun n11=>if n11 ≥ 0 then (if 0 ≤ n11∧n11 ≤ (n0 - a1)∧(n0 - a1) ≤ (n0 - a1) then (lt (bB l0 ((o0 + a1) + n11).toNat ((sub l0 (o0 + a1) ((o0 + a1) + (n0 - a1))).take ((n0 - a1) - n11).toNat)) fun n19=>(if 0 ≤ (0 : Int)∧(0 : Int) ≤ n11∧n11 ≤ (n0 - a1) then ((fb.f k n19 ((o0 + a1) + (0 : Int)) (n11 - (0 : Int)) a3).bind (fun a=>if a.length = n19.length then ((ei.f k a o0 n0).bind (fun d=>if d.length = a.length then (some (d)) else none)) else none)) else none)) else none) else (if 0 ≤ (i64.wrap (0 - n11))∧(i64.wrap (0 - n11)) ≤ (n0 - a1)∧(n0 - a1) ≤ (n0 - a1) then (lt (bB l0 (o0 + a1).toNat ((sub l0 ((o0 + a1) + (i64.wrap (0 - n11))) (((o0 + a1) + (i64.wrap (0 - n11))) + ((n0 - a1) - (i64.wrap (0 - n11))))).take (n0 - a1).toNat)) fun c=>(if 0 ≤ (i64.wrap ((n0 - a1) + n11))∧(i64.wrap ((n0 - a1) + n11)) ≤ (n0 - a1)∧(n0 - a1) ≤ (n0 - a1) then ((fb.f k c ((o0 + a1) + (i64.wrap ((n0 - a1) + n11))) ((n0 - a1) - (i64.wrap ((n0 - a1) + n11))) a3).bind (fun b=>if b.length = c.length then ((ei.f k b o0 n0).bind (fun h=>if h.length = b.length then (some (h)) else none)) else none)) else none)) else none)) else none) else none
theorem jb.ok {l0 : (List ba)} {o0 : Int} {n0 : Int} {a1 : Int} {a2 : Int} {a3 : cN} {A0 V0 : Option Addr} {c0 v0 : Nat} (hw0 : ey A0 V0 15 o0 n0 v0) {r : (List ba)} (H : jb.f k l0 o0 n0 a1 a2 a3 = some r) : dp Tryz.prog 122 #[.slice V0 n0.toNat v0,ae a1,ae a2,.agg (bF a3).toArray] [Buf bI 55 A0 c0 l0] (fun v B=>v = .tuple #[]∧B = [Buf bI 55 A0 c0 r]):=by
 refine aj Tryz.func122 rfl rfl ?_
 unfold jb.f at H
 obtain⟨⟨b1,b3,b4⟩,H⟩:=aS H
 have hcv_hw0:=hw0.cap
 refine aP (o' (bO (h:=fun b2=>bA (ap (bQ 0 fun b7=>ak (ad ar (h:=S' ar ?_)))))))
 obtain⟨⟨g5,g6,g7⟩,H⟩:=aS H
 refine s' (.slice (dv V0 a1 ((v0 : Nat) : Int) 15) (n0 - a1).toNat (((v0 : Nat) : Int).toNat - a1.toNat)) (dA (l:=o0) (m:=n0) (a:=a1) (b:=n0) (q:=((v0 : Nat) : Int)) hw0 Tryz.underlying116 ck rfl rfl rfl rfl (.inr ⟨_,rfl⟩) (.inl ⟨rfl,rfl,rfl⟩) (.inl ⟨rfl,rfl⟩) g5 g6 g7) ?_
 have c : ey A0 (dv V0 a1 ((v0 : Nat) : Int) 15) 15 (o0 + a1) (n0 - a1) (((v0 : Nat) : Int).toNat - a1.toNat):=ey.sub hw0 g5 g6 g7 (.inl rfl) (Int.le_refl _)
 refine bT (.slice (dv V0 a1 ((v0 : Nat) : Int) 15) (n0 - a1).toNat (((v0 : Nat) : Int).toNat - a1.toNat)) rR (h:=cR (bT (.slice (dv V0 a1 ((v0 : Nat) : Int) 15) (n0 - a1).toNat (((v0 : Nat) : Int).toNat - a1.toNat)) fP (h:=bT (ae (n0 - a1)) (jT c Tryz.underlying116 rfl) (h:=bT (ae (i64.wrap (0 - (n0 - a1)))) (ms rfl) (h:=ad ar (h:=bT (.slice (dv V0 a1 ((v0 : Nat) : Int) 15) (n0 - a1).toNat (((v0 : Nat) : Int).toNat - a1.toNat)) fP (h:=bT (ae (n0 - a1)) (jT c Tryz.underlying116 rfl) (h:=bT (ae (dm a2 (n0 - a1))) (jL rfl rfl) (h:=s' (ae (fE (i64.wrap (0 - (n0 - a1))) (dm a2 (n0 - a1)))) (nN rfl rfl) ?_)))))))))
 obtain⟨n11,a8,H⟩:=bi H
 refine bT (ae n11) (bu (v:=ae n11) (congrArg (Value.int .i64) a8.symm)) (h:=eA (ad ar (h:=ad (dU rfl rfl) (h:=bA ?_))))
 rcases bD H with⟨J,H⟩|⟨J,H⟩
 ·refine aC rfl J (aP (bT (.slice (dv V0 a1 ((v0 : Nat) : Int) 15) (n0 - a1).toNat (((v0 : Nat) : Int).toNat - a1.toNat)) fP (h:=S' ar ?_)))
  obtain⟨⟨U,Y,Z⟩,H⟩:=aS H
  refine s' (.slice (dv (dv V0 a1 ((v0 : Nat) : Int) 15) n11 ((((v0 : Nat) : Int).toNat - a1.toNat : Nat) : Int) 15) ((n0 - a1) - n11).toNat (((((v0 : Nat) : Int).toNat - a1.toNat : Nat) : Int).toNat - n11.toNat)) (dA (l:=o0 + a1) (m:=n0 - a1) (a:=n11) (b:=n0 - a1) (q:=((((v0 : Nat) : Int).toNat - a1.toNat : Nat) : Int)) c Tryz.underlying116 ck rfl rfl rfl rfl (.inr ⟨_,rfl⟩) (.inl ⟨rfl,rfl,rfl⟩) (.inl ⟨rfl,rfl⟩) U Y Z) ?_
  have a7 : ey A0 (dv (dv V0 a1 ((v0 : Nat) : Int) 15) n11 ((((v0 : Nat) : Int).toNat - a1.toNat : Nat) : Int) 15) 15 ((o0 + a1) + n11) ((n0 - a1) - n11) (((((v0 : Nat) : Int).toNat - a1.toNat : Nat) : Int).toNat - n11.toNat):=ey.sub c U Y Z (.inl rfl) (Int.le_refl _)
  refine s' (.slice (dv V0 a1 ((v0 : Nat) : Int) 15) (n0 - a1).toNat (((v0 : Nat) : Int).toNat - a1.toNat)) fP ?_
  obtain⟨n19,K,H⟩:=bi H
  have hl_n19 : n19.length = l0.length:=by rw [K]; exact eU (by rw [List.length_take]; omega)
  refine o' (gn (k:=0) (l:=(o0 + a1) + n11) (m:=(n0 - a1) - n11) (xs:=l0) (ys:=sub l0 (o0 + a1) ((o0 + a1) + (n0 - a1))) n19 K a7 rfl Tryz.underlying116 ck rfl rfl rfl (by omega) rfl (pE.win (Src.buf (k:=0) rfl) c rfl (by omega)) ?_)
  try unfold bF
  try rewrite [← hl_n19]
  refine bA ?_
  refine fg (dC 0 4) [1] [0] fun _ _ _ _ _ sH dd pk=>?_
  refine kQ (.slice (dv V0 a1 ((v0 : Nat) : Int) 15) (n0 - a1).toNat (((v0 : Nat) : Int).toNat - a1.toNat)) 0 rfl sH fP (h:=T' 1 rfl sH ar ?_)
  obtain⟨⟨p,s,u⟩,H⟩:=aS H
  refine t' (.slice (dv (dv V0 a1 ((v0 : Nat) : Int) 15) (0 : Int) ((((v0 : Nat) : Int).toNat - a1.toNat : Nat) : Int) 15) (n11 - (0 : Int)).toNat (((((v0 : Nat) : Int).toNat - a1.toNat : Nat) : Int).toNat - (0 : Int).toNat)) 2 rfl sH (dA (l:=o0 + a1) (m:=n0 - a1) (a:=(0 : Int)) (b:=n11) (q:=((((v0 : Nat) : Int).toNat - a1.toNat : Nat) : Int)) c Tryz.underlying116 ck rfl rfl rfl rfl (.inl ⟨rfl,rfl⟩) (.inr ⟨_,rfl⟩) (.inl ⟨rfl,rfl⟩) p s u) ?_
  have M : ey A0 (dv (dv V0 a1 ((v0 : Nat) : Int) 15) (0 : Int) ((((v0 : Nat) : Int).toNat - a1.toNat : Nat) : Int) 15) 15 ((o0 + a1) + (0 : Int)) (n11 - (0 : Int)) (((((v0 : Nat) : Int).toNat - a1.toNat : Nat) : Int).toNat - (0 : Int).toNat):=ey.sub c p s u (.inl rfl) (Int.le_refl _)
  refine r' 3 rfl sH (cm 0) ?_
  obtain⟨a9,a0,H⟩:=ac H
  obtain⟨d,H⟩:=aS H
  refine dT 4 rfl dd (da [0] [] (fb.ok (o0:=(o0 + a1) + (0 : Int)) (n0:=n11 - (0 : Int)) (A0:=A0) (c0:=c0) (V0:=dv (dv V0 a1 ((v0 : Nat) : Int) 15) (0 : Int) ((((v0 : Nat) : Int).toNat - a1.toNat : Nat) : Int) 15) (v0:=((((v0 : Nat) : Int).toNat - a1.toNat : Nat) : Int).toNat - (0 : Int).toNat) (hw0:=M) a0) ?_)
  try unfold bF
  try rewrite [← d]
  try unfold bF at sH
  try rewrite [← d] at sH
  refine aV dd sH (aH (by kernel_rfl) (aa (SA.of_St (l:=[(0,.slice V0 n0.toNat v0)]) (B:=[Buf bI 55 A0 c0 a9]) (St.mk1 (cO rfl dY) (Gh.sel [1] (by kernel_rfl) (by kernel_rfl))) fun junk=>ak (S' ar ?_))))
  obtain⟨b5,a4,H⟩:=ac H
  obtain⟨R,H⟩:=aS H
  refine o' (da [0] [] (ei.ok (o0:=o0) (n0:=n0) (A0:=A0) (c0:=c0) (V0:=V0) (v0:=v0) (hw0:=hw0) a4) ?_)
  try unfold bF
  try rewrite [← R]
  refine ah ?_
  have h:=aN H;subst h
  exact fH [0] ⟨rfl,rfl⟩
 refine aB rfl J (aP (bT (.slice (dv V0 a1 ((v0 : Nat) : Int) 15) (n0 - a1).toNat (((v0 : Nat) : Int).toNat - a1.toNat)) fP (h:=bT (.slice (dv V0 a1 ((v0 : Nat) : Int) 15) (n0 - a1).toNat (((v0 : Nat) : Int).toNat - a1.toNat)) fP (h:=ad ar (h:=s' (ae (i64.wrap (0 - n11))) (ms rfl) ?_)))))
 obtain⟨⟨y,z,D⟩,H⟩:=aS H
 refine s' (.slice (dv (dv V0 a1 ((v0 : Nat) : Int) 15) (i64.wrap (0 - n11)) ((((v0 : Nat) : Int).toNat - a1.toNat : Nat) : Int) 15) ((n0 - a1) - (i64.wrap (0 - n11))).toNat (((((v0 : Nat) : Int).toNat - a1.toNat : Nat) : Int).toNat - (i64.wrap (0 - n11)).toNat)) (dA (l:=o0 + a1) (m:=n0 - a1) (a:=i64.wrap (0 - n11)) (b:=n0 - a1) (q:=((((v0 : Nat) : Int).toNat - a1.toNat : Nat) : Int)) c Tryz.underlying116 ck rfl rfl rfl rfl (.inr ⟨_,rfl⟩) (.inl ⟨rfl,rfl,rfl⟩) (.inl ⟨rfl,rfl⟩) y z D) ?_
 have N : ey A0 (dv (dv V0 a1 ((v0 : Nat) : Int) 15) (i64.wrap (0 - n11)) ((((v0 : Nat) : Int).toNat - a1.toNat : Nat) : Int) 15) 15 ((o0 + a1) + (i64.wrap (0 - n11))) ((n0 - a1) - (i64.wrap (0 - n11))) (((((v0 : Nat) : Int).toNat - a1.toNat : Nat) : Int).toNat - (i64.wrap (0 - n11)).toNat):=ey.sub c y z D (.inl rfl) (Int.le_refl _)
 obtain⟨L,o,H⟩:=bi H
 have hl_n330 : L.length = l0.length:=by rw [o]; exact eU (by rw [List.length_take]; omega)
 refine o' (gn (k:=0) (l:=o0 + a1) (m:=n0 - a1) (xs:=l0) (ys:=sub l0 ((o0 + a1) + (i64.wrap (0 - n11))) (((o0 + a1) + (i64.wrap (0 - n11))) + ((n0 - a1) - (i64.wrap (0 - n11))))) L o c rfl Tryz.underlying116 ck rfl rfl rfl (by omega) rfl (pE.win (Src.buf (k:=0) rfl) N rfl (by omega)) ?_)
 try unfold bF
 try rewrite [← hl_n330]
 refine bA ?_
 refine fg (dC 0 7) [1] [0] fun _ _ _ _ _ sH dd pk=>?_
 refine kQ (.slice (dv V0 a1 ((v0 : Nat) : Int) 15) (n0 - a1).toNat (((v0 : Nat) : Int).toNat - a1.toNat)) 0 rfl sH fP (h:=kQ (.slice (dv V0 a1 ((v0 : Nat) : Int) 15) (n0 - a1).toNat (((v0 : Nat) : Int).toNat - a1.toNat)) 1 rfl sH fP (h:=kQ (ae (n0 - a1)) 2 rfl sH (jT c Tryz.underlying116 rfl) (h:=bf 3 rfl sH ar (h:=T' 4 rfl sH (bX rfl rfl) ?_))))
 obtain⟨⟨E,F,I⟩,H⟩:=aS H
 refine t' (.slice (dv (dv V0 a1 ((v0 : Nat) : Int) 15) (i64.wrap ((n0 - a1) + n11)) ((((v0 : Nat) : Int).toNat - a1.toNat : Nat) : Int) 15) ((n0 - a1) - (i64.wrap ((n0 - a1) + n11))).toNat (((((v0 : Nat) : Int).toNat - a1.toNat : Nat) : Int).toNat - (i64.wrap ((n0 - a1) + n11)).toNat)) 5 rfl sH (dA (l:=o0 + a1) (m:=n0 - a1) (a:=i64.wrap ((n0 - a1) + n11)) (b:=n0 - a1) (q:=((((v0 : Nat) : Int).toNat - a1.toNat : Nat) : Int)) c Tryz.underlying116 ck rfl rfl rfl rfl (.inr ⟨_,rfl⟩) (.inl ⟨rfl,rfl,rfl⟩) (.inl ⟨rfl,rfl⟩) E F I) ?_
 have O : ey A0 (dv (dv V0 a1 ((v0 : Nat) : Int) 15) (i64.wrap ((n0 - a1) + n11)) ((((v0 : Nat) : Int).toNat - a1.toNat : Nat) : Int) 15) 15 ((o0 + a1) + (i64.wrap ((n0 - a1) + n11))) ((n0 - a1) - (i64.wrap ((n0 - a1) + n11))) (((((v0 : Nat) : Int).toNat - a1.toNat : Nat) : Int).toNat - (i64.wrap ((n0 - a1) + n11)).toNat):=ey.sub c E F I (.inl rfl) (Int.le_refl _)
 refine r' 6 rfl sH (cm 0) ?_
 obtain⟨b0,a5,H⟩:=ac H
 obtain⟨j,H⟩:=aS H
 refine dT 7 rfl dd (da [0] [] (fb.ok (o0:=(o0 + a1) + (i64.wrap ((n0 - a1) + n11))) (n0:=(n0 - a1) - (i64.wrap ((n0 - a1) + n11))) (A0:=A0) (c0:=c0) (V0:=dv (dv V0 a1 ((v0 : Nat) : Int) 15) (i64.wrap ((n0 - a1) + n11)) ((((v0 : Nat) : Int).toNat - a1.toNat : Nat) : Int) 15) (v0:=((((v0 : Nat) : Int).toNat - a1.toNat : Nat) : Int).toNat - (i64.wrap ((n0 - a1) + n11)).toNat) (hw0:=O) a5) ?_)
 try unfold bF
 try rewrite [← j]
 try unfold bF at sH
 try rewrite [← j] at sH
 refine aV dd sH (aH (by kernel_rfl) (aa (SA.of_St (l:=[(0,.slice V0 n0.toNat v0)]) (B:=[Buf bI 55 A0 c0 b0]) (St.mk1 (cO rfl dY) (Gh.sel [1] (by kernel_rfl) (by kernel_rfl))) fun junk=>ak (S' ar ?_))))
 obtain⟨b6,a6,H⟩:=ac H
 obtain⟨S,H⟩:=aS H
 refine o' (da [0] [] (ei.ok (o0:=o0) (n0:=n0) (A0:=A0) (c0:=c0) (V0:=V0) (v0:=v0) (hw0:=hw0) a6) ?_)
 try unfold bF
 try rewrite [← S]
 refine ah ?_
 have h:=aN H;subst h
 exact fH [0] ⟨rfl,rfl⟩


def qP.f (a0 : cN) (a1 : Int) : Option ((List ba)):=if a1 ≠ 2 then (some (([] : (List ba)))) else (some (([(ba.mk 0 (fX.mk 0 0 0) 0 a0)] : (List ba))))
theorem qP.ok {a0 : cN} {a1 : Int} {r : (List ba)} (H : qP.f a0 a1 = some r) : dp Tryz.prog 152 #[.agg (bF a0).toArray,ae a1] [] (fun v B=>∃ aQ aR,v = .slice aQ r.length aR∧B = [Buf bI 55 aQ aR r]):=by
 refine aj Tryz.func152 rfl rfl ?_
 unfold qP.f at H
 refine aP (o' (bO (h:=fun c=>ad aW (h:=eA (ad ar (h:=ad (dt rfl rfl) (h:=bA ?_)))))))
 rcases bD H with⟨a,H⟩|⟨a,H⟩
 ·refine aC rfl a (aP (ad aW (h:=cA ?_)))
  have h:=aN H;subst h
  exact mi [Buf bI 55 none 0 ([] : (List ba))] rfl rfl ((Gh.nilBuf bI 55).trans (fk [1])) ⟨none,0,rfl,rfl⟩
 refine aB rfl a (ao (aa (aP (bq (cm 0) (h:=bT (.agg (bW (ba.mk 0 (fX.mk 0 0 0) 0 a0)).toArray) dS (h:=o' (gD (kd:=bI) (zv:=(.agg (bW lu).toArray)) (sz:=15) (cells:=(bW (ba.mk 0 (fX.mk 0 0 0) 0 a0))) (xs:=([(ba.mk 0 (fX.mk 0 0 0) 0 a0)] : (List ba))) rfl Tryz.underlying24 jF ck rfl rfl rfl (by kernel_rfl) rfl rfl (dR cZ (fun _ _=>rfl) (by kernel_rfl)) fun b=>ad aW (h:=cD ?_))))))))
 have h:=aN H;subst h
 exact dJ [1] ⟨some ⟨b,0,none⟩,1,rfl,rfl⟩


def pL.f (k : Nat) (a0 : Int) (a1 : cN) : Option ((List ba)):=(lS.f k a0).bind (fun a=>(if a = 1 then (some (decide (a = 1))) else (some (decide (a = 2))) : Option (Bool)).bind (fun d=>if d = true then ((qP.f a1 a).bind (fun b=>if ([(ba.mk a0 (fX.mk 0 0 0) (IntKind.u8.wrap (a)) a1)] : (List ba)).length + b.length ≤ 2932031007402 then lt (([(ba.mk a0 (fX.mk 0 0 0) (IntKind.u8.wrap (a)) a1)] : (List ba)) ++ b) fun c=>(some (c)) else none)) else (some (([] : (List ba))))))
theorem pL.ok {a0 : Int} {a1 : cN} {r : (List ba)} (H : pL.f k a0 a1 = some r) : dp Tryz.prog 124 #[aM a0,.agg (bF a1).toArray] [] (fun v B=>∃ aQ aR,v = .slice aQ r.length aR∧B = [Buf bI 55 aQ aR r]):=by
 refine aj Tryz.func124 rfl rfl ?_
 unfold pL.f at H
 refine aP (o' (bO (h:=fun I=>ad aW (h:=cR (ad ar (h:=bq (cm 0) (h:=bT (.agg (bW (ba.mk a0 (fX.mk 0 0 0) 0 a1)).toArray) dS (h:=o' (cC (h:=fun y=>o' (bj y 0 1 (bW (ba.mk a0 (fX.mk 0 0 0) 0 a1)) (h:=eA ?_))))))))))))
 refine S' ar ?_
 obtain⟨a,u,H⟩:=ac H
 refine o' (da [] [0,1] (lS.ok u) ?_)
 refine ad aW (h:=cR (ad ar (h:=bA (aT (ap (aP (ad (bk rfl rfl) (h:=ad aW (h:=bA ?_)))))))))
 obtain⟨K,H,q⟩:=ac H
 refine bK (St [(3,aI I),(5,aI y),(6,ae a),(13,.bool K)] [aL I 28 (bF a1),aL y 55 (bW (ba.mk a0 (fX.mk 0 0 0) 0 a1))]) ?_ ?_
 ·rcases bD H with⟨D,H⟩|⟨D,H⟩
  ·refine aC rfl D (ao ?_)
   have h:=aN H;subst h
   exact bH [0,1]
  refine aB rfl D (ak (ad (bk rfl rfl) (h:=ad aW (h:=ah ?_))))
  have h:=aN H;subst h
  exact bH [0,1]
 rintro e ds As F
 clear H
 have H:=q
 clear q
 refine aa (SA.of_St F fun junk=>?_)
 rcases bD H with⟨E,H⟩|⟨E,H⟩
 ·refine aD rfl E (aP (ad ar (h:=bT (.int .u8 (IntKind.u8.wrap (a))) (jS (T:=3) (by kernel_rfl) Tryz.underlying5 rfl) (h:=ad aA (h:=o' (cJ 1 [.int .u8 (IntKind.u8.wrap (a))] (h:=(bA (ap ?_)))))))))
  refine fg [0,2,3,6] [0,1] [] fun _ _ _ _ _ sH dd pk=>?_
  refine bN 0 rfl sH (cm 1) (h:=bN 2 rfl sH (cm 0) (h:=T' 3 rfl sH ar ?_))
  obtain⟨p,l,H⟩:=ac H
  obtain⟨J,H⟩:=aS H
  obtain⟨o,j,H⟩:=bi H
  refine iF (rs:=[1,4]) dd (by kernel_rfl) (by decide) (bG ⟨_,rfl,(.no rfl),?_⟩ (bG ⟨_,rfl,(.no rfl),?_⟩ dl))
  ·refine id (gD (kd:=bI) (zv:=(.agg (bW lu).toArray)) (sz:=15) (cells:=(bW (ba.mk a0 (fX.mk 0 0 0) (IntKind.u8.wrap (a)) a1))) (xs:=([(ba.mk a0 (fX.mk 0 0 0) (IntKind.u8.wrap (a)) a1)] : (List ba))) rfl Tryz.underlying24 jF ck rfl rfl rfl (by kernel_rfl) rfl rfl (dR cZ (fun _ _=>rfl) (by kernel_rfl)) fun m=>dT 4 rfl dd (gy [] [0] (qP.ok l) fun s z=>?_))
   refine dT 5 rfl dd (gm (k:=1) (A:=some ⟨m,0,none⟩) (c:=1) (xs:=([(ba.mk a0 (fX.mk 0 0 0) (IntKind.u8.wrap (a)) a1)] : (List ba))) (ys:=p) o j rfl Tryz.underlying24 mD rfl rfl rfl rfl rfl (nk.slice Tryz.underlying24 (Src.buf (k:=0) rfl)) (by omega) (by omega) fun b d=>bf 6 rfl sH aW (h:=aV dd sH (aH (by kernel_rfl) (aa (eM (aY (aF ?_)))))))
   have h:=aN H;subst h
   exact dJ [3] ⟨b,d,rfl,rfl⟩
  refine id (gy [] [] (qP.ok l) fun s z=>?_)
  refine dT 1 rfl dd (gD (kd:=bI) (zv:=(.agg (bW lu).toArray)) (sz:=15) (cells:=(bW (ba.mk a0 (fX.mk 0 0 0) (IntKind.u8.wrap (a)) a1))) (xs:=([(ba.mk a0 (fX.mk 0 0 0) (IntKind.u8.wrap (a)) a1)] : (List ba))) rfl Tryz.underlying24 jF ck rfl rfl rfl (by kernel_rfl) rfl rfl (dR cZ (fun _ _=>rfl) (by kernel_rfl)) fun m=>dT 5 rfl dd (gm (k:=1) (A:=some ⟨m,0,none⟩) (c:=1) (xs:=([(ba.mk a0 (fX.mk 0 0 0) (IntKind.u8.wrap (a)) a1)] : (List ba))) (ys:=p) o j rfl Tryz.underlying24 mD rfl rfl rfl rfl rfl (nk.slice Tryz.underlying24 (Src.buf (k:=0) rfl)) (by omega) (by omega) fun b d=>bf 6 rfl sH aW (h:=aV dd sH (aH (by kernel_rfl) (aa (eM (aY (aF ?_))))))))
  have h:=aN H;subst h
  exact dJ [3] ⟨b,d,rfl,rfl⟩
 refine aE rfl E (ao (aG (aa (aP (ad aW (h:=cD ?_))))))
 have h:=aN H;subst h
 exact mi [Buf bI 55 none 0 ([] : (List ba))] rfl rfl ((Gh.nilBuf bI 55).trans (fk [2])) ⟨none,0,rfl,rfl⟩


def hH.f (k : Nat) (l0 : (List ba)) (o0 : Int) (n0 : Int) (a1 : Int) (l2 : (List ba)) : Option ((List ba)):=if 0 ≤ o0∧0 ≤ n0∧o0 + n0 ≤ (l0.length : Int) then (if 0 ≤ a1∧a1 ≤ n0∧n0 ≤ n0 then (lt (bB l0 (o0 + a1).toNat (l2.take (n0 - a1).toNat)) fun n11=>((ei.f k n11 o0 n0).bind (fun a=>if a.length = n11.length then (some (a)) else none))) else none) else none
theorem hH.ok {l0 : (List ba)} {o0 : Int} {n0 : Int} {a1 : Int} {l2 : (List ba)} {A0 V0 : Option Addr} {c0 v0 : Nat} {A2 : Option Addr} {c2 : Nat} (hw0 : ey A0 V0 15 o0 n0 v0) {r : (List ba)} (H : hH.f k l0 o0 n0 a1 l2 = some r) : dp Tryz.prog 123 #[.slice V0 n0.toNat v0,ae a1,.slice A2 l2.length c2] [Buf bI 55 A0 c0 l0,Buf bI 55 A2 c2 l2] (fun v B=>v = .tuple #[]∧B = [Buf bI 55 A0 c0 r,Buf bI 55 A2 c2 l2]):=by
 refine aj Tryz.func123 rfl rfl ?_
 unfold hH.f at H
 obtain⟨⟨y,z,D⟩,H⟩:=aS H
 have hcv_hw0:=hw0.cap
 refine ap (bQ 0 fun E=>bQ 1 fun F=>ak (ad ar (h:=S' ar ?_)))
 obtain⟨⟨p,s,u⟩,H⟩:=aS H
 refine s' (.slice (dv V0 a1 ((v0 : Nat) : Int) 15) (n0 - a1).toNat (((v0 : Nat) : Int).toNat - a1.toNat)) (dA (l:=o0) (m:=n0) (a:=a1) (b:=n0) (q:=((v0 : Nat) : Int)) hw0 Tryz.underlying116 ck rfl rfl rfl rfl (.inr ⟨_,rfl⟩) (.inl ⟨rfl,rfl,rfl⟩) (.inl ⟨rfl,rfl⟩) p s u) ?_
 have d : ey A0 (dv V0 a1 ((v0 : Nat) : Int) 15) 15 (o0 + a1) (n0 - a1) (((v0 : Nat) : Int).toNat - a1.toNat):=ey.sub hw0 p s u (.inl rfl) (Int.le_refl _)
 refine S' ar ?_
 obtain⟨n11,c,H⟩:=bi H
 have hl_n11 : n11.length = l0.length:=by rw [c]; exact eU (by rw [List.length_take]; omega)
 refine o' (gn (k:=0) (l:=o0 + a1) (m:=n0 - a1) (xs:=l0) (ys:=l2) n11 c d rfl Tryz.underlying116 ck rfl rfl rfl (by omega) rfl (pE.slice (Src.buf (k:=1) rfl)) ?_)
 try rewrite [← hl_n11]
 refine bA (ak (S' ar ?_))
 obtain⟨I,o,H⟩:=ac H
 obtain⟨j,H⟩:=aS H
 refine o' (da [0] [1] (ei.ok (o0:=o0) (n0:=n0) (A0:=A0) (c0:=c0) (V0:=V0) (v0:=v0) (hw0:=hw0) o) ?_)
 try rewrite [← j]
 refine ah ?_
 have h:=aN H;subst h
 exact fH [0,1] ⟨rfl,rfl⟩

end Go.Proofs.YtckilbegmbaeeaaGreat.Z7

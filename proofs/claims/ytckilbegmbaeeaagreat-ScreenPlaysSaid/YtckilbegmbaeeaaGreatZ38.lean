/- What functions compute, and that they do: 115, 153, 154, 159, 16, 27, 60, 62f72x_1_. -/
import Derived.Test.YtckilbegmbaeeaaGreatZ37
namespace Go.Proofs.YtckilbegmbaeeaaGreat.Z3
open Go Go.RowKit Go.Proofs.YtckilbegmbaeeaaGreat.SL
set_option linter.unusedVariables false
set_option maxHeartbeats 20000000
set_option maxRecDepth 100000
set_option linter.unusedSimpArgs false
attribute [local irreducible] IntKind.wrap cC dO eX gp gl lH fU cN gm rd sub bytesOf eG cL
variable {bJ af ay ar au k : Nat}
variable {ag az aw av : Option Addr}
theorem AW.ok {l0 : (List Int)} {g1 : Int → Option (Bool)} {A0 : Option Addr} {c0 : Nat} {fv1 : Value} {Fr1 : bu} (hg1 : ∀ {x0_ : Int} {r_ : Bool},g1 x0_ = some r_ → FC Tryz.prog fv1 [aJ x0_] [Fr1] (fun v B=>∃ B0,(v = .bool r_∧B0 = [])∧B = B0 ++ [Fr1])) {r : Int} (H : iZ.f k l0 g1 = some r) : df Tryz.prog 115 #[.slice A0 l0.length c0,fv1] [vj A0 c0 l0,Fr1] (fun v B=>v = ae r∧B = [Fr1]):=by
 refine ai Tryz.func115 rfl rfl ?_
 unfold iZ.f at H
 refine aQ (ad aV (h:=eJ (ad ax (h:=bO (ae (l0.length : Int)) (dB Tryz.underlying32 rfl) (h:=ad ax (h:=bC ?_))))))
 obtain⟨q,H,b⟩:=ac H
 refine bI (fun e ds As=>∃ (s : Unit),q = Out.go s∧St [] [Fr1] e ds As) ?_ ?_
 ·refine aU (cw (fun k_ e ds As=>∃ (a : Int),iZ.l0 l0 g1 k_ a = some q∧St [(0,.slice A0 l0.length c0),(1,fv1),(7,ae (l0.length : Int)),(8,ae a)] [Fr1,vj A0 c0 l0] e ds As) (k:=k) ⟨_,H,kW [1,0]⟩ ?_)
  clear H
  rintro l e ds As ⟨a,H,o⟩
  obtain _ | l:=l
  ·cases H
  rw [iZ.l0] at H
  refine SA.of_St o fun junk=>aQ (ad (cn rfl rfl) (h:=bC (ao ?_)))
  rcases bH H with⟨p,H⟩|⟨p,H⟩
  ·refine aB rfl p (ap (aa (ao (aU (aQ (ad ax (h:=ad aV (h:=cV (ad ax (h:=ad ax (h:=S' ax ?_)))))))))))
   obtain⟨⟨u,y⟩,H⟩:=aR H
   refine bD (bK (i:=a) Tryz.underlying32 kP rfl rfl (Src.ro (k:=1) rfl) u y) (h:=l' (bQ (enc:=(fun x_ : Int=>[Value.int .i32 x_])) (i:=a) (j:=a.toNat * 1) (m:=0) (sz:=1) Tryz.underlying21 rfl rfl rfl rfl (Src.ro (k:=1) rfl) u y (fun _ _ h=>h) rfl) ?_)
   obtain⟨D,z,H⟩:=ac H
   refine o' (tT (vs:=[aJ (rd l0 a)]) [0] [1] rfl rfl rfl rfl (hg1 (x0_:=rd l0 a) z) rfl ?_)
   rintro _ _⟨_,⟨rfl,rfl⟩,rfl⟩
   refine bC ?_
   rcases bH H with⟨c,H⟩|⟨c,H⟩
   ·refine aC rfl c (aQ (ad ax (h:=ad aV (h:=cF (bi (aI (aI (bi (aI (aI ?_))))))))))
    have h:=aN H;subst h
    have hb_:=dS b
    have hr_:=Option.some.inj hb_
    clear hb_
    subst hr_
    exact er [0] ⟨rfl,rfl⟩
   refine aD rfl c (ap (aF (aa (ah (ad (bV rfl rfl) (h:=ad ax (h:=aj ?_)))))))
   exact aa ⟨l,Nat.lt_succ_self _,_,H,ed [0,1]⟩
  refine aA rfl p (ct (bc (bc (cr ?_))))
  have h:=aN H;subst h
  exact aa ⟨(),rfl,ed [0]⟩
 rintro e ds As ⟨s,ht,d⟩
 clear H
 subst ht
 replace b:=fW b
 have H:=b
 clear b
 refine aa (SA.of_St d fun junk=>aQ (ad aV (h:=cF ?_)))
 have h:=aN H;subst h
 exact er [0] ⟨rfl,rfl⟩


theorem ER.ok {l0 : (List Int)} {g1 : Int → Option (Bool)} {A0 : Option Addr} {c0 : Nat} {fv1 : Value} {Fr1 : bu} (hg1 : ∀ {x0_ : Int} {r_ : Bool},g1 x0_ = some r_ → FC Tryz.prog fv1 [aJ x0_] [Fr1] (fun v B=>∃ B0,(v = .bool r_∧B0 = [])∧B = B0 ++ [Fr1])) {r : Bool} (H : qi.f k l0 g1 = some r) : df Tryz.prog 60 #[.slice A0 l0.length c0,fv1] [vj A0 c0 l0,Fr1] (fun v B=>v = .bool r∧B = [Fr1]):=by
 refine ai Tryz.func60 rfl rfl ?_
 unfold qi.f at H
 refine aQ (ad aV (h:=cV (ad ax (h:=S' ax ?_))))
 obtain⟨b,a,H⟩:=ac H
 refine o' (da [0,1] [0] (AW.ok (A0:=A0) (c0:=c0) (g1:=g1) (fv1:=fv1) (Fr1:=Fr1) (hg1:=hg1) a) ?_)
 refine ad (dI rfl rfl) (h:=ad aV (h:=cF ?_))
 have h:=aN H;subst h
 exact er [0] ⟨rfl,rfl⟩


theorem rM.ok {a0 : aG} {r : Bool} (H : ei.f k a0 = some r) : df Tryz.prog 16 #[.agg (al a0 ag af az ay aw ar av au).toArray] (eK a0 ag af az ay aw ar av au) (fun v B=>v = .bool r∧B = []):=by
 refine ai Tryz.func16 rfl rfl ?_
 unfold ei.f at H
 refine aQ (o' (bN (h:=fun b=>ad aV (h:=cV (ad aE (h:=bD (cG b 0 4 [ae a0.f0.f0,ae a0.f0.f1,.slice ag a0.f0.f2.length af]) (h:=o' (cy (h:=fun d=>o' (bg d 0 5 [ae a0.f0.f0,ae a0.f0.f1,.slice ag a0.f0.f2.length af] (h:=eJ (l' (cG d 0 5 [ae a0.f0.f0,ae a0.f0.f1,.slice ag a0.f0.f2.length af]) ?_))))))))))))
 obtain⟨r9,e9,H⟩:=ac H
 refine o' (da [0] [0,1,2,3,4,5] (zR.ok e9) ?_)
 refine ad (ca rfl) (h:=S' ax ?_)
 obtain⟨g0,H,e4⟩:=ac H
 refine eg 5 [(1,aK b),(3,aK d),(19,.bool g0)] (aL b 34 (al a0 ag af az ay aw ar av au)::(eK a0 ag af az ay aw ar av au++[aL d 26 [ae a0.f0.f0,ae a0.f0.f1,.slice ag a0.f0.f2.length af]])) ?_ fun junk=>?_
 ·rcases bH H with⟨K,H⟩|⟨K,H⟩
  ·refine cI 4 K (ii K ?_)
   have h:=aN H;subst h
   exact dV [4,0,1,2,3,5]
  refine bn (aX K) aE (h:=z' (aX K) (cG b 6 4 (bG a0.f4)) ?_)
  obtain⟨h8,g2,H⟩:=ac H
  refine gE (aX K) (da [] [0,1,2,3,4,5] (qf.ok g2) ?_)
  refine bn (aX K) (ca rfl) (h:=gL (aX K) ?_)
  have h:=aN H;subst h
  exact dV [4,0,1,2,3,5]
 replace H:=e4
 refine S' ax ?_
 obtain⟨d2,H,e5⟩:=ac H
 refine eg 6 [(1,aK b),(3,aK d),(26,.bool d2)] (aL b 34 (al a0 ag af az ay aw ar av au)::(eK a0 ag af az ay aw ar av au++[aL d 26 [ae a0.f0.f0,ae a0.f0.f1,.slice ag a0.f0.f2.length af]])) ?_ fun junk=>?_
 ·rcases bH H with⟨F,H⟩|⟨F,H⟩
  ·refine cI 5 F (ii F ?_)
   have h:=aN H;subst h
   exact dV [0,1,2,3,4,5]
  refine bn (aX F) aE (h:=bn (aX F) aE (h:=z' (aX F) (cG b 29 0 (bG a0.f14.f4)) ?_))
  obtain⟨h9,g3,H⟩:=ac H
  refine gE (aX F) (da [] [0,1,2,3,4,5] (qf.ok g3) ?_)
  refine bn (aX F) (ca rfl) (h:=gL (aX F) ?_)
  have h:=aN H;subst h
  exact dV [0,1,2,3,4,5]
 replace H:=e5
 refine S' ax ?_
 obtain⟨d3,Y,H⟩:=br H
 refine eg 4 [(1,aK b),(3,aK d),(31,.bool d3)] (aL b 34 (al a0 ag af az ay aw ar av au)::(eK a0 ag af az ay aw ar av au++[aL d 26 [ae a0.f0.f0,ae a0.f0.f1,.slice ag a0.f0.f2.length af]])) ?_ fun junk=>?_
 ·by_cases L : d2 = true
  ·refine cI 3 L (cq L (h:=aj ?_))
   have x_:=jL Y L;exact bM [0,1,2,3,4,5]
  refine bn (aX L) aE (h:=dc (aX L) (aT 0) (h:=bn (aX L) (cn rfl rfl) (h:=cv (aX L) (h:=aj ?_))))
  have x_:=jN Y ((aX L));exact bM [0,1,2,3,4,5]
 refine S' ax ?_
 obtain⟨d4,Z,H⟩:=br H
 refine eg 6 [(1,aK b),(3,aK d),(38,.bool d4)] (aL b 34 (al a0 ag af az ay aw ar av au)::(eK a0 ag af az ay aw ar av au++[aL d 26 [ae a0.f0.f0,ae a0.f0.f1,.slice ag a0.f0.f2.length af]])) ?_ fun junk=>?_
 ·by_cases q : d3 = true
  ·refine cI 5 q (cq q (h:=aj ?_))
   have x_:=jL Z q;exact bM [0,1,2,3,4,5]
  refine bn (aX q) aE (h:=dc (aX q) (aT 0) (h:=bn (aX q) aE (h:=dc (aX q) (aT 0) (h:=bn (aX q) (eR rfl rfl) (h:=cv (aX q) (h:=aj ?_))))))
  have x_:=jN Z ((aX q));exact bM [0,1,2,3,4,5]
 refine S' ax ?_
 obtain⟨g4,a1,H⟩:=br H
 refine cD 6 (St [(1,aK b),(3,aK d),(45,.bool g4)] (aL b 34 (al a0 ag af az ay aw ar av au)::(eK a0 ag af az ay aw ar av au++[aL d 26 [ae a0.f0.f0,ae a0.f0.f1,.slice ag a0.f0.f2.length af]]))) ?_ ?_
 ·by_cases s : d4 = true
  ·refine cI 5 s (cq s (h:=aj ?_))
   have x_:=jL a1 s;exact bM [0,1,2,3,4,5]
  refine bn (aX s) aE (h:=dc (aX s) (aT 0) (h:=bn (aX s) aE (h:=dc (aX s) (aT 5) (h:=bn (aX s) (dI rfl rfl) (h:=cv (aX s) (h:=aj ?_))))))
  have x_:=jN a1 ((aX s));exact bM [0,1,2,3,4,5]
 rintro e ds As b9
 refine bC (SA.of_St b9 fun junk=>?_)
 rcases bH H with⟨a2,H⟩|⟨a2,H⟩
 ·refine aC rfl a2 (aQ (ad aV (h:=cE ?_)))
  have h:=aN H;subst h
  exact er [] ⟨rfl,rfl⟩
 refine aD rfl a2 (ap (aa (ao (aQ (ad aE (h:=bD (aT 0) (h:=ad aE (h:=bD (aT 0) (h:=ad aE (h:=bD (aT 0) (h:=bO (.agg (jU (dq.mk a0.f1 a0.f2 a0.f3 false fQ)).toArray) dA (h:=S' aE ?_))))))))))))
 refine bD (cG b 25 0 (jU a0.f14)) (h:=bO (.agg (List.toArray (ae a0.f1::ae a0.f2::.bool a0.f3::.bool false::ae 0::ae 0::.bool false::.bool false::.bool false::.bool false::.bool false::.bool false::.bool false::.bool false::ae a0.f14.f0::ae a0.f14.f1::.bool a0.f14.f2::.bool a0.f14.f3::ae a0.f14.f4.f0::ae a0.f14.f4.f1::.bool a0.f14.f4.f2::.bool a0.f14.f4.f3::.bool a0.f14.f4.f4::.bool a0.f14.f4.f5::.bool a0.f14.f4.f6::.bool a0.f14.f4.f7::.bool a0.f14.f4.f8::.bool a0.f14.f4.f9::[]))) gB (h:=ad ax (h:=bC ?_)))
 obtain⟨d5,H,R⟩:=ac H
 refine bI (fun e ds As=>∃ (d6 : Unit),d5 = Out.go d6∧St [(1,aK b),(3,aK d)] (aL b 34 (al a0 ag af az ay aw ar av au)::(eK a0 ag af az ay aw ar av au++[aL d 26 [ae a0.f0.f0,ae a0.f0.f1,.slice ag a0.f0.f2.length af]])) e ds As) ?_ ?_
 ·refine aU (cw (fun k_ e ds As=>∃ (a : Int),ei.l0 a0 k_ a = some d5∧St [(1,aK b),(3,aK d),(55,.agg (List.toArray (ae a0.f1::ae a0.f2::.bool a0.f3::.bool false::ae 0::ae 0::.bool false::.bool false::.bool false::.bool false::.bool false::.bool false::.bool false::.bool false::ae a0.f14.f0::ae a0.f14.f1::.bool a0.f14.f2::.bool a0.f14.f3::ae a0.f14.f4.f0::ae a0.f14.f4.f1::.bool a0.f14.f4.f2::.bool a0.f14.f4.f3::.bool a0.f14.f4.f4::.bool a0.f14.f4.f5::.bool a0.f14.f4.f6::.bool a0.f14.f4.f7::.bool a0.f14.f4.f8::.bool a0.f14.f4.f9::[]))),(56,ae a)] (aL b 34 (al a0 ag af az ay aw ar av au)::(eK a0 ag af az ay aw ar av au++[aL d 26 [ae a0.f0.f0,ae a0.f0.f1,.slice ag a0.f0.f2.length af]])) e ds As) (k:=k) ⟨_,H,kW [0,1,2,3,4,5]⟩ ?_)
  clear H
  rintro a3 e ds As ⟨a,H,c5⟩
  obtain _ | a3:=a3
  ·cases H
  rw [ei.l0] at H
  refine SA.of_St c5 fun junk=>aQ (ad (cn rfl rfl) (h:=bC (ao ?_)))
  rcases bH H with⟨a4,H⟩|⟨a4,H⟩
  ·refine aB rfl a4 (ap (aa (ao (aU (aQ ?_)))))
   obtain⟨⟨g5,g6⟩,H⟩:=aR H
   refine s' (.agg (jU (dq.mk ((rd ([(dq.mk a0.f1 a0.f2 a0.f3 false fQ),a0.f14] : List dq) a).f0) ((rd ([(dq.mk a0.f1 a0.f2 a0.f3 false fQ),a0.f14] : List dq) a).f1) ((rd ([(dq.mk a0.f1 a0.f2 a0.f3 false fQ),a0.f14] : List dq) a).f2) ((rd ([(dq.mk a0.f1 a0.f2 a0.f3 false fQ),a0.f14] : List dq) a).f3) ((rd ([(dq.mk a0.f1 a0.f2 a0.f3 false fQ),a0.f14] : List dq) a).f4))).toArray) (sy (kd:=xH) (i:=a) (cs:=(ae a0.f1::ae a0.f2::.bool a0.f3::.bool false::ae 0::ae 0::.bool false::.bool false::.bool false::.bool false::.bool false::.bool false::.bool false::.bool false::ae a0.f14.f0::ae a0.f14.f1::.bool a0.f14.f2::.bool a0.f14.f3::ae a0.f14.f4.f0::ae a0.f14.f4.f1::.bool a0.f14.f4.f2::.bool a0.f14.f4.f3::.bool a0.f14.f4.f4::.bool a0.f14.f4.f5::.bool a0.f14.f4.f6::.bool a0.f14.f4.f7::.bool a0.f14.f4.f8::.bool a0.f14.f4.f9::[])) (xs:=([(dq.mk a0.f1 a0.f2 a0.f3 false fQ),a0.f14] : List dq)) (vs:=(jU (dq.mk ((rd ([(dq.mk a0.f1 a0.f2 a0.f3 false fQ),a0.f14] : List dq) a).f0) ((rd ([(dq.mk a0.f1 a0.f2 a0.f3 false fQ),a0.f14] : List dq) a).f1) ((rd ([(dq.mk a0.f1 a0.f2 a0.f3 false fQ),a0.f14] : List dq) a).f2) ((rd ([(dq.mk a0.f1 a0.f2 a0.f3 false fQ),a0.f14] : List dq) a).f3) ((rd ([(dq.mk a0.f1 a0.f2 a0.f3 false fQ),a0.f14] : List dq) a).f4)))) Tryz.underlying78 ya Tryz.underlying31 rfl rfl rfl (dL tj (fun _ _=>rfl) (by kernel_rfl) _) rfl rfl g5 g6 (fun _ h_=>by rw [h_]; rfl)) ?_
   refine o' (cy (h:=fun S=>o' (bg S 0 6 (jU (dq.mk ((rd ([(dq.mk a0.f1 a0.f2 a0.f3 false fQ),a0.f14] : List dq) a).f0) ((rd ([(dq.mk a0.f1 a0.f2 a0.f3 false fQ),a0.f14] : List dq) a).f1) ((rd ([(dq.mk a0.f1 a0.f2 a0.f3 false fQ),a0.f14] : List dq) a).f2) ((rd ([(dq.mk a0.f1 a0.f2 a0.f3 false fQ),a0.f14] : List dq) a).f3) ((rd ([(dq.mk a0.f1 a0.f2 a0.f3 false fQ),a0.f14] : List dq) a).f4))) (h:=cV (ad aE (h:=bD (aT 6) (h:=ad (cn rfl rfl) (h:=S' ax ?_))))))))
   obtain⟨d7,a5,H⟩:=br H
   refine eg 6 [(1,aK b),(3,aK d),(5,aK S),(55,.agg (List.toArray (ae a0.f1::ae a0.f2::.bool a0.f3::.bool false::ae 0::ae 0::.bool false::.bool false::.bool false::.bool false::.bool false::.bool false::.bool false::.bool false::ae a0.f14.f0::ae a0.f14.f1::.bool a0.f14.f2::.bool a0.f14.f3::ae a0.f14.f4.f0::ae a0.f14.f4.f1::.bool a0.f14.f4.f2::.bool a0.f14.f4.f3::.bool a0.f14.f4.f4::.bool a0.f14.f4.f5::.bool a0.f14.f4.f6::.bool a0.f14.f4.f7::.bool a0.f14.f4.f8::.bool a0.f14.f4.f9::[]))),(56,ae a),(68,.bool d7)] (aL b 34 (al a0 ag af az ay aw ar av au)::(eK a0 ag af az ay aw ar av au++[aL d 26 [ae a0.f0.f0,ae a0.f0.f1,.slice ag a0.f0.f2.length af],aL S 31 (jU (dq.mk ((rd ([(dq.mk a0.f1 a0.f2 a0.f3 false fQ),a0.f14] : List dq) a).f0) ((rd ([(dq.mk a0.f1 a0.f2 a0.f3 false fQ),a0.f14] : List dq) a).f1) ((rd ([(dq.mk a0.f1 a0.f2 a0.f3 false fQ),a0.f14] : List dq) a).f2) ((rd ([(dq.mk a0.f1 a0.f2 a0.f3 false fQ),a0.f14] : List dq) a).f3) ((rd ([(dq.mk a0.f1 a0.f2 a0.f3 false fQ),a0.f14] : List dq) a).f4)))])) ?_ fun junk=>?_
   ·by_cases u : ((rd ([(dq.mk a0.f1 a0.f2 a0.f3 false fQ),a0.f14] : List dq) a).f0) < 0
    ·refine cI 5 (ak u) (cq (ak u) (h:=aj ?_))
     have x_:=jL a5 ((ak u));exact bM [0,1,2,3,4,5,6]
    refine bn (am u) aE (h:=dc (am u) (aT 6) (h:=bn (am u) aE (h:=dc (am u) (aT 5) (h:=bn (am u) (dI rfl rfl) (h:=cv (am u) (h:=aj ?_))))))
    have x_:=jN a5 ((am u));exact bM [0,1,2,3,4,5,6]
   refine S' ax ?_
   obtain⟨d8,a6,H⟩:=br H
   refine eg 4 [(1,aK b),(3,aK d),(5,aK S),(55,.agg (List.toArray (ae a0.f1::ae a0.f2::.bool a0.f3::.bool false::ae 0::ae 0::.bool false::.bool false::.bool false::.bool false::.bool false::.bool false::.bool false::.bool false::ae a0.f14.f0::ae a0.f14.f1::.bool a0.f14.f2::.bool a0.f14.f3::ae a0.f14.f4.f0::ae a0.f14.f4.f1::.bool a0.f14.f4.f2::.bool a0.f14.f4.f3::.bool a0.f14.f4.f4::.bool a0.f14.f4.f5::.bool a0.f14.f4.f6::.bool a0.f14.f4.f7::.bool a0.f14.f4.f8::.bool a0.f14.f4.f9::[]))),(56,ae a),(73,.bool d8)] (aL b 34 (al a0 ag af az ay aw ar av au)::(eK a0 ag af az ay aw ar av au++[aL d 26 [ae a0.f0.f0,ae a0.f0.f1,.slice ag a0.f0.f2.length af],aL S 31 (jU (dq.mk ((rd ([(dq.mk a0.f1 a0.f2 a0.f3 false fQ),a0.f14] : List dq) a).f0) ((rd ([(dq.mk a0.f1 a0.f2 a0.f3 false fQ),a0.f14] : List dq) a).f1) ((rd ([(dq.mk a0.f1 a0.f2 a0.f3 false fQ),a0.f14] : List dq) a).f2) ((rd ([(dq.mk a0.f1 a0.f2 a0.f3 false fQ),a0.f14] : List dq) a).f3) ((rd ([(dq.mk a0.f1 a0.f2 a0.f3 false fQ),a0.f14] : List dq) a).f4)))])) ?_ fun junk=>?_
   ·by_cases M : d7 = true
    ·refine cI 3 M (cq M (h:=aj ?_))
     have x_:=jL a6 M;exact bM [0,1,2,3,4,5,6]
    refine bn (aX M) aE (h:=dc (aX M) (aT 6) (h:=bn (aX M) (cn rfl rfl) (h:=cv (aX M) (h:=aj ?_))))
    have x_:=jN a6 ((aX M));exact bM [0,1,2,3,4,5,6]
   refine S' ax ?_
   obtain⟨g7,a7,H⟩:=br H
   refine eg 6 [(1,aK b),(3,aK d),(5,aK S),(55,.agg (List.toArray (ae a0.f1::ae a0.f2::.bool a0.f3::.bool false::ae 0::ae 0::.bool false::.bool false::.bool false::.bool false::.bool false::.bool false::.bool false::.bool false::ae a0.f14.f0::ae a0.f14.f1::.bool a0.f14.f2::.bool a0.f14.f3::ae a0.f14.f4.f0::ae a0.f14.f4.f1::.bool a0.f14.f4.f2::.bool a0.f14.f4.f3::.bool a0.f14.f4.f4::.bool a0.f14.f4.f5::.bool a0.f14.f4.f6::.bool a0.f14.f4.f7::.bool a0.f14.f4.f8::.bool a0.f14.f4.f9::[]))),(56,ae a),(80,.bool g7)] (aL b 34 (al a0 ag af az ay aw ar av au)::(eK a0 ag af az ay aw ar av au++[aL d 26 [ae a0.f0.f0,ae a0.f0.f1,.slice ag a0.f0.f2.length af],aL S 31 (jU (dq.mk ((rd ([(dq.mk a0.f1 a0.f2 a0.f3 false fQ),a0.f14] : List dq) a).f0) ((rd ([(dq.mk a0.f1 a0.f2 a0.f3 false fQ),a0.f14] : List dq) a).f1) ((rd ([(dq.mk a0.f1 a0.f2 a0.f3 false fQ),a0.f14] : List dq) a).f2) ((rd ([(dq.mk a0.f1 a0.f2 a0.f3 false fQ),a0.f14] : List dq) a).f3) ((rd ([(dq.mk a0.f1 a0.f2 a0.f3 false fQ),a0.f14] : List dq) a).f4)))])) ?_ fun junk=>?_
   ·by_cases y : d8 = true
    ·refine cI 5 y (cq y (h:=aj ?_))
     have x_:=jL a7 y;exact bM [0,1,2,3,4,5,6]
    refine bn (aX y) aE (h:=dc (aX y) (aT 6) (h:=bn (aX y) aE (h:=dc (aX y) (aT 5) (h:=bn (aX y) (dI rfl rfl) (h:=cv (aX y) (h:=aj ?_))))))
    have x_:=jN a7 ((aX y));exact bM [0,1,2,3,4,5,6]
   refine S' ax ?_
   obtain⟨g8,H,a8⟩:=ac H
   refine cD 11 (St [(1,aK b),(3,aK d),(55,.agg (List.toArray (ae a0.f1::ae a0.f2::.bool a0.f3::.bool false::ae 0::ae 0::.bool false::.bool false::.bool false::.bool false::.bool false::.bool false::.bool false::.bool false::ae a0.f14.f0::ae a0.f14.f1::.bool a0.f14.f2::.bool a0.f14.f3::ae a0.f14.f4.f0::ae a0.f14.f4.f1::.bool a0.f14.f4.f2::.bool a0.f14.f4.f3::.bool a0.f14.f4.f4::.bool a0.f14.f4.f5::.bool a0.f14.f4.f6::.bool a0.f14.f4.f7::.bool a0.f14.f4.f8::.bool a0.f14.f4.f9::[]))),(56,ae a),(92,.bool g8)] (aL b 34 (al a0 ag af az ay aw ar av au)::(eK a0 ag af az ay aw ar av au++[aL d 26 [ae a0.f0.f0,ae a0.f0.f1,.slice ag a0.f0.f2.length af]]))) ?_ ?_
   ·rcases bH H with⟨p,H⟩|⟨p,H⟩
    ·refine cI 3 p (gj (gj (gj (gj (gj (gj (cI 1 p (ii p ?_))))))))
     have h:=aN H;subst h
     exact dV [0,1,2,3,4,5]
    refine bn (aX p) aE (h:=dc (aX p) (aT 6) (h:=Y' (aX p) ax ?_))
    rcases bH H with⟨z,H⟩|⟨z,H⟩
    ·refine bn z aE (h:=dc z (aT 6) (h:=bn z aE (h:=dc z (aT 5) (h:=bn z (cY rfl rfl) (h:=bn z (dK rfl rfl) (h:=gE (aX p) (dl rfl (bX rfl (z) rfl) (gL (aX p) ?_))))))))
     have h:=aN H;subst h
     exact dV [0,1,2,3,4,5]
    refine cI 6 (aX z) (gE (aX p) (dl rfl (bY rfl (aX z) rfl) (gL (aX p) ?_)))
    have h:=aN H;subst h
    exact dV [0,1,2,3,4,5]
   rintro e ds As c6
   clear H
   have H:=a8
   clear a8
   refine bC (SA.of_St c6 fun junk=>?_)
   rcases bH H with⟨a9,H⟩|⟨a9,H⟩
   ·refine aC rfl a9 (aQ (ad aV (h:=cF (bi (aI (aI (bi (aI (aI ?_)))))))))
    have h:=aN H;subst h
    have hb_:=dS R
    have hr_:=Option.some.inj hb_
    clear hb_
    subst hr_
    exact er [] ⟨rfl,rfl⟩
   refine aD rfl a9 (ap (aF (aa (ah (ad (bV rfl rfl) (h:=ad ax (h:=aj ?_)))))))
   exact aa ⟨a3,Nat.lt_succ_self _,_,H,ed [0,1,2,3,4,5]⟩
  refine aA rfl a4 (ct (bc (bc (cr ?_))))
  have h:=aN H;subst h
  exact aa ⟨(),rfl,ed [0,1,2,3,4,5]⟩
 rintro e ds As ⟨d6,ht,c7⟩
 clear H
 subst ht
 replace R:=fW R
 have H:=R
 clear R
 refine aa (SA.of_St c7 fun junk=>aQ (ad aV (h:=eJ (ad aE (h:=bD (aT 0) (h:=bO (ae (a0.f7.length : Int)) (dB Tryz.underlying29 rfl) (h:=ad ax (h:=bC ?_))))))))
 obtain⟨d9,H,U⟩:=ac H
 refine bI (fun e ds As=>∃ (e0 : Unit),d9 = Out.go e0∧St [(1,aK b),(3,aK d)] (aL b 34 (al a0 ag af az ay aw ar av au)::(eK a0 ag af az ay aw ar av au++[aL d 26 [ae a0.f0.f0,ae a0.f0.f1,.slice ag a0.f0.f2.length af]])) e ds As) ?_ ?_
 ·refine aU (cw (fun k_ e ds As=>∃ (O : Int) (l : Int),ei.l1 a0 k_ O l = some d9∧St [(1,aK b),(3,aK d),(6,ae O),(95,.slice az a0.f7.length ay),(96,ae (a0.f7.length : Int)),(97,ae l)] (aL b 34 (al a0 ag af az ay aw ar av au)::(eK a0 ag af az ay aw ar av au++[aL d 26 [ae a0.f0.f0,ae a0.f0.f1,.slice ag a0.f0.f2.length af]])) e ds As) (k:=k) ⟨_,_,H,kW [0,1,2,3,4,5]⟩ ?_)
  clear H
  rintro b0 e ds As ⟨O,l,H,c8⟩
  obtain _ | b0:=b0
  ·cases H
  rw [ei.l1] at H
  refine SA.of_St c8 fun junk=>aQ (ad (cn rfl rfl) (h:=bC (ao ?_)))
  rcases bH H with⟨b1,H⟩|⟨b1,H⟩
  ·refine aB rfl b1 (ap (aa (ao (aU (aQ ?_)))))
   obtain⟨⟨e1,e2⟩,H⟩:=aR H
   refine bD (bK (i:=l) Tryz.underlying29 jG rfl rfl (Src.ro (k:=2) rfl) e1 e2) (h:=l' (bQ (enc:=(fun x_ : Int=>[Value.int .i64 x_])) (i:=l) (j:=l.toNat * 1) (m:=0) (sz:=1) Tryz.underlying3 rfl rfl rfl rfl (Src.ro (k:=2) rfl) e1 e2 (fun _ _ h=>h) rfl) ?_)
   obtain⟨n61,e6,H⟩:=br H
   refine bO (ae n61) (bz (v:=ae n61) (congrArg (Value.int .i64) e6.symm)) (h:=eJ (ad ax (h:=ad ax (h:=ad (fV rfl rfl) (h:=S' ax ?_)))))
   obtain⟨g9,b2,H⟩:=br H
   refine cD 5 (St [(1,aK b),(3,aK d),(8,ae n61),(95,.slice az a0.f7.length ay),(96,ae (a0.f7.length : Int)),(97,ae l),(109,.bool g9)] (aL b 34 (al a0 ag af az ay aw ar av au)::(eK a0 ag af az ay aw ar av au++[aL d 26 [ae a0.f0.f0,ae a0.f0.f1,.slice ag a0.f0.f2.length af]]))) ?_ ?_
   ·by_cases I : n61 ≤ O
    ·refine cI 4 (ak I) (cq (ak I) (h:=aj ?_))
     have x_:=jL b2 ((ak I));exact bM [0,1,2,3,4,5]
    refine bn (am I) ax (h:=bn (am I) aE (h:=dc (am I) (aT 5) (h:=bn (am I) (dI rfl rfl) (h:=cv (am I) (h:=aj ?_)))))
    have x_:=jN b2 ((am I));exact bM [0,1,2,3,4,5]
   rintro e ds As c9
   refine bC (SA.of_St c9 fun junk=>?_)
   rcases bH H with⟨b3,H⟩|⟨b3,H⟩
   ·refine aC rfl b3 (aQ (ad aV (h:=cE (bi (aI (aI (bi (aI (aI ?_)))))))))
    have h:=aN H;subst h
    have hb_:=dS U
    have hr_:=Option.some.inj hb_
    clear hb_
    subst hr_
    exact er [] ⟨rfl,rfl⟩
   refine aD rfl b3 (ap (aa (ah (ad ax (h:=ad aV (h:=aj (aF (aa (ah (ad (bV rfl rfl) (h:=ad ax (h:=aj ?_))))))))))))
   exact aa ⟨b0,Nat.lt_succ_self _,_,_,H,ed [0,1,2,3,4,5]⟩
  refine aA rfl b1 (ct (bc (bc (cr ?_))))
  have h:=aN H;subst h
  exact aa ⟨(),rfl,ed [0,1,2,3,4,5]⟩
 rintro e ds As ⟨e0,ht,d0⟩
 clear H
 subst ht
 replace U:=fW U
 have H:=U
 clear U
 refine aa (SA.of_St d0 fun junk=>ao (aQ (ad aE (h:=bD (aT 0) (h:=S' ax ?_)))))
 obtain⟨h0,H,e7⟩:=ac H
 refine eg 21 [(1,aK b),(135,.bool h0)] (kD b a0 ag af az ay aw ar av au) ?_ fun junk=>?_
 ·rcases bH H with⟨c,H⟩|⟨c,H⟩
  ·refine bn c aE (h:=z' c (cG b 40 0 [ae a0.f16.f0,ae a0.f16.f1,.slice aw a0.f16.f2.length ar]) ?_)
   obtain⟨i0,h1,H⟩:=ac H
   refine gE c (da [3] [0,1,2,3,4,5] (zR.ok h1) ?_)
   refine bn c (ca rfl) (h:=Y' c ax ?_)
   rcases bH H with⟨D,H⟩|⟨D,H⟩
   ·refine cI 6 D (gE c (dl rfl (bX rfl (D) rfl) (bn c ax (h:=cI 6 rfl (gE c (dl rfl (bX rfl (rfl) rfl) (ii c ?_)))))))
    have h:=aN H;subst h
    exact dV [0,1,2,3,4]
   refine bn (aX D) aE (h:=bn (aX D) aE (h:=dc (aX D) (aT 0) (h:=bn (aX D) aE (h:=dc (aX D) (aT 5) (h:=bn (aX D) (dK rfl rfl) (h:=gE c (dl rfl (bY rfl (aX D) rfl) (Y' c ax ?_))))))))
   rcases bH H with⟨E,H⟩|⟨E,H⟩
   ·refine cI 6 (ak E) (gE c (dl rfl (bX rfl (ak E) rfl) (ii c ?_)))
    have h:=aN H;subst h
    exact dV [0,1,2,3,4]
   refine bn (am E) aE (h:=bn (am E) aE (h:=dc (am E) (aT 0) (h:=bn (am E) aE (h:=dc (am E) (aT 5) (h:=bn (am E) (dK rfl rfl) (h:=gE c (dl rfl (bY rfl (am E) rfl) (ii c ?_))))))))
   have h:=aN H;subst h
   exact dV [0,1,2,3,4]
  refine cI 5 (aX c) (gj (gj (gj (gj (gj (gj (cI 2 (aX c) (gj (gj ?_)))))))))
  refine gj (gj (gj (gj (cI 1 (aX c) (gL (aX c) ?_)))))
  have h:=aN H;subst h
  exact dV [0,1,2,3,4]
 replace H:=e7
 refine S' ax ?_
 obtain⟨h3,H,b4⟩:=ac H
 refine cD 11 (St [(1,aK b),(147,.bool h3)] (kD b a0 ag af az ay aw ar av au)) ?_ ?_
 ·rcases bH H with⟨o,H⟩|⟨o,H⟩
  ·refine cI 4 o (gj (gj (gj (gj (gj (cI 1 o (ii o ?_)))))))
   have h:=aN H;subst h
   exact dV [0,1,2,3,4]
  refine bn (aX o) aE (h:=dc (aX o) (aT 0) (h:=bn (aX o) (ca rfl) (h:=Y' (aX o) ax ?_)))
  rcases bH H with⟨J,H⟩|⟨J,H⟩
  ·refine bn J aE (h:=dc J (cG b 40 0 [ae a0.f16.f0,ae a0.f16.f1,.slice aw a0.f16.f2.length ar]) (h:=y' J (.agg #[ae 0,ae 0,.slice none 0 0]) dA ?_))
   obtain⟨i1,h4,H⟩:=ac H
   refine gE J (OA.ghost (Gh.nilRo bE none 0) (da [3,5] [0,1,2,3,4,5] (FY.ok h4) ?_))
   refine bn J (ca rfl) (h:=gE (aX o) (dl rfl (bX rfl (J) rfl) (gL (aX o) ?_)))
   have h:=aN H;subst h
   exact dV [0,1,2,3,4]
  refine cI 5 (aX J) (gE (aX o) (dl rfl (bY rfl (aX J) rfl) (gL (aX o) ?_)))
  have h:=aN H;subst h
  exact dV [0,1,2,3,4]
 rintro e ds As d1
 clear H
 have H:=b4
 clear b4
 refine bC (SA.of_St d1 fun junk=>?_)
 rcases bH H with⟨b6,H⟩|⟨b6,H⟩
 ·refine aC rfl b6 (aQ (ad aV (h:=cE ?_)))
  have h:=aN H;subst h
  exact er [] ⟨rfl,rfl⟩
 refine aD rfl b6 (ap (aa (aQ (ad aE (h:=bD (aT 0) (h:=bO (ae (a0.f17.length : Int)) (dB Tryz.underlying32 rfl) (h:=ad (fV rfl rfl) (h:=S' ax ?_))))))))
 obtain⟨h5,H,e8⟩:=ac H
 refine eg 5 [(157,.bool h5)] [] ?_ fun junk=>?_
 ·rcases bH H with⟨N,H⟩|⟨N,H⟩
  ·refine bn (ak N) aE (h:=z' (ak N) (aT 0) ?_)
   obtain⟨h6,h7,H⟩:=ac H
   refine gE (ak N) (mC [4] [0,1,2,3,4] (df.unpk (pre0:=[vj av au a0.f17]) (Bs:=[]) ((ER.ok (A0:=av) (c0:=au) (g1:=(fun (b8 : Int)=>vg.f b8)) (fv1:=.func (.func 61) #[] #[]) (Fr1:=Pk []) (hg1:=(fun {b8} {r_} C_=>FC.of (pre0:=[]) (Bs:=[]) (cap:=[]) Tryz.func61 zW rfl ((vg.ok (a0:=b8) C_).mono (fun _ _ ⟨hv_,hB_⟩=>⟨_,⟨hv_,rfl⟩,hB_⟩)))) h7).mono (fun (v_ : Value) (B_ : List bu) ⟨hv_,hB_⟩=>(⟨[],⟨hv_,rfl⟩,hB_⟩ : ∃ e3 : List bu,(v_ = (.bool h6 : Value)∧e3 = [])∧B_ = e3 ++ [Pk []])))) ?_)
   rintro _ _⟨_,⟨rfl,rfl⟩,rfl⟩
   refine bn (ak N) (ca rfl) (h:=ii (ak N) ?_)
   have h:=aN H;subst h
   exact dV []
  refine cI 4 (am N) (gL (am N) ?_)
  have h:=aN H;subst h
  exact dV []
 replace H:=e8
 refine ad aV (h:=cF ?_)
 have h:=aN H;subst h
 exact er [] ⟨rfl,rfl⟩


def iw.f (k : Nat) (a0 : aG) (p2000 : Int) : Option (aG × Int):=(ei.f k a0).bind (fun a=>if (!a) = true then (some (((aG.mk (bF.mk 0 0 ([] : (List aZ))) 0 0 false (cA.mk 0 0 false false false false false false false false) 0 0 ([] : (List Int)) false false false false false false (dq.mk 0 0 false false (cA.mk 0 0 false false false false false false false false)) false (bF.mk 0 0 ([] : (List aZ))) ([] : (List Int))),2))) else ((lL.f a0).bind (fun b=>(kx.f k b p2000).bind (fun c=>some ((c,0))))))
theorem iw.ok {a0 : aG} {p2000 : Int} {r : aG × Int} (H : iw.f k a0 p2000 = some r) : df Tryz.prog 62 #[.agg (al a0 ag af az ay aw ar av au).toArray,.func (.func 72) #[] #[.pointer (some ⟨bJ,0,none⟩)]] (eK a0 ag af az ay aw ar av au++[aL bJ 21 [aJ p2000]]) (fun v B=>∃ aP aO bA bv bq bp bB bw,v = .tuple #[.agg (al r.1 aP aO bA bv bq bp bB bw).toArray,ae r.2]∧B = (aS r.1 aP aO bA bv bq bp bB bw++[aL bJ 21 [aJ p2000]])):=by
 refine ai Tryz.func62 rfl rfl ?_
 unfold iw.f at H
 refine aQ (o' (bN (h:=fun b=>o' (cy (h:=fun s=>ad aV (h:=eJ (l' (ck 5) ?_)))))))
 obtain⟨R,u,H⟩:=ac H
 refine o' (da [0,1,2,3] [0,1,2,3,4,5,6] (rM.ok u) ?_)
 refine ad (ca rfl) (h:=bC ?_)
 rcases bH H with⟨a,H⟩|⟨a,H⟩
 ·refine aC rfl a (aQ (bO (.agg (al cx none 0 none 0 none 0 none 0).toArray) dA (h:=o' (bg s 0 6 (al cx none 0 none 0 none 0 none 0) (h:=ad aV (h:=cE ?_))))))
  have h:=aN H;subst h
  exact lT [.cell 4 34,.tmp 5] ((Gh.nilBuf bE 55).trans ((Gh.nilBuf (Kd.int .i64) 3).trans ((Gh.nilBuf bE 55).trans ((Gh.nilBuf (Kd.int .i32) 21).trans (eY [7,8,9,10,4]))))) ⟨none,0,none,0,none,0,none,0,rfl,rfl⟩ ⟨cR 6,cP,trivial⟩
 refine aD rfl a (ap (aa (aQ (l' (ck 5) ?_))))
 obtain⟨y,z,H⟩:=ac H
 refine o' (dN [0,1,2,3] [0,1,2,3,4,5,6] (lL.ok z) fun D E F I J K L M=>?_)
 refine o' (bg b 0 9 (al y D E F I J K L M) (h:=cV (ad ax (h:=s' (.agg #[aK b]) dA ?_))))
 obtain⟨N,O,H⟩:=ac H
 refine o' (rn [9,0,1,2,3,8] [4,5,6,7,10] (je (vs:=[.agg #[aK b]]) (cap:=[aK bJ]) rfl Tryz.func72 zN rfl rfl) (kx.ok (ba:=b) (gV:=bJ) O) ?_)
 rintro _ _⟨c,d,j,l,m,o,p,q,rfl,rfl⟩
 refine cV (bD (ck 0) (h:=o' (bg s 0 10 (al N c d j l m o p q) (h:=ad aV (h:=cF ?_)))))
 have h:=aN H;subst h
 exact dt [.cell 4 34,.tmp 5] [1,2,3,4,5] ⟨c,d,j,l,m,o,p,q,rfl,rfl⟩ ⟨cR 10,cP,trivial⟩


def uM.f (k : Nat) (a0 : aG) (a1 : Int) : Option (aG × Int):=(iw.f k a0 a1).bind (fun a=>some ((a.1,a.2)))
theorem uM.ok {a0 : aG} {a1 : Int} {r : aG × Int} (H : uM.f k a0 a1 = some r) : df Tryz.prog 27 #[.agg (al a0 ag af az ay aw ar av au).toArray,aJ a1] (eK a0 ag af az ay aw ar av au) (fun v B=>∃ aP aO bA bv bq bp bB bw,v = .tuple #[.agg (al r.1 aP aO bA bv bq bp bB bw).toArray,ae r.2]∧B = (aS r.1 aP aO bA bv bq bp bB bw)):=by
 refine ai Tryz.func27 rfl rfl ?_
 unfold uM.f at H
 refine aQ (o' (bN (h:=fun y=>o' (bN (h:=fun p=>o' (cy (h:=fun u=>ad aV (h:=cV (bD (ck 4) (h:=s' (.func (.func 72) #[] #[aK p]) (dy (us:=[aK p]) rfl) ?_))))))))))
 obtain⟨q,s,H⟩:=ac H
 refine o' (dN [0,1,2,3,5] [0,1,2,3,4,6] (iw.ok (bJ:=p) s) fun a b c d j l m o=>?_)
 refine ad cg (h:=ad cg (h:=o' (bg u 0 10 (al q.1 a b c d j l m o) (h:=ad aV (h:=cF ?_)))))
 have h:=aN H;subst h
 exact dt [.cell 4 34,.tmp 5] [0,1,2,3] ⟨a,b,c,d,j,l,m,o,rfl,rfl⟩ ⟨cR 10,cP,trivial⟩


def qt.f (a0 : Int) : Option (Bool):=some (decide (a0 ≠ a0))
theorem qt.ok {a0 : Int} {r : Bool} (H : qt.f a0 = some r) : fK Tryz.prog 159 #[ae a0] [] (.bool r):=by
 refine ai Tryz.func159 rfl rfl ?_
 unfold qt.f at H
 refine aQ (ad aV (h:=cV (ad ax (h:=ad ax (h:=ad (dK rfl rfl) (h:=ad aV (h:=cF ?_)))))))
 have h:=aN H;subst h
 exact er [] ⟨rfl,rfl⟩


def rq.f (a0 : Int) (a1 : Int) : Option (Bool):=(qt.f a0).bind (fun a=>(if a = true then ((qt.f a1).bind (fun b=>some (!b))) else (some false) : Option Bool).bind (fun c=>lt (c || (decide (a0 < a1))) fun d=>some (d)))
theorem rq.ok {a0 : Int} {a1 : Int} {r : Bool} (H : rq.f a0 a1 = some r) : fK Tryz.prog 153 #[ae a0,ae a1] [] (.bool r):=by
 refine ai Tryz.func153 rfl rfl ?_
 unfold rq.f at H
 refine aQ (ad aV (h:=cV (S' ax ?_)))
 obtain⟨p,d,H⟩:=ac H
 refine o' (da [] [] (qt.ok d) ?_)
 refine S' ax ?_
 obtain⟨j,H,l⟩:=ac H
 refine eg 4 [(0,ae a0),(1,ae a1),(11,.bool j)] [] ?_ fun junk=>?_
 ·rcases bH H with⟨b,H⟩|⟨b,H⟩
  ·refine Y' b ax ?_
   obtain⟨q,m,H⟩:=ac H
   refine gE b (da [] [] (qt.ok m) ?_)
   refine bn b (ca rfl) (h:=ii b ?_)
   have h:=aN H;subst h
   exact dV []
  refine cI 3 (aX b) (gL (aX b) ?_)
  have h:=aN H;subst h
  exact dV []
 replace H:=l
 refine S' ax ?_
 obtain⟨o,c,H⟩:=br H
 refine eg 4 [(16,.bool o)] [] ?_ fun junk=>?_
 ·by_cases a : j = true
  ·refine cI 3 a (cq a (h:=aj ?_))
   have x_:=jL c a;exact bM []
  refine bn (aX a) ax (h:=bn (aX a) ax (h:=bn (aX a) (cn rfl rfl) (h:=cv (aX a) (h:=aj ?_))))
  have x_:=jN c ((aX a));exact bM []
 refine ad aV (h:=cF ?_)
 have h:=aN H;subst h
 exact er [] ⟨rfl,rfl⟩


def qb.f (a0 : Int) : Option (Bool):=some (decide (a0 ≠ a0))
theorem qb.ok {a0 : Int} {r : Bool} (H : qb.f a0 = some r) : fK Tryz.prog 154 #[ae a0] [] (.bool r):=by
 refine ai Tryz.func154 rfl rfl ?_
 unfold qb.f at H
 refine aQ (ad aV (h:=cV (ad ax (h:=ad ax (h:=ad (dK rfl rfl) (h:=ad aV (h:=cF ?_)))))))
 have h:=aN H;subst h
 exact er [] ⟨rfl,rfl⟩

end Go.Proofs.YtckilbegmbaeeaaGreat.Z3

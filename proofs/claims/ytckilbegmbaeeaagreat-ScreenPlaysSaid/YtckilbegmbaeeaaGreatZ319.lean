/- What functions compute, and that they do: 15b0, 19b0, 65b0, 98b0. -/
import Derived.Test.YtckilbegmbaeeaaGreatZ318
namespace Go.Proofs.YtckilbegmbaeeaaGreat.Z3
open Go Go.RowKit Go.Proofs.YtckilbegmbaeeaaGreat.SL
open Go.IntKind (i64)
set_option linter.unusedVariables false
set_option maxHeartbeats 20000000
set_option maxRecDepth 100000
set_option linter.unusedSimpArgs false
attribute [local irreducible] IntKind.wrap cC dO eX gp gl lH fU cN gm rd sub bytesOf eG cL
variable {af ay ar au k : Nat}
variable {ag az aw av : Option Addr}
def fS.l1 (a0 : aG) : Nat → Int → Option (Out (Bool) (Unit))
  | 0,_=>none
  | k + 1,a=>if a < (a0.f17.length : Int) then (if 0 ≤ a∧a < (a0.f17.length : Int) then (if (rd a0.f17 a) < 0 then (some (Out.ret (false))) else (lt (i64.wrap (a + 1)) fun b=>fS.l1 a0 k b)) else none) else (some (Out.go ()))
def fS.l0 (a0 : aG) : Nat → Int → Option (Out (Bool) (Unit))
  | 0,_=>none
  | k + 1,a=>if a < (a0.f7.length : Int) then ((if 0 ≤ a∧a < (a0.f7.length : Int) then (if (rd a0.f7 a) < 0 then (some true) else (if 0 ≤ a∧a < (a0.f7.length : Int) then (if (rd a0.f7 a) ≥ a0.f0.f0 then (some true) else (if a > 0 then (if 0 ≤ a∧a < (a0.f7.length : Int) then (if 0 ≤ (i64.wrap (a - 1))∧(i64.wrap (a - 1)) < (a0.f7.length : Int) then (some (decide ((rd a0.f7 a) ≤ (rd a0.f7 (i64.wrap (a - 1)))))) else none) else none) else (some false))) else none)) else none : Option (Bool)).bind (fun c=>if c = true then (some (Out.ret (false))) else (lt (i64.wrap (a + 1)) fun b=>fS.l0 a0 k b))) else (some (Out.go ()))
def fS.f (k : Nat) (a0 : aG) : Option (Bool):=(gi.f k a0.f0).bind (fun l=>(if (!l) = true then (some true) else ((mh.f a0.f0 a0.f1 a0.f2 a0.f3).bind (fun m=>some (!m))) : Option Bool).bind (fun o=>(if o = true then (some true) else ((mh.f a0.f0 a0.f14.f0 a0.f14.f1 a0.f14.f2).bind (fun gy=>some (!gy))) : Option Bool).bind (fun p=>lt (p || (decide (a0.f5 < 0))) fun q=>lt (q || (decide (a0.f5 > a0.f6))) fun r=>lt (r || (decide (a0.f6 ≥ a0.f0.f1))) fun s=>(if s = true then (some true) else ((qR.f a0.f4).bind (fun u=>some (!u))) : Option Bool).bind (fun y=>(if y = true then (some true) else ((qR.f a0.f14.f4).bind (fun z=>some (!z))) : Option Bool).bind (fun B=>if B = true then (some (false)) else ((fS.l0 a0 k 0 : Option (Out (Bool) (Unit))).bind (fun D=>Out.el D (fun r_=>some r_) (fun F=>if (a0.f17.length : Int) > 256 then (some (false)) else ((fS.l1 a0 k 0 : Option (Out (Bool) (Unit))).bind (fun a=>Out.el a (fun r_=>some r_) (fun E=>if a0.f15 = true then ((gi.f k a0.f16).bind (fun b=>lt (b && (decide (a0.f16.f0 = a0.f0.f0))) fun c=>lt (c && (decide (a0.f16.f1 = a0.f0.f1))) fun d=>some (d))) else (lt ((decide (a0.f16.f0 = 0)) && (decide (a0.f16.f1 = 0))) fun h=>lt (h && (decide ((a0.f16.f2.length : Int) = 0))) fun j=>some (j)))))))))))))
theorem fS.ok {a0 : aG} {r : Bool} (H : fS.f k a0 = some r) : fK Tryz.prog 15 #[.agg (al a0 ag af az ay aw ar av au).toArray] (aS a0 ag af az ay aw ar av au) (.bool r):=by
 refine ai Tryz.func15 rfl rfl ?_
 unfold fS.f at H
 refine aQ (o' (bN (h:=fun l=>ad aV (h:=cV (ad aE (h:=bD (cG l 0 4 [ae a0.f0.f0,ae a0.f0.f1,.slice ag a0.f0.f2.length af]) (h:=o' (cy (h:=fun o=>o' (bg o 0 5 [ae a0.f0.f0,ae a0.f0.f1,.slice ag a0.f0.f2.length af] (h:=bC (ao (ao (bj 0 fun h3=>?_))))))))))))))
 refine bj 1 fun g9=>bj 2 fun h0=>bj 3 fun h1=>ah (l' (cG o 0 5 [ae a0.f0.f0,ae a0.f0.f1,.slice ag a0.f0.f2.length af]) ?_)
 obtain⟨h4,e0,H⟩:=ac H
 refine o' (da [0] [1,2,3,4,5] (gi.ok e0) ?_)
 refine ad (ca rfl) (h:=S' ax ?_)
 obtain⟨g0,H,f6⟩:=ac H
 refine eg 10 [(1,aK l),(3,aK o),(21,.bool g0)] (aS a0 ag af az ay aw ar av au++[aL l 34 (al a0 ag af az ay aw ar av au),aL o 26 [ae a0.f0.f0,ae a0.f0.f1,.slice ag a0.f0.f2.length af]]) ?_ fun junk=>?_
 ·rcases bH H with⟨B,H⟩|⟨B,H⟩
  ·refine cI 9 B (ii B ?_)
   have h:=aN H;subst h
   exact dV [0,1,2,3,4,5]
  refine dc (aX B) (cG o 0 5 [ae a0.f0.f0,ae a0.f0.f1,.slice ag a0.f0.f2.length af]) (h:=bn (aX B) aE (h:=dc (aX B) (aT 4) (h:=bn (aX B) aE (h:=dc (aX B) (aT 4) (h:=bn (aX B) aE (h:=z' (aX B) (aT 4) ?_))))))
  obtain⟨h5,g1,H⟩:=ac H
  refine gE (aX B) (da [0] [1,2,3,4,5] (mh.ok g1) ?_)
  refine bn (aX B) (ca rfl) (h:=gL (aX B) ?_)
  have h:=aN H;subst h
  exact dV [0,1,2,3,4,5]
 replace H:=f6
 refine S' ax ?_
 obtain⟨e7,H,f8⟩:=ac H
 refine eg 13 [(1,aK l),(3,aK o),(35,.bool e7)] (aS a0 ag af az ay aw ar av au++[aL l 34 (al a0 ag af az ay aw ar av au),aL o 26 [ae a0.f0.f0,ae a0.f0.f1,.slice ag a0.f0.f2.length af]]) ?_ fun junk=>?_
 ·rcases bH H with⟨u,H⟩|⟨u,H⟩
  ·refine cI 12 u (ii u ?_)
   have h:=aN H;subst h
   exact dV [0,1,2,3,4,5]
  refine dc (aX u) (cG o 0 5 [ae a0.f0.f0,ae a0.f0.f1,.slice ag a0.f0.f2.length af]) (h:=bn (aX u) aE (h:=bn (aX u) aE (h:=dc (aX u) (aT 4) (h:=bn (aX u) aE (h:=bn (aX u) aE (h:=dc (aX u) (aT 4) (h:=bn (aX u) aE (h:=bn (aX u) aE (h:=z' (aX u) (aT 4) ?_)))))))))
  obtain⟨gy,g2,H⟩:=ac H
  refine gE (aX u) (da [0] [1,2,3,4,5] (mh.ok g2) ?_)
  refine bn (aX u) (ca rfl) (h:=gL (aX u) ?_)
  have h:=aN H;subst h
  exact dV [0,1,2,3,4,5]
 replace H:=f8
 refine S' ax ?_
 obtain⟨e8,c6,H⟩:=br H
 refine eg 4 [(1,aK l),(3,aK o),(40,.bool e8)] (aS a0 ag af az ay aw ar av au++[aL l 34 (al a0 ag af az ay aw ar av au),aL o 26 [ae a0.f0.f0,ae a0.f0.f1,.slice ag a0.f0.f2.length af]]) ?_ fun junk=>?_
 ·by_cases J : e7 = true
  ·refine cI 3 J (cq J (h:=aj ?_))
   have x_:=jL c6 J;exact bM [0,1,2,3,4,5]
  refine bn (aX J) aE (h:=dc (aX J) (aT 4) (h:=bn (aX J) (cn rfl rfl) (h:=cv (aX J) (h:=aj ?_))))
  have x_:=jN c6 ((aX J));exact bM [0,1,2,3,4,5]
 refine S' ax ?_
 obtain⟨e9,c7,H⟩:=br H
 refine eg 6 [(1,aK l),(3,aK o),(47,.bool e9)] (aS a0 ag af az ay aw ar av au++[aL l 34 (al a0 ag af az ay aw ar av au),aL o 26 [ae a0.f0.f0,ae a0.f0.f1,.slice ag a0.f0.f2.length af]]) ?_ fun junk=>?_
 ·by_cases E : e8 = true
  ·refine cI 5 E (cq E (h:=aj ?_))
   have x_:=jL c7 E;exact bM [0,1,2,3,4,5]
  refine bn (aX E) aE (h:=dc (aX E) (aT 4) (h:=bn (aX E) aE (h:=dc (aX E) (aT 4) (h:=bn (aX E) (eR rfl rfl) (h:=cv (aX E) (h:=aj ?_))))))
  have x_:=jN c7 ((aX E));exact bM [0,1,2,3,4,5]
 refine S' ax ?_
 obtain⟨g3,c8,H⟩:=br H
 refine eg 6 [(1,aK l),(3,aK o),(54,.bool g3)] (aS a0 ag af az ay aw ar av au++[aL l 34 (al a0 ag af az ay aw ar av au),aL o 26 [ae a0.f0.f0,ae a0.f0.f1,.slice ag a0.f0.f2.length af]]) ?_ fun junk=>?_
 ·by_cases F : e9 = true
  ·refine cI 5 F (cq F (h:=aj ?_))
   have x_:=jL c8 F;exact bM [0,1,2,3,4,5]
  refine bn (aX F) aE (h:=dc (aX F) (aT 4) (h:=bn (aX F) aE (h:=dc (aX F) (aT 5) (h:=bn (aX F) (dI rfl rfl) (h:=cv (aX F) (h:=aj ?_))))))
  have x_:=jN c8 ((aX F));exact bM [0,1,2,3,4,5]
 refine S' ax ?_
 obtain⟨g4,H,f9⟩:=ac H
 refine eg 5 [(1,aK l),(3,aK o),(60,.bool g4)] (aS a0 ag af az ay aw ar av au++[aL l 34 (al a0 ag af az ay aw ar av au),aL o 26 [ae a0.f0.f0,ae a0.f0.f1,.slice ag a0.f0.f2.length af]]) ?_ fun junk=>?_
 ·rcases bH H with⟨K,H⟩|⟨K,H⟩
  ·refine cI 4 K (ii K ?_)
   have h:=aN H;subst h
   exact dV [0,1,2,3,4,5]
  refine bn (aX K) aE (h:=z' (aX K) (cG l 6 4 (bG a0.f4)) ?_)
  obtain⟨h6,g5,H⟩:=ac H
  refine gE (aX K) (da [] [0,1,2,3,4,5] (qR.ok g5) ?_)
  refine bn (aX K) (ca rfl) (h:=gL (aX K) ?_)
  have h:=aN H;subst h
  exact dV [0,1,2,3,4,5]
 replace H:=f9
 refine S' ax ?_
 obtain⟨g6,H,c9⟩:=ac H
 refine cD 6 (St [(1,aK l),(3,aK o),(67,.bool g6)] (aS a0 ag af az ay aw ar av au++[aL l 34 (al a0 ag af az ay aw ar av au),aL o 26 [ae a0.f0.f0,ae a0.f0.f1,.slice ag a0.f0.f2.length af]])) ?_ ?_
 ·rcases bH H with⟨I,H⟩|⟨I,H⟩
  ·refine cI 5 I (ii I ?_)
   have h:=aN H;subst h
   exact dV [0,1,2,3,4,5]
  refine bn (aX I) aE (h:=bn (aX I) aE (h:=z' (aX I) (cG l 29 4 (bG a0.f14.f4)) ?_))
  obtain⟨h7,g7,H⟩:=ac H
  refine gE (aX I) (da [] [0,1,2,3,4,5] (qR.ok g7) ?_)
  refine bn (aX I) (ca rfl) (h:=gL (aX I) ?_)
  have h:=aN H;subst h
  exact dV [0,1,2,3,4,5]
 rintro e ds As e1
 clear H
 have H:=c9
 clear c9
 refine bC (SA.of_St e1 fun junk=>?_)
 rcases bH H with⟨d0,H⟩|⟨d0,H⟩
 ·refine aC rfl d0 (aQ (ad aV (h:=cE ?_)))
  have h:=aN H;subst h
  exact er [0,1,2,3] ⟨rfl,rfl⟩
 refine aD rfl d0 (ap (aa (ao (aQ (ad aV (h:=bC ?_))))))
 obtain⟨f3,H,L⟩:=ac H
 refine bI (fun e ds As=>∃ (f5 : Unit),f3 = Out.go f5∧St [(1,aK l),(3,aK o)] (aS a0 ag af az ay aw ar av au++[aL l 34 (al a0 ag af az ay aw ar av au),aL o 26 [ae a0.f0.f0,ae a0.f0.f1,.slice ag a0.f0.f2.length af]]) e ds As) ?_ ?_
 ·refine aU (cw (fun k_ e ds As=>∃ (c : Int),fS.l0 a0 k_ c = some f3∧St [(1,aK l),(3,aK o),(4,ae c)] (aS a0 ag af az ay aw ar av au++[aL l 34 (al a0 ag af az ay aw ar av au),aL o 26 [ae a0.f0.f0,ae a0.f0.f1,.slice ag a0.f0.f2.length af]]) e ds As) (k:=k) ⟨_,H,kW [0,1,2,3,4,5]⟩ ?_)
  clear H
  rintro d1 e ds As ⟨c,H,e2⟩
  obtain _ | d1:=d1
  ·cases H
  rw [fS.l0] at H
  refine SA.of_St e2 fun junk=>ao (aQ (ad ax (h:=ad aE (h:=bD (aT 4) (h:=bO (ae (a0.f7.length : Int)) (dB Tryz.underlying29 rfl) (h:=ad (cn rfl rfl) (h:=bC ?_)))))))
  rcases bH H with⟨d2,H⟩|⟨d2,H⟩
  ·refine aB rfl d2 (ap (aa (ao (aU (ao ?_)))))
   obtain⟨g8,H,d3⟩:=ac H
   refine bI (St [(1,aK l),(3,aK o),(4,ae c),(108,.bool g8)] (aS a0 ag af az ay aw ar av au++[aL l 34 (al a0 ag af az ay aw ar av au),aL o 26 [ae a0.f0.f0,ae a0.f0.f1,.slice ag a0.f0.f2.length af]])) ?_ ?_
   ·refine fk (dG 0 34) [1,4,5] [0,2,3] fun _ _ _ _ _ sH dd pk=>?_
    refine bf 0 rfl sH aE (h:=bT 1 rfl sH (aT 1) (h:=T' 2 rfl sH ax ?_))
    obtain⟨⟨d4,d5⟩,H⟩:=aR H
    refine bT 3 rfl sH (bK (i:=c) Tryz.underlying29 jG rfl rfl (Src.buf (k:=0) rfl) d4 d5) (h:=bT 4 rfl sH (bQ (enc:=(fun x_ : Int=>[Value.int .i64 x_])) (i:=c) (j:=c.toNat * 1) (m:=0) (sz:=1) Tryz.underlying3 rfl rfl rfl rfl (Src.buf (k:=0) rfl) d4 d5 (fun _ _ h=>h) rfl) (h:=bf 5 rfl sH (cn rfl rfl) (h:=T' 6 rfl sH ax ?_)))
    rcases bH H with⟨b,H⟩|⟨b,H⟩
    ·refine cb 7 rfl (ak b) (cb 8 rfl (ak b) (cb 9 rfl (ak b) (cb 10 rfl (ak b) (cb 11 rfl (ak b) (cb 12 rfl (ak b) (cb 13 rfl (ak b) (cb 14 rfl (ak b) (bT 15 rfl sH (VR.ofV (bX rfl (ak b) rfl)) (h:=T' 16 rfl sH ax ?_)))))))))
     refine cb 17 rfl rfl (cb 18 rfl rfl (cb 19 rfl rfl (cQ 20 rfl (cQ 21 rfl (cQ 22 rfl (cQ 23 rfl (cQ 24 rfl (cQ 25 rfl (cQ 26 rfl ?_)))))))))
     refine cQ 27 rfl (cQ 28 rfl (cQ 29 rfl (cQ 30 rfl (cQ 31 rfl (cb 32 rfl rfl (bT 33 rfl sH (VR.ofV (bX rfl (rfl) rfl)) (h:=aW dd sH (aH (by kernel_rfl) ?_))))))))
     have h:=aN H;subst h
     exact bM [3,0,4,5,1,2]
    refine du 7 rfl (am b) sH aE (h:=cU 8 rfl (am b) sH (aT 1) (h:=ml 9 rfl (am b) sH ax ?_))
    obtain⟨⟨d6,d7⟩,H⟩:=aR H
    refine cU 10 rfl (am b) sH (bK (i:=c) Tryz.underlying29 jG rfl rfl (Src.buf (k:=0) rfl) d6 d7) (h:=cU 11 rfl (am b) sH (bQ (enc:=(fun x_ : Int=>[Value.int .i64 x_])) (i:=c) (j:=c.toNat * 1) (m:=0) (sz:=1) Tryz.underlying3 rfl rfl rfl rfl (Src.buf (k:=0) rfl) d6 d7 (fun _ _ h=>h) rfl) (h:=du 12 rfl (am b) sH aE (h:=cU 13 rfl (am b) sH (aT 2) (h:=du 14 rfl (am b) sH (dI rfl rfl) (h:=bT 15 rfl sH (VR.ofV (bY rfl (am b) rfl)) (h:=T' 16 rfl sH ax ?_))))))
    rcases bH H with⟨d,H⟩|⟨d,H⟩
    ·refine cb 17 rfl (ak d) (cb 18 rfl (ak d) (cb 19 rfl (ak d) (cQ 20 rfl (cQ 21 rfl (cQ 22 rfl (cQ 23 rfl (cQ 24 rfl (cQ 25 rfl (cQ 26 rfl ?_)))))))))
     refine cQ 27 rfl (cQ 28 rfl (cQ 29 rfl (cQ 30 rfl (cQ 31 rfl (cb 32 rfl (ak d) (bT 33 rfl sH (VR.ofV (bX rfl (ak d) rfl)) (h:=aW dd sH (aH (by kernel_rfl) ?_))))))))
     have h:=aN H;subst h
     exact bM [3,0,4,5,1,2]
    refine du 17 rfl (am d) sH ax (h:=du 18 rfl (am d) sH (eR rfl rfl) (h:=ml 19 rfl (am d) sH ax ?_))
    rcases bH H with⟨a,H⟩|⟨a,H⟩
    ·refine du 20 rfl (ak a) sH aE (h:=cU 21 rfl (ak a) sH (aT 1) (h:=ml 22 rfl (ak a) sH ax ?_))
     obtain⟨⟨a3,a4⟩,H⟩:=aR H
     refine cU 23 rfl (ak a) sH (bK (i:=c) Tryz.underlying29 jG rfl rfl (Src.buf (k:=0) rfl) a3 a4) (h:=cU 24 rfl (ak a) sH (bQ (enc:=(fun x_ : Int=>[Value.int .i64 x_])) (i:=c) (j:=c.toNat * 1) (m:=0) (sz:=1) Tryz.underlying3 rfl rfl rfl rfl (Src.buf (k:=0) rfl) a3 a4 (fun _ _ h=>h) rfl) (h:=du 25 rfl (ak a) sH aE (h:=cU 26 rfl (ak a) sH (aT 1) (h:=du 27 rfl (ak a) sH ax (h:=ml 28 rfl (ak a) sH (cY rfl rfl) ?_)))))
     obtain⟨⟨a5,a6⟩,H⟩:=aR H
     refine cU 29 rfl (ak a) sH (bK (i:=i64.wrap (c - 1)) Tryz.underlying29 jG rfl rfl (Src.buf (k:=0) rfl) a5 a6) (h:=cU 30 rfl (ak a) sH (bQ (enc:=(fun x_ : Int=>[Value.int .i64 x_])) (i:=i64.wrap (c - 1)) (j:=(i64.wrap (c - 1)).toNat * 1) (m:=0) (sz:=1) Tryz.underlying3 rfl rfl rfl rfl (Src.buf (k:=0) rfl) a5 a6 (fun _ _ h=>h) rfl) (h:=du 31 rfl (ak a) sH (fV rfl rfl) (h:=cU 32 rfl (am d) sH (VR.ofV (bX rfl (ak a) rfl)) (h:=bT 33 rfl sH (VR.ofV (bY rfl (am d) rfl)) (h:=aW dd sH (aH (by kernel_rfl) ?_))))))
     have h:=aN H;subst h
     exact bM [3,0,4,5,1,2]
    refine cb 20 rfl (am a) (cb 21 rfl (am a) (cb 22 rfl (am a) (cb 23 rfl (am a) (cb 24 rfl (am a) (cb 25 rfl (am a) (cb 26 rfl (am a) (cb 27 rfl (am a) (cb 28 rfl (am a) (cb 29 rfl (am a) ?_)))))))))
    refine cb 30 rfl (am a) (cb 31 rfl (am a) (cU 32 rfl (am d) sH (VR.ofV (bY rfl (am a) rfl)) (h:=bT 33 rfl sH (VR.ofV (bY rfl (am d) rfl)) (h:=aW dd sH (aH (by kernel_rfl) ?_)))))
    have h:=aN H;subst h
    exact bM [3,0,4,5,1,2]
   rintro e ds As b6
   clear H
   have H:=d3
   clear d3
   refine aa (SA.of_St b6 fun junk=>?_)
   rcases bH H with⟨M,H⟩|⟨M,H⟩
   ·refine aC rfl M (aQ (ad aV (h:=cF (bi (aI (aI (bi (aI (aI ?_)))))))))
    have h:=aN H;subst h
    have hb_:=dS L
    have hr_:=Option.some.inj hb_
    clear hb_
    subst hr_
    exact er [0,1,2,3] ⟨rfl,rfl⟩
   refine aD rfl M (ap (aF (aa (ah (ad ax (h:=S' (bV rfl rfl) ?_))))))
   obtain⟨a7,d8,H⟩:=br H
   refine bO (ae a7) (bz (v:=ae a7) (congrArg (Value.int .i64) d8.symm)) (h:=aj ?_)
   exact aa ⟨d1,Nat.lt_succ_self _,_,H,ed [0,1,2,3,4,5]⟩
  refine aA rfl d2 (ct (bc (bc (cr ?_))))
  have h:=aN H;subst h
  exact aa ⟨(),rfl,ed [0,1,2,3,4,5]⟩
 rintro e ds As ⟨f5,ht,b8⟩
 clear H
 subst ht
 replace L:=fW L
 have H:=L
 clear L
 refine aa (SA.of_St b8 fun junk=>ao (aQ (ad aE (h:=bD (aT 4) (h:=bO (ae (a0.f17.length : Int)) (dB Tryz.underlying32 rfl) (h:=ad (eR rfl rfl) (h:=bC ?_)))))))
 rcases bH H with⟨N,H⟩|⟨N,H⟩
 ·refine aB rfl N (aQ (ad aV (h:=cE ?_)))
  have h:=aN H;subst h
  exact er [0,1,2,3] ⟨rfl,rfl⟩
 refine aA rfl N (ap (aa (ao (aQ (ad aV (h:=bC ?_))))))
 obtain⟨a8,H,D⟩:=ac H
 refine bI (fun e ds As=>∃ (a9 : Unit),a8 = Out.go a9∧St [(1,aK l),(3,aK o)] (aS a0 ag af az ay aw ar av au++[aL l 34 (al a0 ag af az ay aw ar av au),aL o 26 [ae a0.f0.f0,ae a0.f0.f1,.slice ag a0.f0.f2.length af]]) e ds As) ?_ ?_
 ·refine aU (cw (fun k_ e ds As=>∃ (z : Int),fS.l1 a0 k_ z = some a8∧St [(1,aK l),(3,aK o),(5,ae z)] (aS a0 ag af az ay aw ar av au++[aL l 34 (al a0 ag af az ay aw ar av au),aL o 26 [ae a0.f0.f0,ae a0.f0.f1,.slice ag a0.f0.f2.length af]]) e ds As) (k:=k) ⟨_,H,kW [0,1,2,3,4,5]⟩ ?_)
  clear H
  rintro O e ds As ⟨z,H,b9⟩
  obtain _ | O:=O
  ·cases H
  rw [fS.l1] at H
  refine SA.of_St b9 fun junk=>ao (aQ (ad ax (h:=ad aE (h:=bD (aT 4) (h:=bO (ae (a0.f17.length : Int)) (dB Tryz.underlying32 rfl) (h:=ad (cn rfl rfl) (h:=bC ?_)))))))
  rcases bH H with⟨R,H⟩|⟨R,H⟩
  ·refine aB rfl R (ap (aa (ao (aU (aQ (ad aE (h:=bD (aT 4) (h:=S' ax ?_))))))))
   obtain⟨⟨b0,b1⟩,H⟩:=aR H
   refine bD (bK (i:=z) Tryz.underlying32 kP rfl rfl (Src.buf (k:=3) rfl) b0 b1) (h:=bD (bQ (enc:=(fun x_ : Int=>[Value.int .i32 x_])) (i:=z) (j:=z.toNat * 1) (m:=0) (sz:=1) Tryz.underlying21 rfl rfl rfl rfl (Src.buf (k:=3) rfl) b0 b1 (fun _ _ h=>h) rfl) (h:=ad (cn rfl rfl) (h:=bC ?_)))
   rcases bH H with⟨S,H⟩|⟨S,H⟩
   ·refine aB rfl S (aQ (ad aV (h:=cF (bi (aI (aI (bi (aI (aI ?_)))))))))
    have h:=aN H;subst h
    have hb_:=dS D
    have hr_:=Option.some.inj hb_
    clear hb_
    subst hr_
    exact er [0,1,2,3] ⟨rfl,rfl⟩
   refine aA rfl S (ap (aF (aa (ah (ad ax (h:=S' (bV rfl rfl) ?_))))))
   obtain⟨b2,d9,H⟩:=br H
   refine bO (ae b2) (bz (v:=ae b2) (congrArg (Value.int .i64) d9.symm)) (h:=aj ?_)
   exact aa ⟨O,Nat.lt_succ_self _,_,H,ed [0,1,2,3,4,5]⟩
  refine aA rfl R (ct (bc (bc (cr ?_))))
  have h:=aN H;subst h
  exact aa ⟨(),rfl,ed [0,1,2,3,4,5]⟩
 rintro e ds As ⟨a9,ht,c5⟩
 clear H
 subst ht
 replace D:=fW D
 have H:=D
 clear D
 refine aa (SA.of_St c5 fun junk=>ao (aQ (ad aE (h:=bD (aT 4) (h:=bC ?_)))))
 rcases bH H with⟨U,H⟩|⟨U,H⟩
 ·refine aC rfl U (aQ (ad aE (h:=l' (cG l 40 4 [ae a0.f16.f0,ae a0.f16.f1,.slice aw a0.f16.f2.length ar]) ?_)))
  obtain⟨e3,e4,H⟩:=ac H
  refine o' (da [2] [0,1,3,4,5] (gi.ok e4) ?_)
  refine S' ax ?_
  obtain⟨b3,Y,H⟩:=br H
  refine eg 7 [(1,aK l),(3,aK o),(138,.bool b3)] (aS a0 ag af az ay aw ar av au++[aL l 34 (al a0 ag af az ay aw ar av au),aL o 26 [ae a0.f0.f0,ae a0.f0.f1,.slice ag a0.f0.f2.length af]]) ?_ fun junk=>?_
  ·by_cases p : e3 = true
   ·refine bn p aE (h:=bn p aE (h:=dc p (aT 4) (h:=bn p aE (h:=dc p (aT 5) (h:=bn p (bk rfl rfl) (h:=cq p (h:=aj ?_)))))))
    have x_:=gD Y p;exact bM [1,2,0,3,4,5]
   refine cI 6 (aX p) (cv (aX p) (h:=aj ?_))
   have x_:=gC Y ((aX p));exact bM [1,2,0,3,4,5]
  refine S' ax ?_
  obtain⟨e5,Z,H⟩:=br H
  refine eg 7 [(146,.bool e5)] (aS a0 ag af az ay aw ar av au) ?_ fun junk=>?_
  ·by_cases q : b3 = true
   ·refine bn q aE (h:=bn q aE (h:=dc q (aT 4) (h:=bn q aE (h:=dc q (aT 5) (h:=bn q (bk rfl rfl) (h:=cq q (h:=aj ?_)))))))
    have x_:=gD Z q;exact bM [0,1,2,3]
   refine cI 6 (aX q) (cv (aX q) (h:=aj ?_))
   have x_:=gC Z ((aX q));exact bM [0,1,2,3]
  refine ad aV (h:=cE ?_)
  have h:=aN H;subst h
  exact er [0,1,2,3] ⟨rfl,rfl⟩
 refine aD rfl U (ap (aa (aQ (ad aE (h:=ad aE (h:=bD (aT 4) (h:=ad (bk rfl rfl) (h:=S' ax ?_))))))))
 obtain⟨b4,a1,H⟩:=br H
 refine eg 5 [(1,aK l),(156,.bool b4)] (aS a0 ag af az ay aw ar av au++[aL l 34 (al a0 ag af az ay aw ar av au)]) ?_ fun junk=>?_
 ·by_cases y : a0.f16.f0 = 0
  ·refine bn (ak y) aE (h:=bn (ak y) aE (h:=dc (ak y) (aT 4) (h:=bn (ak y) (bk rfl rfl) (h:=cq (ak y) (h:=aj ?_)))))
   have x_:=gD a1 ((ak y));exact bM [0,1,2,3,4]
  refine cI 4 (am y) (cv (am y) (h:=aj ?_))
  have x_:=gC a1 ((am y));exact bM [0,1,2,3,4]
 refine S' ax ?_
 obtain⟨e6,a2,H⟩:=br H
 refine eg 6 [(163,.bool e6)] (aS a0 ag af az ay aw ar av au) ?_ fun junk=>?_
 ·by_cases s : b4 = true
  ·refine bn s aE (h:=bn s aE (h:=dc s (aT 4) (h:=kQ s (ae (a0.f16.f2.length : Int)) (dB Tryz.underlying24 rfl) (h:=bn s (bk rfl rfl) (h:=cq s (h:=aj ?_))))))
   have x_:=gD a2 s;exact bM [0,1,2,3]
  refine cI 5 (aX s) (cv (aX s) (h:=aj ?_))
  have x_:=gC a2 ((aX s));exact bM [0,1,2,3]
 refine ad aV (h:=cF ?_)
 have h:=aN H;subst h
 exact er [0,1,2,3] ⟨rfl,rfl⟩


def iQ.f (a0 : bF) : Option (bF):=if ([] : (List aZ)).length + a0.f2.length ≤ 2932031007402 then lt (([] : (List aZ)) ++ a0.f2) fun n12=>(some ((bF.mk a0.f0 a0.f1 n12))) else none
theorem iQ.ok {a0 : bF} {r : bF} (H : iQ.f a0 = some r) : df Tryz.prog 65 #[.agg #[ae a0.f0,ae a0.f1,.slice ag a0.f2.length af]] [Buf bE 55 ag af a0.f2] (fun v B=>∃ aP aO,v = .agg #[ae r.f0,ae r.f1,.slice aP r.f2.length aO]∧B = [Buf bE 55 aP aO r.f2,Buf bE 55 ag af a0.f2]):=by
 refine ai Tryz.func65 rfl rfl ?_
 unfold iQ.f at H
 refine aQ (o' (bN (h:=fun j=>o' (cy (h:=fun l=>cV (o' (hU (kd:=bE) (zv:=(.agg (bR lP).toArray)) (sz:=15) (cells:=[]) (xs:=([] : (List aZ))) rfl Tryz.underlying24 jX cl rfl rfl rfl (by kernel_rfl) rfl rfl (dL di (fun _ _=>rfl) (by kernel_rfl)) fun m=>ad aE (h:=l' (aT 1) ?_))))))))
 obtain⟨o,H⟩:=aR H
 obtain⟨n12,d,H⟩:=br H
 refine o' (gZ (k:=3) (A:=some ⟨m,0,none⟩) (c:=0) (xs:=([] : (List aZ))) (ys:=a0.f2) n12 d rfl Tryz.underlying24 nl rfl rfl rfl rfl rfl (oe.slice Tryz.underlying24 (Src.buf (k:=0) rfl)) (by omega) (by omega) fun a b=>ad aE (h:=o' (cH 1 [.slice a n12.length b] (h:=(cV (bD (cG j 0 1 [ae a0.f0,ae a0.f1,.slice a n12.length b]) (h:=o' (bg l 0 2 [ae a0.f0,ae a0.f1,.slice a n12.length b] (h:=cF ?_)))))))))
 have h:=aN H;subst h
 exact gH (rs:=[.cell 2 26]) (vs:=[.agg #[ae a0.f0,ae a0.f1,.slice a n12.length b]]) [Buf bE 55 a b n12,Buf bE 55 ag af a0.f2] rfl ⟨RV.cell (k:=2) rfl rfl Tryz.underlying26 rfl uU,trivial⟩ rfl (eY [3,0]) ⟨a,b,rfl,rfl⟩


def nk.f (a0 : aG) : Option (aG):=(iQ.f a0.f0).bind (fun a=>(iQ.f a0.f16).bind (fun b=>if ([] : (List Int)).length + a0.f7.length ≤ 17592186044416 then lt (([] : (List Int)) ++ a0.f7) fun c=>(if ([] : (List Int)).length + a0.f17.length ≤ 35184372088832 then lt (([] : (List Int)) ++ a0.f17) fun d=>(some (({ a0 with f0:=a,f7:=c,f16:=b,f17:=d }))) else none) else none))
theorem nk.ok {a0 : aG} {r : aG} (H : nk.f a0 = some r) : df Tryz.prog 19 #[.agg (al a0 ag af az ay aw ar av au).toArray] (aS a0 ag af az ay aw ar av au) (fun v B=>∃ aP aO bA bv bq bp bB bw,v = .agg (al r aP aO bA bv bq bp bB bw).toArray∧B = (aS r aP aO bA bv bq bp bB bw++aS a0 ag af az ay aw ar av au)):=by
 refine ai Tryz.func19 rfl rfl ?_
 unfold nk.f at H
 refine aQ (o' (bN (h:=fun K=>o' (cy (h:=fun L=>bC (ao (bj 0 fun U=>bj 1 fun M=>bj 2 fun N=>bj 3 fun O=>?_)))))))
 refine fk [0,1,3,4,6] [4] [0,1,2,3,5] fun _ _ _ _ _ sH dd pk=>?_
 refine bf 0 rfl sH aE (h:=bT 1 rfl sH (cG K 0 0 [ae a0.f0.f0,ae a0.f0.f1,.slice ag a0.f0.f2.length af]) (h:=bf 3 rfl sH aE (h:=r' 4 rfl sH (cG K 40 0 [ae a0.f16.f0,ae a0.f16.f1,.slice aw a0.f16.f2.length ar]) ?_)))
 obtain⟨a,E,H⟩:=ac H
 refine dx 2 rfl dd (gu [0] [1,2,3,4] (iQ.ok E) fun d j=>?_)
 refine T' 6 rfl sH aE ?_
 obtain⟨b,F,H⟩:=ac H
 refine dx 5 rfl dd (gu [3] [0,1,2,4,5] (iQ.ok F) fun l m=>?_)
 refine aW dd sH (ey 7 rfl (cH 0 [ae a.f0,ae a.f1,.slice d a.f2.length j] (h:=(bW 8 rfl aE (h:=ey 9 rfl (cH 0 [ae b.f0,ae b.f1,.slice l b.f2.length m] (h:=(aH (by kernel_rfl) (aa (aQ (o' (hU (kd:=(Kd.int .i64)) (zv:=(ae 0)) (sz:=1) (cells:=[]) (xs:=([] : (List Int))) rfl Tryz.underlying29 ot jG rfl rfl rfl (by kernel_rfl) rfl rfl (dL (fun x_ : Int=>[Value.int .i64 x_]) (fun _ _=>rfl) (by kernel_rfl)) fun I=>ad aE (h:=l' (aT 0) ?_)))))))))))))
 obtain⟨R,H⟩:=aR H
 obtain⟨o,z,H⟩:=br H
 refine o' (gZ (k:=8) (A:=some ⟨I,0,none⟩) (c:=0) (xs:=([] : (List Int))) (ys:=a0.f7) o z rfl Tryz.underlying29 qA rfl rfl rfl rfl rfl (oe.slice Tryz.underlying29 (Src.buf (k:=5) rfl)) (by omega) (by omega) fun p q=>ad aE (h:=o' (cH 0 [.slice p o.length q] (h:=(cV (o' (hU (kd:=(Kd.int .i32)) (zv:=(aJ 0)) (sz:=1) (cells:=[]) (xs:=([] : (List Int))) rfl Tryz.underlying32 tW kP rfl rfl rfl (by kernel_rfl) rfl rfl (dL (fun x_ : Int=>[Value.int .i32 x_]) (fun _ _=>rfl) (by kernel_rfl)) fun J=>ad aE (h:=l' (aT 0) ?_))))))))
 obtain⟨S,H⟩:=aR H
 obtain⟨s,D,H⟩:=br H
 refine o' (gZ (k:=9) (A:=some ⟨J,0,none⟩) (c:=0) (xs:=([] : (List Int))) (ys:=a0.f17) s D rfl Tryz.underlying32 vI rfl rfl rfl rfl rfl (oe.slice Tryz.underlying32 (Src.buf (k:=6) rfl)) (by omega) (by omega) fun u y=>ad aE (h:=o' (cH 0 [.slice u s.length y] (h:=(cV (bD (ck 0) (h:=o' (bg L 0 7 (al ({ a0 with f0:=a,f7:=o,f16:=b,f17:=s }) d j p q l m u y) (h:=cF ?_)))))))))
 have h:=aN H;subst h
 exact gH (rs:=[.cell 2 34]) (vs:=[.agg (al ({ a0 with f0:=a,f7:=o,f16:=b,f17:=s }) d j p q l m u y).toArray]) (Buf bE 55 d j a.f2::fm 3 p q o::Buf bE 55 l m b.f2::jf 21 u y s::aS a0 ag af az ay aw ar av au) rfl ⟨RV.cell (k:=7) rfl rfl Tryz.underlying34 rfl sD,trivial⟩ rfl (eY [3,8,1,9,4,5,2,6]) ⟨d,j,p,q,l,m,u,y,rfl,rfl⟩


def eN.f (k : Nat) (a0 : aG) : Option (aG × Bool):=(fS.f k a0).bind (fun a=>if (!a) = true then (some (((aG.mk (bF.mk 0 0 ([] : (List aZ))) 0 0 false (cA.mk 0 0 false false false false false false false false) 0 0 ([] : (List Int)) false false false false false false (dq.mk 0 0 false false (cA.mk 0 0 false false false false false false false false)) false (bF.mk 0 0 ([] : (List aZ))) ([] : (List Int))),false))) else ((nk.f a0).bind (fun b=>some ((b,true)))))
theorem eN.ok {a0 : aG} {r : aG × Bool} (H : eN.f k a0 = some r) : df Tryz.prog 98 #[.agg (al a0 ag af az ay aw ar av au).toArray] (aS a0 ag af az ay aw ar av au) (fun v B=>∃ aP aO bA bv bq bp bB bw,v = .tuple #[.agg (al r.1 aP aO bA bv bq bp bB bw).toArray,.bool r.2]∧B = (aS r.1 aP aO bA bv bq bp bB bw++aS a0 ag af az ay aw ar av au)):=by
 refine ai Tryz.func98 rfl rfl ?_
 unfold eN.f at H
 refine aQ (o' (bN (h:=fun J=>o' (cy (h:=fun q=>ad aV (h:=bC (ao (ao (bj 0 fun F=>bj 1 fun z=>bj 2 fun D=>bj 3 fun E=>ah ?_)))))))))
 refine l' (ck 4) ?_
 obtain⟨I,s,H⟩:=ac H
 refine o' (da [0,1,2,3] [4,5] (fS.ok s) ?_)
 refine ad (ca rfl) (h:=bC ?_)
 rcases bH H with⟨a,H⟩|⟨a,H⟩
 ·refine aC rfl a (aQ (bO (.agg (al cx none 0 none 0 none 0 none 0).toArray) dA (h:=o' (bg q 0 5 (al cx none 0 none 0 none 0 none 0) (h:=ad aV (h:=cE ?_))))))
  have h:=aN H;subst h
  exact lT [.cell 2 34,.tmp 3] ((Gh.nilBuf bE 55).trans ((Gh.nilBuf (Kd.int .i64) 3).trans ((Gh.nilBuf bE 55).trans ((Gh.nilBuf (Kd.int .i32) 21).trans (eY [6,7,8,9,0,1,2,3]))))) ⟨none,0,none,0,none,0,none,0,rfl,rfl⟩ ⟨cR 5,cP,trivial⟩
 refine aD rfl a (ap (aa (aQ (l' (ck 4) ?_))))
 obtain⟨u,y,H⟩:=ac H
 refine o' (dN [0,1,2,3] [4,5] (nk.ok y) fun b c d j l m o p=>?_)
 refine o' (bg q 0 9 (al u b c d j l m o p) (h:=ad aV (h:=cF ?_)))
 have h:=aN H;subst h
 exact dt [.cell 2 34,.tmp 3] [0,1,2,3,4,5,6,7] ⟨b,c,d,j,l,m,o,p,rfl,rfl⟩ ⟨cR 9,cP,trivial⟩

end Go.Proofs.YtckilbegmbaeeaaGreat.Z3

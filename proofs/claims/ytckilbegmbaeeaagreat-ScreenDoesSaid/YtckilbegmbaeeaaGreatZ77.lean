/- Walks. -/
import Derived.Test.YtckilbegmbaeeaaGreatZ76
namespace Go.Proofs.YtckilbegmbaeeaaGreat.Z7
open Go Go.RowKit Go.Proofs.YtckilbegmbaeeaaGreat.SL
open Go.IntKind (i64)
set_option linter.unusedVariables false
set_option maxHeartbeats 20000000
set_option maxRecDepth 100000
set_option linter.unusedSimpArgs false
attribute [local irreducible] IntKind.wrap dm fE iD md lW rn lM fG ma rd sub bytesOf jD dv
variable {bg ag az av ax k : Nat}
variable {af ay au aw : Option Addr}
def fc.l1 (a0 : aJ) : Nat → Int → Option (Out (Bool) (Unit))
  | 0,_=>none
  | k + 1,a=>if a < (a0.f17.length : Int) then (if 0 ≤ a∧a < (a0.f17.length : Int) then (if (rd a0.f17 a) < 0 then (some (Out.ret (false))) else (lt (i64.wrap (a + 1)) fun b=>fc.l1 a0 k b)) else none) else (some (Out.go ()))
def fc.l0 (a0 : aJ) : Nat → Int → Option (Out (Bool) (Unit))
  | 0,_=>none
  | k + 1,a=>if a < (a0.f7.length : Int) then ((if 0 ≤ a∧a < (a0.f7.length : Int) then (if (rd a0.f7 a) < 0 then (some true) else (if 0 ≤ a∧a < (a0.f7.length : Int) then (if (rd a0.f7 a) ≥ a0.f0.f0 then (some true) else (if a > 0 then (if 0 ≤ a∧a < (a0.f7.length : Int) then (if 0 ≤ (i64.wrap (a - 1))∧(i64.wrap (a - 1)) < (a0.f7.length : Int) then (some (decide ((rd a0.f7 a) ≤ (rd a0.f7 (i64.wrap (a - 1)))))) else none) else none) else (some false))) else none)) else none : Option (Bool)).bind (fun c=>if c = true then (some (Out.ret (false))) else (lt (i64.wrap (a + 1)) fun b=>fc.l0 a0 k b))) else (some (Out.go ()))
def fc.f (k : Nat) (a0 : aJ) : Option (Bool):=(fB.f k a0.f0).bind (fun u=>(if (!u) = true then (some true) else ((kX.f a0.f0 a0.f1 a0.f2 a0.f3).bind (fun y=>some (!y))) : Option Bool).bind (fun l=>(if l = true then (some true) else ((kX.f a0.f0 a0.f14.f0 a0.f14.f1 a0.f14.f2).bind (fun gf=>some (!gf))) : Option Bool).bind (fun m=>lt (m || (decide (a0.f5 < 0))) fun o=>lt (o || (decide (a0.f5 > a0.f6))) fun p=>lt (p || (decide (a0.f6 ≥ a0.f0.f1))) fun q=>(if q = true then (some true) else ((qa.f a0.f4).bind (fun z=>some (!z))) : Option Bool).bind (fun r=>(if r = true then (some true) else ((qa.f a0.f14.f4).bind (fun B=>some (!B))) : Option Bool).bind (fun s=>if s = true then (some (false)) else ((fc.l0 a0 k 0 : Option (Out (Bool) (Unit))).bind (fun D=>Out.el D (fun r_=>some r_) (fun F=>if (a0.f17.length : Int) > 256 then (some (false)) else ((fc.l1 a0 k 0 : Option (Out (Bool) (Unit))).bind (fun j=>Out.el j (fun r_=>some r_) (fun E=>if a0.f15 = true then ((fB.f k a0.f16).bind (fun h=>lt (h && (decide (a0.f16.f0 = a0.f0.f0))) fun a=>lt (a && (decide (a0.f16.f1 = a0.f0.f1))) fun b=>some (b))) else (lt ((decide (a0.f16.f0 = 0)) && (decide (a0.f16.f1 = 0))) fun c=>lt (c && (decide ((a0.f16.f2.length : Int) = 0))) fun d=>some (d)))))))))))))
theorem fc.ok {a0 : aJ} {r : Bool} (H : fc.f k a0 = some r) : fU Tryz.prog 15 #[.agg (am a0 af ag ay az au av aw ax).toArray] (bn a0 af ag ay az au av aw ax) (.bool r):=by
 refine aj Tryz.func15 rfl rfl ?_
 unfold fc.f at H
 refine aP (o' (bO (h:=fun l=>ad aW (h:=cR (ad aA (h:=bq (cx l 0 4 [ae a0.f0.f0,ae a0.f0.f1,.slice af a0.f0.f2.length ag]) (h:=o' (cC (h:=fun o=>o' (bj o 0 5 [ae a0.f0.f0,ae a0.f0.f1,.slice af a0.f0.f2.length ag] (h:=bA (ap (ap (bQ 0 fun h3=>?_))))))))))))))
 refine bQ 1 fun g9=>bQ 2 fun h0=>bQ 3 fun h1=>ak (l' (cx o 0 5 [ae a0.f0.f0,ae a0.f0.f1,.slice af a0.f0.f2.length ag]) ?_)
 obtain⟨h4,e1,H⟩:=ac H
 refine o' (da [0] [1,2,3,4,5] (fB.ok e1) ?_)
 refine ad (bU rfl) (h:=S' ar ?_)
 obtain⟨g4,H,f6⟩:=ac H
 refine dy 10 [(1,aI l),(3,aI o),(21,.bool g4)] (bn a0 af ag ay az au av aw ax++[aL l 34 (am a0 af ag ay az au av aw ax),aL o 26 [ae a0.f0.f0,ae a0.f0.f1,.slice af a0.f0.f2.length ag]]) ?_ fun junk=>?_
 ·rcases bD H with⟨B,H⟩|⟨B,H⟩
  ·refine ct 9 B (gJ B ?_)
   have h:=aN H;subst h
   exact dQ [0,1,2,3,4,5]
  refine cn (aK B) (cx o 0 5 [ae a0.f0.f0,ae a0.f0.f1,.slice af a0.f0.f2.length ag]) (h:=aZ (aK B) aA (h:=cn (aK B) (aO 4) (h:=aZ (aK B) aA (h:=cn (aK B) (aO 4) (h:=aZ (aK B) aA (h:=z' (aK B) (aO 4) ?_))))))
  obtain⟨h5,g0,H⟩:=ac H
  refine fR (aK B) (da [0] [1,2,3,4,5] (kX.ok g0) ?_)
  refine aZ (aK B) (bU rfl) (h:=fZ (aK B) ?_)
  have h:=aN H;subst h
  exact dQ [0,1,2,3,4,5]
 replace H:=f6
 refine S' ar ?_
 obtain⟨e7,H,f8⟩:=ac H
 refine dy 13 [(1,aI l),(3,aI o),(35,.bool e7)] (bn a0 af ag ay az au av aw ax++[aL l 34 (am a0 af ag ay az au av aw ax),aL o 26 [ae a0.f0.f0,ae a0.f0.f1,.slice af a0.f0.f2.length ag]]) ?_ fun junk=>?_
 ·rcases bD H with⟨u,H⟩|⟨u,H⟩
  ·refine ct 12 u (gJ u ?_)
   have h:=aN H;subst h
   exact dQ [0,1,2,3,4,5]
  refine cn (aK u) (cx o 0 5 [ae a0.f0.f0,ae a0.f0.f1,.slice af a0.f0.f2.length ag]) (h:=aZ (aK u) aA (h:=aZ (aK u) aA (h:=cn (aK u) (aO 4) (h:=aZ (aK u) aA (h:=aZ (aK u) aA (h:=cn (aK u) (aO 4) (h:=aZ (aK u) aA (h:=aZ (aK u) aA (h:=z' (aK u) (aO 4) ?_)))))))))
  obtain⟨gf,g1,H⟩:=ac H
  refine fR (aK u) (da [0] [1,2,3,4,5] (kX.ok g1) ?_)
  refine aZ (aK u) (bU rfl) (h:=fZ (aK u) ?_)
  have h:=aN H;subst h
  exact dQ [0,1,2,3,4,5]
 replace H:=f8
 refine S' ar ?_
 obtain⟨e8,d6,H⟩:=bi H
 refine dy 4 [(1,aI l),(3,aI o),(40,.bool e8)] (bn a0 af ag ay az au av aw ax++[aL l 34 (am a0 af ag ay az au av aw ax),aL o 26 [ae a0.f0.f0,ae a0.f0.f1,.slice af a0.f0.f2.length ag]]) ?_ fun junk=>?_
 ·by_cases J : e7 = true
  ·refine ct 3 J (bY J (h:=ah ?_))
   have x_:=ik d6 J;exact bH [0,1,2,3,4,5]
  refine aZ (aK J) aA (h:=cn (aK J) (aO 4) (h:=aZ (aK J) (cg rfl rfl) (h:=ca (aK J) (h:=ah ?_))))
  have x_:=ij d6 ((aK J));exact bH [0,1,2,3,4,5]
 refine S' ar ?_
 obtain⟨e9,d7,H⟩:=bi H
 refine dy 6 [(1,aI l),(3,aI o),(47,.bool e9)] (bn a0 af ag ay az au av aw ax++[aL l 34 (am a0 af ag ay az au av aw ax),aL o 26 [ae a0.f0.f0,ae a0.f0.f1,.slice af a0.f0.f2.length ag]]) ?_ fun junk=>?_
 ·by_cases E : e8 = true
  ·refine ct 5 E (bY E (h:=ah ?_))
   have x_:=ik d7 E;exact bH [0,1,2,3,4,5]
  refine aZ (aK E) aA (h:=cn (aK E) (aO 4) (h:=aZ (aK E) aA (h:=cn (aK E) (aO 4) (h:=aZ (aK E) (eN rfl rfl) (h:=ca (aK E) (h:=ah ?_))))))
  have x_:=ij d7 ((aK E));exact bH [0,1,2,3,4,5]
 refine S' ar ?_
 obtain⟨g5,d8,H⟩:=bi H
 refine dy 6 [(1,aI l),(3,aI o),(54,.bool g5)] (bn a0 af ag ay az au av aw ax++[aL l 34 (am a0 af ag ay az au av aw ax),aL o 26 [ae a0.f0.f0,ae a0.f0.f1,.slice af a0.f0.f2.length ag]]) ?_ fun junk=>?_
 ·by_cases F : e9 = true
  ·refine ct 5 F (bY F (h:=ah ?_))
   have x_:=ik d8 F;exact bH [0,1,2,3,4,5]
  refine aZ (aK F) aA (h:=cn (aK F) (aO 4) (h:=aZ (aK F) aA (h:=cn (aK F) (aO 5) (h:=aZ (aK F) (dU rfl rfl) (h:=ca (aK F) (h:=ah ?_))))))
  have x_:=ij d8 ((aK F));exact bH [0,1,2,3,4,5]
 refine S' ar ?_
 obtain⟨g6,H,f9⟩:=ac H
 refine dy 5 [(1,aI l),(3,aI o),(60,.bool g6)] (bn a0 af ag ay az au av aw ax++[aL l 34 (am a0 af ag ay az au av aw ax),aL o 26 [ae a0.f0.f0,ae a0.f0.f1,.slice af a0.f0.f2.length ag]]) ?_ fun junk=>?_
 ·rcases bD H with⟨K,H⟩|⟨K,H⟩
  ·refine ct 4 K (gJ K ?_)
   have h:=aN H;subst h
   exact dQ [0,1,2,3,4,5]
  refine aZ (aK K) aA (h:=z' (aK K) (cx l 6 4 (bF a0.f4)) ?_)
  obtain⟨h6,g2,H⟩:=ac H
  refine fR (aK K) (da [] [0,1,2,3,4,5] (qa.ok g2) ?_)
  refine aZ (aK K) (bU rfl) (h:=fZ (aK K) ?_)
  have h:=aN H;subst h
  exact dQ [0,1,2,3,4,5]
 replace H:=f9
 refine S' ar ?_
 obtain⟨g7,H,c6⟩:=ac H
 refine cI 6 (St [(1,aI l),(3,aI o),(67,.bool g7)] (bn a0 af ag ay az au av aw ax++[aL l 34 (am a0 af ag ay az au av aw ax),aL o 26 [ae a0.f0.f0,ae a0.f0.f1,.slice af a0.f0.f2.length ag]])) ?_ ?_
 ·rcases bD H with⟨I,H⟩|⟨I,H⟩
  ·refine ct 5 I (gJ I ?_)
   have h:=aN H;subst h
   exact dQ [0,1,2,3,4,5]
  refine aZ (aK I) aA (h:=aZ (aK I) aA (h:=z' (aK I) (cx l 29 4 (bF a0.f14.f4)) ?_))
  obtain⟨h7,g3,H⟩:=ac H
  refine fR (aK I) (da [] [0,1,2,3,4,5] (qa.ok g3) ?_)
  refine aZ (aK I) (bU rfl) (h:=fZ (aK I) ?_)
  have h:=aN H;subst h
  exact dQ [0,1,2,3,4,5]
 rintro e ds As e2
 clear H
 have H:=c6
 clear c6
 refine bA (SA.of_St e2 fun junk=>?_)
 rcases bD H with⟨d2,H⟩|⟨d2,H⟩
 ·refine aD rfl d2 (aP (ad aW (h:=cA ?_)))
  have h:=aN H;subst h
  exact dJ [0,1,2,3] ⟨rfl,rfl⟩
 refine aE rfl d2 (ao (aa (ap (aP (ad aW (h:=bA ?_))))))
 obtain⟨f5,H,L⟩:=ac H
 refine bK (fun e ds As=>∃ (f3 : Unit),f5 = Out.go f3∧St [(1,aI l),(3,aI o)] (bn a0 af ag ay az au av aw ax++[aL l 34 (am a0 af ag ay az au av aw ax),aL o 26 [ae a0.f0.f0,ae a0.f0.f1,.slice af a0.f0.f2.length ag]]) e ds As) ?_ ?_
 ·refine aT (cl (fun k_ e ds As=>∃ (c : Int),fc.l0 a0 k_ c = some f5∧St [(1,aI l),(3,aI o),(4,ae c)] (bn a0 af ag ay az au av aw ax++[aL l 34 (am a0 af ag ay az au av aw ax),aL o 26 [ae a0.f0.f0,ae a0.f0.f1,.slice af a0.f0.f2.length ag]]) e ds As) (k:=k) ⟨_,H,jQ [0,1,2,3,4,5]⟩ ?_)
  clear H
  rintro d9 e ds As ⟨c,H,e3⟩
  obtain _ | d9:=d9
  ·cases H
  rw [fc.l0] at H
  refine SA.of_St e3 fun junk=>ap (aP (ad ar (h:=ad aA (h:=bq (aO 4) (h:=bT (ae (a0.f7.length : Int)) (cP Tryz.underlying29 rfl) (h:=ad (cg rfl rfl) (h:=bA ?_)))))))
  rcases bD H with⟨d3,H⟩|⟨d3,H⟩
  ·refine aC rfl d3 (ao (aa (ap (aT (ap ?_)))))
   obtain⟨g8,H,c7⟩:=ac H
   refine bK (St [(1,aI l),(3,aI o),(4,ae c),(108,.bool g8)] (bn a0 af ag ay az au av aw ax++[aL l 34 (am a0 af ag ay az au av aw ax),aL o 26 [ae a0.f0.f0,ae a0.f0.f1,.slice af a0.f0.f2.length ag]])) ?_ ?_
   ·refine fg (dC 0 34) [1,4,5] [0,2,3] fun _ _ _ _ _ sH dd pk=>?_
    refine bf 0 rfl sH aA (h:=bN 1 rfl sH (aO 1) (h:=T' 2 rfl sH ar ?_))
    obtain⟨⟨c8,c9⟩,H⟩:=aS H
    refine bN 3 rfl sH (br (i:=c) Tryz.underlying29 jm rfl rfl (Src.buf (k:=0) rfl) c8 c9) (h:=bN 4 rfl sH (bE (enc:=(fun x_ : Int=>[Value.int .i64 x_])) (i:=c) (j:=c.toNat * 1) (m:=0) (sz:=1) Tryz.underlying3 rfl rfl rfl rfl (Src.buf (k:=0) rfl) c8 c9 (fun _ _ h=>h) rfl) (h:=bf 5 rfl sH (cg rfl rfl) (h:=T' 6 rfl sH ar ?_)))
    rcases bD H with⟨b,H⟩|⟨b,H⟩
    ·refine bM 7 rfl (ai b) (bM 8 rfl (ai b) (bM 9 rfl (ai b) (bM 10 rfl (ai b) (bM 11 rfl (ai b) (bM 12 rfl (ai b) (bM 13 rfl (ai b) (bM 14 rfl (ai b) (bN 15 rfl sH (VR.ofV (bR rfl (ai b) rfl)) (h:=T' 16 rfl sH ar ?_)))))))))
     refine bM 17 rfl rfl (bM 18 rfl rfl (bM 19 rfl rfl (cK 20 rfl (cK 21 rfl (cK 22 rfl (cK 23 rfl (cK 24 rfl (cK 25 rfl (cK 26 rfl ?_)))))))))
     refine cK 27 rfl (cK 28 rfl (cK 29 rfl (cK 30 rfl (cK 31 rfl (bM 32 rfl rfl (bN 33 rfl sH (VR.ofV (bR rfl (rfl) rfl)) (h:=aV dd sH (aH (by kernel_rfl) ?_))))))))
     have h:=aN H;subst h
     exact bH [3,0,4,5,1,2]
    refine cU 7 rfl (al b) sH aA (h:=cH 8 rfl (al b) sH (aO 1) (h:=kT 9 rfl (al b) sH ar ?_))
    obtain⟨⟨d0,d1⟩,H⟩:=aS H
    refine cH 10 rfl (al b) sH (br (i:=c) Tryz.underlying29 jm rfl rfl (Src.buf (k:=0) rfl) d0 d1) (h:=cH 11 rfl (al b) sH (bE (enc:=(fun x_ : Int=>[Value.int .i64 x_])) (i:=c) (j:=c.toNat * 1) (m:=0) (sz:=1) Tryz.underlying3 rfl rfl rfl rfl (Src.buf (k:=0) rfl) d0 d1 (fun _ _ h=>h) rfl) (h:=cU 12 rfl (al b) sH aA (h:=cH 13 rfl (al b) sH (aO 2) (h:=cU 14 rfl (al b) sH (dU rfl rfl) (h:=bN 15 rfl sH (VR.ofV (bL rfl (al b) rfl)) (h:=T' 16 rfl sH ar ?_))))))
    rcases bD H with⟨d,H⟩|⟨d,H⟩
    ·refine bM 17 rfl (ai d) (bM 18 rfl (ai d) (bM 19 rfl (ai d) (cK 20 rfl (cK 21 rfl (cK 22 rfl (cK 23 rfl (cK 24 rfl (cK 25 rfl (cK 26 rfl ?_)))))))))
     refine cK 27 rfl (cK 28 rfl (cK 29 rfl (cK 30 rfl (cK 31 rfl (bM 32 rfl (ai d) (bN 33 rfl sH (VR.ofV (bR rfl (ai d) rfl)) (h:=aV dd sH (aH (by kernel_rfl) ?_))))))))
     have h:=aN H;subst h
     exact bH [3,0,4,5,1,2]
    refine cU 17 rfl (al d) sH ar (h:=cU 18 rfl (al d) sH (eN rfl rfl) (h:=kT 19 rfl (al d) sH ar ?_))
    rcases bD H with⟨a,H⟩|⟨a,H⟩
    ·refine cU 20 rfl (ai a) sH aA (h:=cH 21 rfl (ai a) sH (aO 1) (h:=kT 22 rfl (ai a) sH ar ?_))
     obtain⟨⟨a3,a4⟩,H⟩:=aS H
     refine cH 23 rfl (ai a) sH (br (i:=c) Tryz.underlying29 jm rfl rfl (Src.buf (k:=0) rfl) a3 a4) (h:=cH 24 rfl (ai a) sH (bE (enc:=(fun x_ : Int=>[Value.int .i64 x_])) (i:=c) (j:=c.toNat * 1) (m:=0) (sz:=1) Tryz.underlying3 rfl rfl rfl rfl (Src.buf (k:=0) rfl) a3 a4 (fun _ _ h=>h) rfl) (h:=cU 25 rfl (ai a) sH aA (h:=cH 26 rfl (ai a) sH (aO 1) (h:=cU 27 rfl (ai a) sH ar (h:=kT 28 rfl (ai a) sH (cV rfl rfl) ?_)))))
     obtain⟨⟨a5,a6⟩,H⟩:=aS H
     refine cH 29 rfl (ai a) sH (br (i:=i64.wrap (c - 1)) Tryz.underlying29 jm rfl rfl (Src.buf (k:=0) rfl) a5 a6) (h:=cH 30 rfl (ai a) sH (bE (enc:=(fun x_ : Int=>[Value.int .i64 x_])) (i:=i64.wrap (c - 1)) (j:=(i64.wrap (c - 1)).toNat * 1) (m:=0) (sz:=1) Tryz.underlying3 rfl rfl rfl rfl (Src.buf (k:=0) rfl) a5 a6 (fun _ _ h=>h) rfl) (h:=cU 31 rfl (ai a) sH (gF rfl rfl) (h:=cH 32 rfl (al d) sH (VR.ofV (bR rfl (ai a) rfl)) (h:=bN 33 rfl sH (VR.ofV (bL rfl (al d) rfl)) (h:=aV dd sH (aH (by kernel_rfl) ?_))))))
     have h:=aN H;subst h
     exact bH [3,0,4,5,1,2]
    refine bM 20 rfl (al a) (bM 21 rfl (al a) (bM 22 rfl (al a) (bM 23 rfl (al a) (bM 24 rfl (al a) (bM 25 rfl (al a) (bM 26 rfl (al a) (bM 27 rfl (al a) (bM 28 rfl (al a) (bM 29 rfl (al a) ?_)))))))))
    refine bM 30 rfl (al a) (bM 31 rfl (al a) (cH 32 rfl (al d) sH (VR.ofV (bL rfl (al a) rfl)) (h:=bN 33 rfl sH (VR.ofV (bL rfl (al d) rfl)) (h:=aV dd sH (aH (by kernel_rfl) ?_)))))
    have h:=aN H;subst h
    exact bH [3,0,4,5,1,2]
   rintro e ds As b6
   clear H
   have H:=c7
   clear c7
   refine aa (SA.of_St b6 fun junk=>?_)
   rcases bD H with⟨M,H⟩|⟨M,H⟩
   ·refine aD rfl M (aP (ad aW (h:=cD (aY (aF (aF (aY (aF (aF ?_)))))))))
    have h:=aN H;subst h
    have hb_:=dz L
    have hr_:=Option.some.inj hb_
    clear hb_
    subst hr_
    exact dJ [0,1,2,3] ⟨rfl,rfl⟩
   refine aE rfl M (ao (aG (aa (ak (ad ar (h:=S' (bX rfl rfl) ?_))))))
   obtain⟨a9,d4,H⟩:=bi H
   refine bT (ae a9) (bu (v:=ae a9) (congrArg (Value.int .i64) d4.symm)) (h:=ah ?_)
   exact aa ⟨d9,Nat.lt_succ_self _,_,H,eb [0,1,2,3,4,5]⟩
  refine aB rfl d3 (ci (aX (aX (cj ?_))))
  have h:=aN H;subst h
  exact aa ⟨(),rfl,eb [0,1,2,3,4,5]⟩
 rintro e ds As ⟨f3,ht,b8⟩
 clear H
 subst ht
 replace L:=fi L
 have H:=L
 clear L
 refine aa (SA.of_St b8 fun junk=>ap (aP (ad aA (h:=bq (aO 4) (h:=bT (ae (a0.f17.length : Int)) (cP Tryz.underlying32 rfl) (h:=ad (eN rfl rfl) (h:=bA ?_)))))))
 rcases bD H with⟨N,H⟩|⟨N,H⟩
 ·refine aC rfl N (aP (ad aW (h:=cA ?_)))
  have h:=aN H;subst h
  exact dJ [0,1,2,3] ⟨rfl,rfl⟩
 refine aB rfl N (ao (aa (ap (aP (ad aW (h:=bA ?_))))))
 obtain⟨b4,H,D⟩:=ac H
 refine bK (fun e ds As=>∃ (b3 : Unit),b4 = Out.go b3∧St [(1,aI l),(3,aI o)] (bn a0 af ag ay az au av aw ax++[aL l 34 (am a0 af ag ay az au av aw ax),aL o 26 [ae a0.f0.f0,ae a0.f0.f1,.slice af a0.f0.f2.length ag]]) e ds As) ?_ ?_
 ·refine aT (cl (fun k_ e ds As=>∃ (z : Int),fc.l1 a0 k_ z = some b4∧St [(1,aI l),(3,aI o),(5,ae z)] (bn a0 af ag ay az au av aw ax++[aL l 34 (am a0 af ag ay az au av aw ax),aL o 26 [ae a0.f0.f0,ae a0.f0.f1,.slice af a0.f0.f2.length ag]]) e ds As) (k:=k) ⟨_,H,jQ [0,1,2,3,4,5]⟩ ?_)
  clear H
  rintro U e ds As ⟨z,H,b9⟩
  obtain _ | U:=U
  ·cases H
  rw [fc.l1] at H
  refine SA.of_St b9 fun junk=>ap (aP (ad ar (h:=ad aA (h:=bq (aO 4) (h:=bT (ae (a0.f17.length : Int)) (cP Tryz.underlying32 rfl) (h:=ad (cg rfl rfl) (h:=bA ?_)))))))
  rcases bD H with⟨O,H⟩|⟨O,H⟩
  ·refine aC rfl O (ao (aa (ap (aT (aP (ad aA (h:=bq (aO 4) (h:=S' ar ?_))))))))
   obtain⟨⟨a7,a8⟩,H⟩:=aS H
   refine bq (br (i:=z) Tryz.underlying32 jg rfl rfl (Src.buf (k:=3) rfl) a7 a8) (h:=bq (bE (enc:=(fun x_ : Int=>[Value.int .i32 x_])) (i:=z) (j:=z.toNat * 1) (m:=0) (sz:=1) Tryz.underlying21 rfl rfl rfl rfl (Src.buf (k:=3) rfl) a7 a8 (fun _ _ h=>h) rfl) (h:=ad (cg rfl rfl) (h:=bA ?_)))
   rcases bD H with⟨R,H⟩|⟨R,H⟩
   ·refine aC rfl R (aP (ad aW (h:=cD (aY (aF (aF (aY (aF (aF ?_)))))))))
    have h:=aN H;subst h
    have hb_:=dz D
    have hr_:=Option.some.inj hb_
    clear hb_
    subst hr_
    exact dJ [0,1,2,3] ⟨rfl,rfl⟩
   refine aB rfl R (ao (aG (aa (ak (ad ar (h:=S' (bX rfl rfl) ?_))))))
   obtain⟨b0,d5,H⟩:=bi H
   refine bT (ae b0) (bu (v:=ae b0) (congrArg (Value.int .i64) d5.symm)) (h:=ah ?_)
   exact aa ⟨U,Nat.lt_succ_self _,_,H,eb [0,1,2,3,4,5]⟩
  refine aB rfl O (ci (aX (aX (cj ?_))))
  have h:=aN H;subst h
  exact aa ⟨(),rfl,eb [0,1,2,3,4,5]⟩
 rintro e ds As ⟨b3,ht,c5⟩
 clear H
 subst ht
 replace D:=fi D
 have H:=D
 clear D
 refine aa (SA.of_St c5 fun junk=>ap (aP (ad aA (h:=bq (aO 4) (h:=bA ?_)))))
 rcases bD H with⟨S,H⟩|⟨S,H⟩
 ·refine aD rfl S (aP (ad aA (h:=l' (cx l 40 4 [ae a0.f16.f0,ae a0.f16.f1,.slice au a0.f16.f2.length av]) ?_)))
  obtain⟨e6,e0,H⟩:=ac H
  refine o' (da [2] [0,1,3,4,5] (fB.ok e0) ?_)
  refine S' ar ?_
  obtain⟨b1,Y,H⟩:=bi H
  refine dy 7 [(1,aI l),(3,aI o),(138,.bool b1)] (bn a0 af ag ay az au av aw ax++[aL l 34 (am a0 af ag ay az au av aw ax),aL o 26 [ae a0.f0.f0,ae a0.f0.f1,.slice af a0.f0.f2.length ag]]) ?_ fun junk=>?_
  ·by_cases p : e6 = true
   ·refine aZ p aA (h:=aZ p aA (h:=cn p (aO 4) (h:=aZ p aA (h:=cn p (aO 5) (h:=aZ p (bk rfl rfl) (h:=bY p (h:=ah ?_)))))))
    have x_:=fq Y p;exact bH [1,2,0,3,4,5]
   refine ct 6 (aK p) (ca (aK p) (h:=ah ?_))
   have x_:=fp Y ((aK p));exact bH [1,2,0,3,4,5]
  refine S' ar ?_
  obtain⟨e4,Z,H⟩:=bi H
  refine dy 7 [(146,.bool e4)] (bn a0 af ag ay az au av aw ax) ?_ fun junk=>?_
  ·by_cases q : b1 = true
   ·refine aZ q aA (h:=aZ q aA (h:=cn q (aO 4) (h:=aZ q aA (h:=cn q (aO 5) (h:=aZ q (bk rfl rfl) (h:=bY q (h:=ah ?_)))))))
    have x_:=fq Z q;exact bH [0,1,2,3]
   refine ct 6 (aK q) (ca (aK q) (h:=ah ?_))
   have x_:=fp Z ((aK q));exact bH [0,1,2,3]
  refine ad aW (h:=cA ?_)
  have h:=aN H;subst h
  exact dJ [0,1,2,3] ⟨rfl,rfl⟩
 refine aE rfl S (ao (aa (aP (ad aA (h:=ad aA (h:=bq (aO 4) (h:=ad (bk rfl rfl) (h:=S' ar ?_))))))))
 obtain⟨b2,a1,H⟩:=bi H
 refine dy 5 [(1,aI l),(156,.bool b2)] (bn a0 af ag ay az au av aw ax++[aL l 34 (am a0 af ag ay az au av aw ax)]) ?_ fun junk=>?_
 ·by_cases y : a0.f16.f0 = 0
  ·refine aZ (ai y) aA (h:=aZ (ai y) aA (h:=cn (ai y) (aO 4) (h:=aZ (ai y) (bk rfl rfl) (h:=bY (ai y) (h:=ah ?_)))))
   have x_:=fq a1 ((ai y));exact bH [0,1,2,3,4]
  refine ct 4 (al y) (ca (al y) (h:=ah ?_))
  have x_:=fp a1 ((al y));exact bH [0,1,2,3,4]
 refine S' ar ?_
 obtain⟨e5,a2,H⟩:=bi H
 refine dy 6 [(163,.bool e5)] (bn a0 af ag ay az au av aw ax) ?_ fun junk=>?_
 ·by_cases s : b2 = true
  ·refine aZ s aA (h:=aZ s aA (h:=cn s (aO 4) (h:=gS s (ae (a0.f16.f2.length : Int)) (cP Tryz.underlying24 rfl) (h:=aZ s (bk rfl rfl) (h:=bY s (h:=ah ?_))))))
   have x_:=fq a2 s;exact bH [0,1,2,3]
  refine ct 5 (aK s) (ca (aK s) (h:=ah ?_))
  have x_:=fp a2 ((aK s));exact bH [0,1,2,3]
 refine ad aW (h:=cD ?_)
 have h:=aN H;subst h
 exact dJ [0,1,2,3] ⟨rfl,rfl⟩


def hM.f (a0 : bJ) : Option (bJ):=if ([] : (List ba)).length + a0.f2.length ≤ 2932031007402 then lt (([] : (List ba)) ++ a0.f2) fun n12=>(some ((bJ.mk a0.f0 a0.f1 n12))) else none
theorem hM.ok {a0 : bJ} {r : bJ} (H : hM.f a0 = some r) : dp Tryz.prog 65 #[.agg #[ae a0.f0,ae a0.f1,.slice af a0.f2.length ag]] [Buf bI 55 af ag a0.f2] (fun v B=>∃ aQ aR,v = .agg #[ae r.f0,ae r.f1,.slice aQ r.f2.length aR]∧B = [Buf bI 55 aQ aR r.f2,Buf bI 55 af ag a0.f2]):=by
 refine aj Tryz.func65 rfl rfl ?_
 unfold hM.f at H
 refine aP (o' (bO (h:=fun j=>o' (cC (h:=fun l=>cR (o' (gD (kd:=bI) (zv:=(.agg (bW lu).toArray)) (sz:=15) (cells:=[]) (xs:=([] : (List ba))) rfl Tryz.underlying24 jF ck rfl rfl rfl (by kernel_rfl) rfl rfl (dR cZ (fun _ _=>rfl) (by kernel_rfl)) fun m=>ad aA (h:=l' (aO 1) ?_))))))))
 obtain⟨o,H⟩:=aS H
 obtain⟨n12,d,H⟩:=bi H
 refine o' (gm (k:=3) (A:=some ⟨m,0,none⟩) (c:=0) (xs:=([] : (List ba))) (ys:=a0.f2) n12 d rfl Tryz.underlying24 mD rfl rfl rfl rfl rfl (nk.slice Tryz.underlying24 (Src.buf (k:=0) rfl)) (by omega) (by omega) fun a b=>ad aA (h:=o' (cJ 1 [.slice a n12.length b] (h:=(cR (bq (cx j 0 1 [ae a0.f0,ae a0.f1,.slice a n12.length b]) (h:=o' (bj l 0 2 [ae a0.f0,ae a0.f1,.slice a n12.length b] (h:=cD ?_)))))))))
 have h:=aN H;subst h
 exact gi (rs:=[.cell 2 26]) (vs:=[.agg #[ae a0.f0,ae a0.f1,.slice a n12.length b]]) [Buf bI 55 a b n12,Buf bI 55 af ag a0.f2] rfl ⟨RV.cell (k:=2) rfl rfl Tryz.underlying26 rfl uA,trivial⟩ rfl (fk [3,0]) ⟨a,b,rfl,rfl⟩


def lN.f (a0 : aJ) : Option (aJ):=(hM.f a0.f0).bind (fun c=>(hM.f a0.f16).bind (fun d=>if ([] : (List Int)).length + a0.f7.length ≤ 17592186044416 then lt (([] : (List Int)) ++ a0.f7) fun a=>(if ([] : (List Int)).length + a0.f17.length ≤ 35184372088832 then lt (([] : (List Int)) ++ a0.f17) fun b=>(some (({ a0 with f0:=c,f7:=a,f16:=d,f17:=b }))) else none) else none))
theorem lN.ok {a0 : aJ} {r : aJ} (H : lN.f a0 = some r) : dp Tryz.prog 19 #[.agg (am a0 af ag ay az au av aw ax).toArray] (bn a0 af ag ay az au av aw ax) (fun v B=>∃ aQ aR bv bx bo bp bw bz,v = .agg (am r aQ aR bv bx bo bp bw bz).toArray∧B = (bn r aQ aR bv bx bo bp bw bz++bn a0 af ag ay az au av aw ax)):=by
 refine aj Tryz.func19 rfl rfl ?_
 unfold lN.f at H
 refine aP (o' (bO (h:=fun K=>o' (cC (h:=fun L=>bA (ap (bQ 0 fun U=>bQ 1 fun O=>bQ 2 fun R=>bQ 3 fun S=>?_)))))))
 refine fg [0,1,3,4,6] [4] [0,1,2,3,5] fun _ _ _ _ _ sH dd pk=>?_
 refine bf 0 rfl sH aA (h:=bN 1 rfl sH (cx K 0 0 [ae a0.f0.f0,ae a0.f0.f1,.slice af a0.f0.f2.length ag]) (h:=bf 3 rfl sH aA (h:=r' 4 rfl sH (cx K 40 0 [ae a0.f16.f0,ae a0.f16.f1,.slice au a0.f16.f2.length av]) ?_)))
 obtain⟨a,E,H⟩:=ac H
 refine dT 2 rfl dd (gy [0] [1,2,3,4] (hM.ok E) fun d o=>?_)
 refine T' 6 rfl sH aA ?_
 obtain⟨b,F,H⟩:=ac H
 refine dT 5 rfl dd (gy [3] [0,1,2,4,5] (hM.ok F) fun j p=>?_)
 refine aV dd sH (eG 7 rfl (cJ 0 [ae a.f0,ae a.f1,.slice d a.f2.length o] (h:=(cd 8 rfl aA (h:=eG 9 rfl (cJ 0 [ae b.f0,ae b.f1,.slice j b.f2.length p] (h:=(aH (by kernel_rfl) (aa (aP (o' (gD (kd:=(Kd.int .i64)) (zv:=(ae 0)) (sz:=1) (cells:=[]) (xs:=([] : (List Int))) rfl Tryz.underlying29 nu jm rfl rfl rfl (by kernel_rfl) rfl rfl (dR (fun x_ : Int=>[Value.int .i64 x_]) (fun _ _=>rfl) (by kernel_rfl)) fun I=>ad aA (h:=l' (aO 0) ?_)))))))))))))
 obtain⟨M,H⟩:=aS H
 obtain⟨u,z,H⟩:=bi H
 refine o' (gm (k:=8) (A:=some ⟨I,0,none⟩) (c:=0) (xs:=([] : (List Int))) (ys:=a0.f7) u z rfl Tryz.underlying29 pg rfl rfl rfl rfl rfl (nk.slice Tryz.underlying29 (Src.buf (k:=5) rfl)) (by omega) (by omega) fun l q=>ad aA (h:=o' (cJ 0 [.slice l u.length q] (h:=(cR (o' (gD (kd:=(Kd.int .i32)) (zv:=(aM 0)) (sz:=1) (cells:=[]) (xs:=([] : (List Int))) rfl Tryz.underlying32 rL jg rfl rfl rfl (by kernel_rfl) rfl rfl (dR (fun x_ : Int=>[Value.int .i32 x_]) (fun _ _=>rfl) (by kernel_rfl)) fun J=>ad aA (h:=l' (aO 0) ?_))))))))
 obtain⟨N,H⟩:=aS H
 obtain⟨y,D,H⟩:=bi H
 refine o' (gm (k:=9) (A:=some ⟨J,0,none⟩) (c:=0) (xs:=([] : (List Int))) (ys:=a0.f17) y D rfl Tryz.underlying32 tN rfl rfl rfl rfl rfl (nk.slice Tryz.underlying32 (Src.buf (k:=6) rfl)) (by omega) (by omega) fun m s=>ad aA (h:=o' (cJ 0 [.slice m y.length s] (h:=(cR (bq (cm 0) (h:=o' (bj L 0 7 (am ({ a0 with f0:=a,f7:=u,f16:=b,f17:=y }) d o l q j p m s) (h:=cD ?_)))))))))
 have h:=aN H;subst h
 exact gi (rs:=[.cell 2 34]) (vs:=[.agg (am ({ a0 with f0:=a,f7:=u,f16:=b,f17:=y }) d o l q j p m s).toArray]) (Buf bI 55 d o a.f2::gL 3 l q u::Buf bI 55 j p b.f2::lZ 21 m s y::bn a0 af ag ay az au av aw ax) rfl ⟨RV.cell (k:=7) rfl rfl Tryz.underlying34 rfl rH,trivial⟩ rfl (fk [3,8,1,9,4,5,2,6]) ⟨d,o,l,q,j,p,m,s,rfl,rfl⟩


def gl.f (k : Nat) (a0 : aJ) : Option (aJ × Bool):=(fc.f k a0).bind (fun a=>if (!a) = true then (some (((aJ.mk (bJ.mk 0 0 ([] : (List ba))) 0 0 false (cN.mk 0 0 false false false false false false false false) 0 0 ([] : (List Int)) false false false false false false (dH.mk 0 0 false false (cN.mk 0 0 false false false false false false false false)) false (bJ.mk 0 0 ([] : (List ba))) ([] : (List Int))),false))) else ((lN.f a0).bind (fun b=>some ((b,true)))))
theorem gl.ok {a0 : aJ} {r : aJ × Bool} (H : gl.f k a0 = some r) : dp Tryz.prog 98 #[.agg (am a0 af ag ay az au av aw ax).toArray] (bn a0 af ag ay az au av aw ax) (fun v B=>∃ aQ aR bv bx bo bp bw bz,v = .tuple #[.agg (am r.1 aQ aR bv bx bo bp bw bz).toArray,.bool r.2]∧B = (bn r.1 aQ aR bv bx bo bp bw bz++bn a0 af ag ay az au av aw ax)):=by
 refine aj Tryz.func98 rfl rfl ?_
 unfold gl.f at H
 refine aP (o' (bO (h:=fun J=>o' (cC (h:=fun u=>ad aW (h:=bA (ap (ap (bQ 0 fun F=>bQ 1 fun z=>bQ 2 fun D=>bQ 3 fun E=>ak ?_)))))))))
 refine l' (cm 4) ?_
 obtain⟨I,s,H⟩:=ac H
 refine o' (da [0,1,2,3] [4,5] (fc.ok s) ?_)
 refine ad (bU rfl) (h:=bA ?_)
 rcases bD H with⟨a,H⟩|⟨a,H⟩
 ·refine aD rfl a (aP (bT (.agg (am cB none 0 none 0 none 0 none 0).toArray) dS (h:=o' (bj u 0 5 (am cB none 0 none 0 none 0 none 0) (h:=ad aW (h:=cA ?_))))))
  have h:=aN H;subst h
  exact lX [.cell 2 34,.tmp 3] ((Gh.nilBuf bI 55).trans ((Gh.nilBuf (Kd.int .i64) 3).trans ((Gh.nilBuf bI 55).trans ((Gh.nilBuf (Kd.int .i32) 21).trans (fk [6,7,8,9,0,1,2,3]))))) ⟨none,0,none,0,none,0,none,0,rfl,rfl⟩ ⟨cW 5,cX,trivial⟩
 refine aE rfl a (ao (aa (aP (l' (cm 4) ?_))))
 obtain⟨y,q,H⟩:=ac H
 refine o' (ef [0,1,2,3] [4,5] (lN.ok q) fun b l c m d o j p=>?_)
 refine o' (bj u 0 9 (am y b l c m d o j p) (h:=ad aW (h:=cD ?_)))
 have h:=aN H;subst h
 exact dE [.cell 2 34,.tmp 3] [0,1,2,3,4,5,6,7] ⟨b,l,c,m,d,o,j,p,rfl,rfl⟩ ⟨cW 9,cX,trivial⟩


def mj.l0 (a1 : Int) : Nat → ba → ba → Int → Option (Out (ba) (ba × ba))
  | 0,_,_,_=>none
  | k + 1,a,c,b=>if b < 3 then (if 0 ≤ b∧b < (3 : Int) then (if (rd ([a.f1.f0,a.f1.f1,a.f1.f2] : List Int) b) = 0 then (if 0 ≤ b∧b < (3 : Int) then (some (Out.ret ((ba.mk a.f0 (fX.mk (if b = 0 then a1 else a.f1.f0) (if b = 1 then a1 else a.f1.f1) (if b = 2 then a1 else a.f1.f2)) a.f2 a.f3)))) else none) else (lt (i64.wrap (b + 1)) fun n25=>mj.l0 a1 k a c n25)) else none) else (some (Out.go (a,c)))
def mj.f (k : Nat) (a0 : ba) (a1 : Int) : Option (ba):=(qT.f k a1).bind (fun d=>(if d ≠ 0 then (some true) else (if a0.f2 ≠ 1 then (some (decide (a0.f2 ≠ 2))) else (some false)) : Option Bool).bind (fun c=>if c = true then (some (a0)) else ((mj.l0 a1 k a0 (ba.mk 0 (fX.mk 0 0 0) 0 (cN.mk 0 0 false false false false false false false false)) 0 : Option (Out (ba) (ba × ba))).bind (fun b=>Out.el b (fun r_=>some r_) (fun a=>some (a.1))))))
theorem mj.ok {a0 : ba} {a1 : Int} {r : ba} (H : mj.f k a0 a1 = some r) : fU Tryz.prog 143 #[.agg (bW a0).toArray,aM a1] [] (.agg (bW r).toArray):=by
 refine aj Tryz.func143 rfl rfl ?_
 unfold mj.f at H
 refine aP (o' (bO (h:=fun Y=>o' (cC (h:=fun K=>eA (S' ar ?_))))))
 obtain⟨r5,a3,H⟩:=ac H
 refine o' (da [] [0,1] (qT.ok a3) ?_)
 refine ad (dt rfl rfl) (h:=S' ar ?_)
 obtain⟨q6,H,O⟩:=ac H
 refine cI 9 (St [(1,aM a1),(2,aI Y),(4,aI K),(18,.bool q6)] [aL Y 55 (bW a0),aL K 55 (bW lu)]) ?_ ?_
 ·rcases bD H with⟨j,H⟩|⟨j,H⟩
  ·refine ct 4 (ai j) (fY (fY (fY (ct 1 (ai j) (gJ (ai j) ?_)))))
   have h:=aN H;subst h
   exact dQ [0,1]
  refine aZ (al j) aA (h:=cn (al j) (aO 0) (h:=aZ (al j) (dt rfl rfl) (h:=Y' (al j) ar ?_)))
  rcases bD H with⟨y,H⟩|⟨y,H⟩
  ·refine aZ (ai y) aA (h:=cn (ai y) (aO 0) (h:=aZ (ai y) (dt rfl rfl) (h:=fR (al j) (dB rfl (bR rfl (ai y) rfl) (fZ (al j) ?_)))))
   have h:=aN H;subst h
   exact dQ [0,1]
  refine ct 3 (al y) (fR (al j) (dB rfl (bL rfl (al y) rfl) (fZ (al j) ?_)))
  have h:=aN H;subst h
  exact dQ [0,1]
 rintro e ds As a2
 clear H
 have H:=O
 clear O
 refine bA (SA.of_St a2 fun junk=>?_)
 rcases bD H with⟨E,H⟩|⟨E,H⟩
 ·refine aD rfl E (aP (bq (cm 0) (h:=o' (bj K 0 1 (bW a0) (h:=cA ?_)))))
  have h:=aN H;subst h
  exact gi (rs:=[.cell 4 55]) (vs:=[.agg (bW a0).toArray]) [] rfl ⟨RV.cell (k:=1) rfl rfl Tryz.underlying55 rfl ck,trivial⟩ rfl (fk []) ⟨rfl,rfl⟩
 refine aE rfl E (ao (aa (ap (aP (ad aW (h:=bA ?_))))))
 obtain⟨U,H,p⟩:=ac H
 refine bK (fun e ds As=>∃ (u : ba × ba),U = Out.go u∧∃ (D : Nat),∃ (z : Nat),St [(2,aI D),(4,aI z)] [aL D 55 (bW u.1),aL z 55 (bW u.2)] e ds As) ?_ ?_
 ·refine aT (cl (fun k_ e ds As=>∃ (a : ba) (l : ba) (c : Int),∃ (d : Nat),∃ (s : Nat),mj.l0 a1 k_ a l c = some U∧St [(1,aM a1),(2,aI d),(4,aI s),(5,ae c)] [aL d 55 (bW a),aL s 55 (bW l)] e ds As) (k:=k) ⟨_,_,_,Y,K,H,jQ [0,1]⟩ ?_)
  clear H
  rintro J e ds As ⟨a,l,c,d,s,H,L⟩
  obtain _ | J:=J
  ·cases H
  rw [mj.l0] at H
  refine SA.of_St L fun junk=>ap (aP (ad ar (h:=ad (cg rfl rfl) (h:=bA ?_))))
  rcases bD H with⟨F,H⟩|⟨F,H⟩
  ·refine aC rfl F (ao (aa (ap (aT (aP (ad ar (h:=S' aA ?_)))))))
   obtain⟨⟨R,S⟩,H⟩:=aS H
   refine s' (.pointer (some ((⟨d,0,none⟩ : Addr).add (1 + c.toNat * 1 + 0)))) (gp (B:=⟨d,0,none⟩) (m:=1) (o:=1 + c.toNat * 1 + 0) Tryz.underlying53 jg rfl rfl R S rfl) ?_
   refine l' (gY (b:=d) (m:=1 + c.toNat * 1 + 0) (k:=0) (v:=aM (rd ([a.f1.f0,a.f1.f1,a.f1.f2] : List Int) c)) Tryz.underlying21 rfl rfl rfl (oZ (q:=0) (kd:=(Kd.int .i32)) (m0:=1) (N:=3) (sz:=1) (xs:=([a.f1.f0,a.f1.f1,a.f1.f2] : List Int)) (i:=c) (dR (fun x_ : Int=>[Value.int .i32 x_]) (fun _ _=>rfl) (by kernel_rfl) _) rfl rfl R S (fun _ h_=>by rw [h_]; rfl))) ?_
   refine ad (bk rfl rfl) (h:=bA ?_)
   rcases bD H with⟨I,H⟩|⟨I,H⟩
   ·refine aC rfl I (aP (ad ar (h:=ad ar (h:=S' aA ?_))))
    obtain⟨⟨a4,a5⟩,H⟩:=aS H
    refine s' (.pointer (some ((⟨d,0,none⟩ : Addr).add (1 + c.toNat * 1 + 0)))) (gp (B:=⟨d,0,none⟩) (m:=1) (o:=1 + c.toNat * 1 + 0) Tryz.underlying53 jg rfl rfl a4 a5 rfl) ?_
    refine o' (oF (b:=d) (m:=1 + c.toNat * 1 + 0) (k:=0) (vs:=[aM a1]) (cs':=(bW (ba.mk a.f0 (fX.mk (if c = 0 then a1 else a.f1.f0) (if c = 1 then a1 else a.f1.f1) (if c = 2 then a1 else a.f1.f2)) a.f2 a.f3))) rfl rfl rfl rfl rfl rfl jg (by show 1 + c.toNat * 1 + 0 + 1 ≤ 15; omega) (by rcases (show c = 0 ∨ c = 1 ∨ c = 2 by omega) with h_ | h_ | h_ <;> (rewrite [h_]; kernel_rfl)) ?_)
    refine cR (bq (cm 0) (h:=o' (bj s 0 1 (bW (ba.mk a.f0 (fX.mk (if c = 0 then a1 else a.f1.f0) (if c = 1 then a1 else a.f1.f1) (if c = 2 then a1 else a.f1.f2)) a.f2 a.f3)) (h:=cD (aY (aF (aF (aY (aF (aF ?_))))))))))
    have h:=aN H;subst h
    have hb_:=dz p
    have hr_:=Option.some.inj hb_
    clear hb_
    subst hr_
    exact gi (rs:=[.cell 4 55]) (vs:=[.agg (bW (ba.mk a.f0 (fX.mk (if c = 0 then a1 else a.f1.f0) (if c = 1 then a1 else a.f1.f1) (if c = 2 then a1 else a.f1.f2)) a.f2 a.f3)).toArray]) [] rfl ⟨RV.cell (k:=1) rfl rfl Tryz.underlying55 rfl ck,trivial⟩ rfl (fk []) ⟨rfl,rfl⟩
   refine aB rfl I (ao (aG (aa (ak (ad ar (h:=S' (bX rfl rfl) ?_))))))
   obtain⟨n25,Z,H⟩:=bi H
   refine bT (ae n25) (bu (v:=ae n25) (congrArg (Value.int .i64) Z.symm)) (h:=ah ?_)
   exact aa ⟨J,Nat.lt_succ_self _,_,_,_,d,s,H,eb [0,1]⟩
  refine aB rfl F (ci (aX (aX (cj ?_))))
  have h:=aN H;subst h
  exact aa ⟨(a,l),rfl,d,s,eb [0,1]⟩
 rintro e ds As ⟨u,ht,D,z,M⟩
 clear H
 subst ht
 replace p:=fi p
 have H:=p
 clear p
 refine aa (SA.of_St M fun junk=>aP (bq (cm 0) (h:=o' (bj z 0 1 (bW u.1) (h:=cD ?_)))))
 have h:=aN H;subst h
 exact gi (rs:=[.cell 4 55]) (vs:=[.agg (bW u.1).toArray]) [] rfl ⟨RV.cell (k:=1) rfl rfl Tryz.underlying55 rfl ck,trivial⟩ rfl (fk []) ⟨rfl,rfl⟩


def lR.f (k : Nat) (p0 : aJ) (a1 : Int) : Option (aJ):=lt (i64.wrap (p0.f2 - 1)) fun n6=>(if p0.f3 = true then (some p0.f2) else (some n6) : Option (Int)).bind (fun j=>if j < 0 then (some (p0)) else (lt (i64.wrap ((i64.wrap (p0.f1 * p0.f0.f0)) + j)) fun b=>if 0 ≤ b∧b < (p0.f0.f2.length : Int) then ((if ((rd p0.f0.f2 b).f2) = 0 then (lt (i64.wrap (b - 1)) fun h=>some h) else (some b) : Option (Int)).bind (fun a=>if 0 ≤ a∧a < (p0.f0.f2.length : Int) then ((mj.f k (rd p0.f0.f2 a) a1).bind (fun d=>if 0 ≤ a∧a < (p0.f0.f2.length : Int) then (lt (p0.f0.f2.set a.toNat d) fun c=>(some (({ p0 with f0:=(bJ.mk p0.f0.f0 p0.f0.f1 c) })))) else none)) else none)) else none))
theorem lR.ok {p0 : aJ} {a1 : Int} {r : aJ} (H : lR.f k p0 a1 = some r) : dp Tryz.prog 100 #[.pointer (some ⟨bg,0,none⟩),aM a1] (cQ bg p0 af ag ay az au av aw ax) (fun v B=>∃ P0_0_ q0_0_ P0_1_ q0_1_ P0_2_ q0_2_ P0_3_ q0_3_,v = .tuple #[]∧B = (cQ bg r P0_0_ q0_0_ P0_1_ q0_1_ P0_2_ q0_2_ P0_3_ q0_3_)):=by
 refine aj Tryz.func100 rfl rfl ?_
 unfold lR.f at H
 refine aP (ad ar (h:=ad cL (h:=ad aA (h:=bq (aO 0) (h:=S' (cV rfl rfl) ?_)))))
 obtain⟨n6,S,H⟩:=bi H
 refine bT (ae n6) (bu (v:=ae n6) (congrArg (Value.int .i64) S.symm)) (h:=eA (ad ar (h:=ad cL (h:=ad aA (h:=bq (aO 0) (h:=bA ?_))))))
 obtain⟨U,H,N⟩:=ac H
 refine bK (St [(0,aI bg),(1,aM a1),(4,ae U)] (cQ bg p0 af ag ay az au av aw ax)) ?_ ?_
 ·rcases bD H with⟨O,H⟩|⟨O,H⟩
  ·refine aD rfl O (ak (ad ar (h:=ad cL (h:=ad aA (h:=bq (aO 0) (h:=ad aW (h:=ah ?_)))))))
   have h:=aN H;subst h
   exact bH [0,1,2,3,4]
  refine aE rfl O (ao ?_)
  have h:=aN H;subst h
  exact bH [0,1,2,3,4]
 rintro e ds As R
 clear H
 have H:=N
 clear N
 refine aa (SA.of_St R fun junk=>ap (aP (ad ar (h:=ad (cg rfl rfl) (h:=bA ?_)))))
 rcases bD H with⟨E,H⟩|⟨E,H⟩
 ·refine aC rfl E (eM (aF ?_))
  have h:=aN H;subst h
  exact kO (cQ bg p0 af ag ay az au av aw ax) rfl (fk [0,1,2,3,4]) ⟨af,ag,ay,az,au,av,aw,ax,rfl,rfl⟩
 refine aB rfl E (ao (aa (ap ?_)))
 refine fg (dC 0 13) [0] (dC 1 4) fun _ _ _ _ _ sH dd pk=>?_
 refine bf 0 rfl sH ar (h:=bf 1 rfl sH cL (h:=bf 2 rfl sH aA (h:=bN 3 rfl sH (aO 0) (h:=bf 4 rfl sH ar (h:=bf 5 rfl sH cL (h:=bf 6 rfl sH aA (h:=bf 7 rfl sH aA (h:=bN 8 rfl sH (aO 0) (h:=T' 9 rfl sH (jt rfl rfl) ?_)))))))))
 refine bf 10 rfl sH ar (h:=T' 11 rfl sH (bX rfl rfl) ?_)
 obtain⟨b,K,H⟩:=bi H
 refine kQ (ae b) 12 rfl sH (bu (v:=ae b) (congrArg (Value.int .i64) K.symm)) (h:=aV dd sH (aH (by kernel_rfl) (aa (ap (aP (ad ar (h:=ad cL (h:=ad aA (h:=ad aA (h:=bq (aO 0) (h:=S' ar ?_)))))))))))
 obtain⟨⟨z,D⟩,H⟩:=aS H
 refine bq (br (i:=b) Tryz.underlying24 ck rfl rfl (Src.buf (k:=1) rfl) z D) (h:=bT (.pointer (some ((el af (b.toNat * 15)).add 4))) (lL (el af (b.toNat * 15)) 0 4) (h:=bq (bE (enc:=cZ) (i:=b) (j:=b.toNat * 15) (m:=4) (sz:=15) Tryz.underlying5 rfl rfl rfl rfl (Src.buf (k:=1) rfl) z D (fun _ _ h=>h) rfl) (h:=ad (bk rfl rfl) (h:=bA (SA.of_St (l:=[(0,aI bg),(1,aM a1),(5,ae b),(42,.bool (decide (((rd p0.f0.f2 b).f2) = 0)))]) (B:=(cQ bg p0 af ag ay az au av aw ax)) (St.mk1 (cO rfl (cO rfl (cO rfl (cO rfl dY)))) (Gh.sel [0,1,2,3,4] (by kernel_rfl) (by kernel_rfl))) fun junk=>?_)))))
 obtain⟨a,H,o⟩:=ac H
 refine bK (St [(0,aI bg),(1,aM a1),(5,ae a)] (cQ bg p0 af ag ay az au av aw ax)) ?_ ?_
 ·rcases bD H with⟨d,H⟩|⟨d,H⟩
  ·refine aC rfl d (ak (ad ar (h:=S' (cV rfl rfl) ?_)))
   obtain⟨I,L,H⟩:=bi H
   refine bT (ae I) (bu (v:=ae I) (congrArg (Value.int .i64) L.symm)) (h:=ah ?_)
   have h:=aN H;subst h
   exact bH [0,1,2,3,4]
  refine aB rfl d (ao ?_)
  have h:=aN H;subst h
  exact bH [0,1,2,3,4]
 rintro e ds As F
 clear H
 have H:=o
 clear o
 refine aa (SA.of_St F fun junk=>?_)
 refine fg (0::1::2::3::4::5::6::7::8::9::10::11::12::13::14::16::[]) [0,1] [2,3,4] fun _ _ _ _ _ sH dd pk=>?_
 refine bf 0 rfl sH ar (h:=bf 1 rfl sH cL (h:=bf 2 rfl sH aA (h:=bf 3 rfl sH aA (h:=bN 4 rfl sH (aO 0) (h:=bf 5 rfl sH ar (h:=bf 6 rfl sH ar (h:=bf 7 rfl sH cL (h:=bf 8 rfl sH aA (h:=T' 9 rfl sH aA ?_)))))))))
 refine bN 10 rfl sH (aO 0) (h:=T' 11 rfl sH ar ?_)
 obtain⟨⟨p,q⟩,H⟩:=aS H
 refine bN 12 rfl sH (br (i:=a) Tryz.underlying24 ck rfl rfl (Src.buf (k:=1) rfl) p q) (h:=bN 13 rfl sH (cf (enc:=cZ) (i:=a) (j:=a.toNat * 15) (m:=0) (sz:=15) (vs:=(bW (ba.mk ((rd p0.f0.f2 a).f0) ((rd p0.f0.f2 a).f1) ((rd p0.f0.f2 a).f2) ((rd p0.f0.f2 a).f3)))) Tryz.underlying55 rfl ck rfl rfl rfl (Src.buf (k:=1) rfl) p q (fun _ _ h=>h) rfl) (h:=T' 14 rfl sH ar ?_))
 obtain⟨y,J,H⟩:=ac H
 refine dT 15 rfl dd (da [] [0,1,2] (mj.ok J) ?_)
 obtain⟨⟨s,u⟩,H⟩:=aS H
 refine bN 16 rfl sH (br (i:=a) Tryz.underlying24 ck rfl rfl (Src.buf (k:=1) rfl) s u) (h:=aV dd sH ?_)
 obtain⟨M,c,H⟩:=bi H
 have hl_n1818 : M.length = p0.f0.f2.length:=by rw [c]; exact List.length_set
 refine eG 17 rfl (iG (k:=1) (i:=a) (j:=a.toNat * 15) (m:=0) (sz:=15) (xs:=p0.f0.f2) (vs:=(bW y)) y rfl rfl rfl rfl rfl rfl rfl rfl ck s u rfl (fun _ _ h_=>by subst h_; rfl) ?_)
 rewrite [← c]
 try unfold cQ
 try unfold eD
 try unfold am
 try rewrite [← hl_n1818]
 refine aH (by kernel_rfl) ?_
 have h:=aN H;subst h
 exact fH [0,1,2,3,4] ⟨af,ag,ay,az,au,av,aw,ax,rfl,rfl⟩


def ir.f (k : Nat) (a0 : bJ) (a1 : cN) (a2 : Int) : Option (Bool):=(fB.f k a0).bind (fun h=>(if (!h) = true then (some true) else ((qa.f a1).bind (fun c=>some (!c))) : Option Bool).bind (fun d=>lt (d || (decide (a2 < 0))) fun a=>lt (a || (decide (a2 ≥ a0.f1))) fun b=>some (b)))
theorem ir.ok {a0 : bJ} {a1 : cN} {a2 : Int} {r : Bool} (H : ir.f k a0 a1 a2 = some r) : fU Tryz.prog 144 #[.agg #[ae a0.f0,ae a0.f1,.slice af a0.f2.length ag],.agg (bF a1).toArray,ae a2] [Buf bI 55 af ag a0.f2] (.bool r):=by
 refine aj Tryz.func144 rfl rfl ?_
 unfold ir.f at H
 refine aP (o' (bO (h:=fun d=>o' (bO (h:=fun B=>ad aW (h:=bA (ap (bQ 0 fun y=>ak (l' (cx d 0 1 [ae a0.f0,ae a0.f1,.slice af a0.f2.length ag]) ?_)))))))))
 obtain⟨D,q,H⟩:=ac H
 refine o' (da [0] [1,2] (fB.ok q) ?_)
 refine ad (bU rfl) (h:=S' ar ?_)
 obtain⟨u,H,o⟩:=ac H
 refine dy 4 [(2,ae a2),(3,aI d),(14,.bool u)] [Buf bI 55 af ag a0.f2,aL d 26 [ae a0.f0,ae a0.f1,.slice af a0.f2.length ag]] ?_ fun junk=>?_
 ·rcases bD H with⟨c,H⟩|⟨c,H⟩
  ·refine ct 3 c (gJ c ?_)
   have h:=aN H;subst h
   exact dQ [0,1]
  refine z' (aK c) (cm 2) ?_
  obtain⟨z,p,H⟩:=ac H
  refine fR (aK c) (da [] [0,1,2] (qa.ok p) ?_)
  refine aZ (aK c) (bU rfl) (h:=fZ (aK c) ?_)
  have h:=aN H;subst h
  exact dQ [0,1]
 replace H:=o
 refine S' ar ?_
 obtain⟨m,j,H⟩:=bi H
 refine dy 3 [(2,ae a2),(3,aI d),(18,.bool m)] [Buf bI 55 af ag a0.f2,aL d 26 [ae a0.f0,ae a0.f1,.slice af a0.f2.length ag]] ?_ fun junk=>?_
 ·by_cases b : u = true
  ·refine ct 2 b (bY b (h:=ah ?_))
   have x_:=ik j b;exact bH [0,1]
  refine aZ (aK b) ar (h:=aZ (aK b) (cg rfl rfl) (h:=ca (aK b) (h:=ah ?_)))
  have x_:=ij j ((aK b));exact bH [0,1]
 refine S' ar ?_
 obtain⟨s,l,H⟩:=bi H
 refine dy 5 [(24,.bool s)] [Buf bI 55 af ag a0.f2] ?_ fun junk=>?_
 ·by_cases a : m = true
  ·refine ct 4 a (bY a (h:=ah ?_))
   have x_:=ik l a;exact bH [0]
  refine aZ (aK a) ar (h:=aZ (aK a) aA (h:=cn (aK a) (aO 1) (h:=aZ (aK a) (dU rfl rfl) (h:=ca (aK a) (h:=ah ?_)))))
  have x_:=ij l ((aK a));exact bH [0]
 refine ad aW (h:=cD ?_)
 have h:=aN H;subst h
 exact dJ [0] ⟨rfl,rfl⟩


def dF.f (a0 : bJ) (a1 : Int) : Option ((Int × Int)):=if 0 ≤ (i64.wrap (a1 * a0.f0))∧(i64.wrap (a1 * a0.f0)) ≤ (i64.wrap ((i64.wrap (a1 + 1)) * a0.f0))∧(i64.wrap ((i64.wrap (a1 + 1)) * a0.f0)) ≤ (a0.f2.length : Int) then (some (((0 + (i64.wrap (a1 * a0.f0)) : Int),((i64.wrap ((i64.wrap (a1 + 1)) * a0.f0)) - (i64.wrap (a1 * a0.f0)) : Int)))) else none
theorem dF.ok {a0 : bJ} {a1 : Int} {r : (Int × Int)} (H : dF.f a0 a1 = some r) : dp Tryz.prog 145 #[.agg #[ae a0.f0,ae a0.f1,.slice af a0.f2.length ag],ae a1] [Buf bI 55 af ag a0.f2] (fun v B=>∃ (V0_ : Option Addr) (v0_ : Nat) (_ : ey af V0_ 15 r.1 r.2 v0_),v = .slice V0_ r.2.toNat v0_∧B = [Buf bI 55 af ag a0.f2]):=by
 refine aj Tryz.func145 rfl rfl ?_
 unfold dF.f at H
 refine aP (o' (bO (h:=fun u=>ad aW (h:=bA (ap (bQ 0 fun s=>ak (ad aA (h:=bq (aO 1) (h:=ad ar (h:=S' aA ?_))))))))))
 refine bq (aO 1) (h:=ad (jt rfl rfl) (h:=ad ar (h:=ad (bX rfl rfl) (h:=ad aA (h:=bq (aO 1) (h:=S' (jt rfl rfl) ?_))))))
 obtain⟨⟨j,o,p⟩,H⟩:=aS H
 refine s' (.slice (dv af (i64.wrap (a1 * a0.f0)) ((ag : Nat) : Int) 15) ((i64.wrap ((i64.wrap (a1 + 1)) * a0.f0)) - (i64.wrap (a1 * a0.f0))).toNat (((ag : Nat) : Int).toNat - (i64.wrap (a1 * a0.f0)).toNat)) (dA (l:=0) (m:=(a0.f2.length : Int)) (a:=i64.wrap (a1 * a0.f0)) (b:=i64.wrap ((i64.wrap (a1 + 1)) * a0.f0)) (q:=((ag : Nat) : Int)) (ey.whole (A:=af) (sz:=15) (xs:=a0.f2) (c:=ag) (by omega)) Tryz.underlying24 ck rfl rfl rfl rfl (.inr ⟨_,rfl⟩) (.inr ⟨_,rfl⟩) (.inl ⟨rfl,rfl⟩) j o p) ?_
 have d : ey af (dv af (i64.wrap (a1 * a0.f0)) ((ag : Nat) : Int) 15) 15 (0 + (i64.wrap (a1 * a0.f0))) ((i64.wrap ((i64.wrap (a1 + 1)) * a0.f0)) - (i64.wrap (a1 * a0.f0))) (((ag : Nat) : Int).toNat - (i64.wrap (a1 * a0.f0)).toNat):=ey.sub (ey.whole (A:=af) (sz:=15) (xs:=a0.f2) (c:=ag) (by omega)) j o p (.inl rfl) (Int.le_refl _)
 refine bT (.slice (dv af (i64.wrap (a1 * a0.f0)) ((ag : Nat) : Int) 15) ((i64.wrap ((i64.wrap (a1 + 1)) * a0.f0)) - (i64.wrap (a1 * a0.f0))).toNat (((ag : Nat) : Int).toNat - (i64.wrap (a1 * a0.f0)).toNat)) rR (h:=cD ?_)
 have h:=aN H;subst h
 exact dJ [0] ⟨dv af (i64.wrap (a1 * a0.f0)) ((ag : Nat) : Int) 15,((ag : Nat) : Int).toNat - (i64.wrap (a1 * a0.f0)).toNat,d,rfl,rfl⟩


def cG.l1 (a0 : bJ) (a1 : Int) (a2 : Int) (a3 : Int) (a4 : cN) (r18 : bJ) (x13_24 : Int) (z12_2_24 : (List ba)) : Nat → Int → (List ba) → Option ((List ba))
  | 0,_,_=>none
  | k + 1,a,b=>if b.length = z12_2_24.length then (if a < a0.f0 then ((pF.f a4).bind (fun nw=>lt ((decide (a3 ≥ (i64.wrap (0 - a0.f1)))) && (decide (a3 ≤ a0.f1))) fun l=>lt (l && (decide ((i64.wrap (x13_24 + a3)) ≥ a1))) fun m=>lt (m && (decide ((i64.wrap (x13_24 + a3)) ≤ a2))) fun o=>(if o = true then ((dF.f a0 (i64.wrap (x13_24 + a3))).bind (fun c=>if (0 ≤ c.1∧0 ≤ c.2∧c.1 + c.2 ≤ (a0.f2.length : Int)) then (if 0 ≤ a∧a < c.2 then (some (ba.mk ((rd a0.f2 (c.1 + a)).f0) ((rd a0.f2 (c.1 + a)).f1) ((rd a0.f2 (c.1 + a)).f2) ((rd a0.f2 (c.1 + a)).f3))) else none) else none)) else (some nw) : Option (ba)).bind (fun p=>(dF.f (bJ.mk r18.f0 r18.f1 b) x13_24).bind (fun d=>if (0 ≤ d.1∧0 ≤ d.2∧d.1 + d.2 ≤ (b.length : Int)) then (if 0 ≤ a∧a < d.2 then (lt (b.set (d.1 + a).toNat p) fun h=>(lt (i64.wrap (a + 1)) fun j=>cG.l1 a0 a1 a2 a3 a4 r18 x13_24 z12_2_24 k j h)) else none) else none)))) else (some b)) else none
def cG.l0 (a0 : bJ) (a1 : Int) (a2 : Int) (a3 : Int) (a4 : cN) (r18 : bJ) : Nat → Int → (List ba) → Option ((List ba))
  | 0,_,_=>none
  | k + 1,b,a=>if a.length = r18.f2.length then (if b ≤ a2 then ((cG.l1 a0 a1 a2 a3 a4 r18 b a k 0 a : Option ((List ba))).bind (fun c=>if c.length = a.length then (lt (i64.wrap (b + 1)) fun d=>cG.l0 a0 a1 a2 a3 a4 r18 k d c) else none)) else (some a)) else none
def cG.f (k : Nat) (a0 : bJ) (a1 : Int) (a2 : Int) (a3 : Int) (a4 : cN) : Option (bJ × Int):=(ir.f k a0 a4 a1).bind (fun h=>lt (h || (decide (a2 < a1))) fun c=>lt (c || (decide (a2 ≥ a0.f1))) fun d=>if d = true then (some (((bJ.mk 0 0 ([] : (List ba))),2))) else ((hM.f a0).bind (fun a=>(cG.l0 a0 a1 a2 a3 a4 a k a1 a.f2 : Option ((List ba))).bind (fun b=>if b.length = a.f2.length then (some (((bJ.mk a.f0 a.f1 b),0))) else none))))
theorem cG.ok {a0 : bJ} {a1 : Int} {a2 : Int} {a3 : Int} {a4 : cN} {r : bJ × Int} (H : cG.f k a0 a1 a2 a3 a4 = some r) : dp Tryz.prog 105 #[.agg #[ae a0.f0,ae a0.f1,.slice af a0.f2.length ag],ae a1,ae a2,ae a3,.agg (bF a4).toArray] [Buf bI 55 af ag a0.f2] (fun v B=>∃ aQ aR,v = .tuple #[.agg #[ae r.1.f0,ae r.1.f1,.slice aQ r.1.f2.length aR],ae r.2]∧B = [Buf bI 55 aQ aR r.1.f2,Buf bI 55 af ag a0.f2]):=by
 refine aj Tryz.func105 rfl rfl ?_
 unfold cG.f at H
 refine aP (o' (bO (h:=fun z=>o' (bO (h:=fun D=>o' (cC (h:=fun u=>ad aW (h:=bA (ap (ap (bQ 0 fun h0=>ak (bq (cx z 0 1 [ae a0.f0,ae a0.f1,.slice af a0.f2.length ag]) (h:=l' (cm 2) ?_)))))))))))))
 refine S' ar ?_
 obtain⟨r9,e3,H⟩:=ac H
 refine o' (da [0] [1,2,3] (ir.ok e3) ?_)
 refine S' ar ?_
 obtain⟨d7,b0,H⟩:=bi H
 refine dy 4 [(1,ae a1),(2,ae a2),(3,ae a3),(5,aI z),(9,aI D),(10,aI u),(24,.bool d7)] [Buf bI 55 af ag a0.f2,aL z 26 [ae a0.f0,ae a0.f1,.slice af a0.f2.length ag],aL D 28 (bF a4),aL u 26 [ae 0,ae 0,.slice none 0 0]] ?_ fun junk=>?_
 ·by_cases M : r9 = true
  ·refine ct 3 M (bY M (h:=ah ?_))
   have x_:=ik b0 M;exact bH [0,1,2,3]
  refine aZ (aK M) ar (h:=aZ (aK M) ar (h:=aZ (aK M) (cg rfl rfl) (h:=ca (aK M) (h:=ah ?_))))
  have x_:=ij b0 ((aK M));exact bH [0,1,2,3]
 refine S' ar ?_
 obtain⟨f9,b1,H⟩:=bi H
 refine cI 5 (St [(1,ae a1),(2,ae a2),(3,ae a3),(5,aI z),(9,aI D),(10,aI u),(30,.bool f9)] [Buf bI 55 af ag a0.f2,aL z 26 [ae a0.f0,ae a0.f1,.slice af a0.f2.length ag],aL D 28 (bF a4),aL u 26 [ae 0,ae 0,.slice none 0 0]]) ?_ ?_
 ·by_cases J : d7 = true
  ·refine ct 4 J (bY J (h:=ah ?_))
   have x_:=ik b1 J;exact bH [0,1,2,3]
  refine aZ (aK J) ar (h:=aZ (aK J) aA (h:=cn (aK J) (aO 1) (h:=aZ (aK J) (dU rfl rfl) (h:=ca (aK J) (h:=ah ?_)))))
  have x_:=ij b1 ((aK J));exact bH [0,1,2,3]
 rintro e ds As d2
 refine bA (SA.of_St d2 fun junk=>?_)
 rcases bD H with⟨a6,H⟩|⟨a6,H⟩
 ·refine aD rfl a6 (aP (bT (.agg #[ae 0,ae 0,.slice none 0 0]) dS (h:=o' (bj u 0 3 [ae 0,ae 0,.slice none 0 0] (h:=ad aW (h:=cA ?_))))))
  have h:=aN H;subst h
  exact lX [.cell 10 26,.tmp 11] ((Gh.nilBuf bI 55).trans (fk [4,0])) ⟨none,0,rfl,rfl⟩ ⟨cW 3,cX,trivial⟩
 refine aE rfl a6 (ao (aa (aP (l' (cx z 0 1 [ae a0.f0,ae a0.f1,.slice af a0.f2.length ag]) ?_))))
 obtain⟨c,e2,H⟩:=ac H
 refine o' (gy [0] [1,2,3] (hM.ok e2) fun d o=>?_)
 refine o' (cC (h:=fun q=>o' (bj q 0 5 [ae c.f0,ae c.f1,.slice d c.f2.length o] (h:=eA (ad ar (h:=ad aW (h:=bA ?_)))))))
 obtain⟨N,H,Y⟩:=ac H
 refine bK (St [(10,aI u),(12,aI q)] [Buf bI 55 af ag a0.f2,aL u 26 [ae 0,ae 0,.slice none 0 0],aL q 26 [ae c.f0,ae c.f1,.slice d N.length o],Buf bI 55 d o N]) ?_ ?_
 ·refine aT (cl (fun k_ e ds As=>∃ (p : Int) (s : (List ba)),cG.l0 a0 a1 a2 a3 a4 c k_ p s = some N∧St [(1,ae a1),(2,ae a2),(3,ae a3),(5,aI z),(9,aI D),(10,aI u),(12,aI q),(13,ae p)] [Buf bI 55 af ag a0.f2,aL z 26 [ae a0.f0,ae a0.f1,.slice af a0.f2.length ag],aL D 28 (bF a4),aL u 26 [ae 0,ae 0,.slice none 0 0],aL q 26 [ae c.f0,ae c.f1,.slice d s.length o],Buf bI 55 d o s] e ds As) (k:=k) ⟨_,_,H,jQ [1,2,3,4,5,0]⟩ ?_)
  clear H
  rintro S e ds As ⟨p,s,H,d3⟩
  obtain _ | S:=S
  ·cases H
  rw [cG.l0] at H
  obtain⟨g3,H⟩:=aS H
  refine SA.of_St d3 fun junk=>ap (aP (ad ar (h:=ad ar (h:=ad (gF rfl rfl) (h:=bA ?_)))))
  rcases bD H with⟨a7,H⟩|⟨a7,H⟩
  ·refine aC rfl a7 (ao (aa (ap (aT (aP (ad aW (h:=bA ?_)))))))
   obtain⟨c8,H,Z⟩:=ac H
   refine bK (St [(1,ae a1),(2,ae a2),(3,ae a3),(5,aI z),(9,aI D),(10,aI u),(12,aI q),(13,ae p)] [Buf bI 55 af ag a0.f2,aL z 26 [ae a0.f0,ae a0.f1,.slice af a0.f2.length ag],aL D 28 (bF a4),aL u 26 [ae 0,ae 0,.slice none 0 0],aL q 26 [ae c.f0,ae c.f1,.slice d c8.length o],Buf bI 55 d o c8]) ?_ ?_
   ·refine aT (cl (fun k_ e ds As=>∃ (a : Int) (b : (List ba)),cG.l1 a0 a1 a2 a3 a4 c p s k_ a b = some c8∧St [(1,ae a1),(2,ae a2),(3,ae a3),(5,aI z),(9,aI D),(10,aI u),(12,aI q),(13,ae p),(14,ae a)] [Buf bI 55 af ag a0.f2,aL z 26 [ae a0.f0,ae a0.f1,.slice af a0.f2.length ag],aL D 28 (bF a4),aL u 26 [ae 0,ae 0,.slice none 0 0],aL q 26 [ae c.f0,ae c.f1,.slice d b.length o],Buf bI 55 d o b] e ds As) (k:=S) ⟨_,_,H,jQ [0,1,2,3,4,5]⟩ ?_)
    clear H
    rintro c5 e ds As ⟨a,b,H,d4⟩
    obtain _ | c5:=c5
    ·cases H
    rw [cG.l1] at H
    obtain⟨g1,H⟩:=aS H
    refine SA.of_St d4 fun junk=>ap (aP (ad ar (h:=ad aA (h:=bq (aO 1) (h:=ad (cg rfl rfl) (h:=bA ?_))))))
    rcases bD H with⟨a8,H⟩|⟨a8,H⟩
    ·refine aC rfl a8 (ao (aa (ap (aT (aP (l' (cm 2) ?_))))))
     obtain⟨nw,e1,H⟩:=ac H
     refine o' (da [] [0,1,2,3,4,5] (pF.ok e1) ?_)
     refine o' (cC (h:=fun E=>o' (bj E 0 6 (bW nw) (h:=eA (ad ar (h:=ad aA (h:=bq (aO 1) (h:=bT (ae (i64.wrap (0 - a0.f1))) (ms rfl) (h:=ad (dU rfl rfl) (h:=S' ar ?_))))))))))
     obtain⟨d8,b3,H⟩:=bi H
     refine dy 5 [(1,ae a1),(2,ae a2),(3,ae a3),(5,aI z),(9,aI D),(10,aI u),(12,aI q),(13,ae p),(14,ae a),(15,aI E),(58,.bool d8)] [Buf bI 55 af ag a0.f2,aL z 26 [ae a0.f0,ae a0.f1,.slice af a0.f2.length ag],aL D 28 (bF a4),aL u 26 [ae 0,ae 0,.slice none 0 0],aL q 26 [ae c.f0,ae c.f1,.slice d b.length o],Buf bI 55 d o b,aL E 55 (bW nw)] ?_ fun junk=>?_
     ·by_cases K : a3 ≥ (i64.wrap (0 - a0.f1))
      ·refine aZ (ai K) ar (h:=aZ (ai K) aA (h:=cn (ai K) (aO 1) (h:=aZ (ai K) (gF rfl rfl) (h:=bY (ai K) (h:=ah ?_)))))
       have x_:=fq b3 ((ai K));exact bH [0,1,2,3,4,5,6]
      refine ct 4 (al K) (ca (al K) (h:=ah ?_))
      have x_:=fp b3 ((al K));exact bH [0,1,2,3,4,5,6]
     refine S' ar ?_
     obtain⟨d9,b5,H⟩:=bi H
     refine dy 6 [(1,ae a1),(2,ae a2),(3,ae a3),(5,aI z),(9,aI D),(10,aI u),(12,aI q),(13,ae p),(14,ae a),(15,aI E),(65,.bool d9)] [Buf bI 55 af ag a0.f2,aL z 26 [ae a0.f0,ae a0.f1,.slice af a0.f2.length ag],aL D 28 (bF a4),aL u 26 [ae 0,ae 0,.slice none 0 0],aL q 26 [ae c.f0,ae c.f1,.slice d b.length o],Buf bI 55 d o b,aL E 55 (bW nw)] ?_ fun junk=>?_
     ·by_cases F : d8 = true
      ·refine aZ F ar (h:=aZ F ar (h:=aZ F (bX rfl rfl) (h:=aZ F ar (h:=aZ F (dU rfl rfl) (h:=bY F (h:=ah ?_))))))
       have x_:=fq b5 F;exact bH [0,1,2,3,4,5,6]
      refine ct 5 (aK F) (ca (aK F) (h:=ah ?_))
      have x_:=fp b5 ((aK F));exact bH [0,1,2,3,4,5,6]
     refine S' ar ?_
     obtain⟨g0,b7,H⟩:=bi H
     refine cI 6 (St [(1,ae a1),(2,ae a2),(3,ae a3),(5,aI z),(9,aI D),(10,aI u),(12,aI q),(13,ae p),(14,ae a),(15,aI E),(72,.bool g0)] [Buf bI 55 af ag a0.f2,aL z 26 [ae a0.f0,ae a0.f1,.slice af a0.f2.length ag],aL D 28 (bF a4),aL u 26 [ae 0,ae 0,.slice none 0 0],aL q 26 [ae c.f0,ae c.f1,.slice d b.length o],Buf bI 55 d o b,aL E 55 (bW nw)]) ?_ ?_
     ·by_cases I : d9 = true
      ·refine aZ I ar (h:=aZ I ar (h:=aZ I (bX rfl rfl) (h:=aZ I ar (h:=aZ I (gF rfl rfl) (h:=bY I (h:=ah ?_))))))
       have x_:=fq b7 I;exact bH [0,1,2,3,4,5,6]
      refine ct 5 (aK I) (ca (aK I) (h:=ah ?_))
      have x_:=fp b7 ((aK I));exact bH [0,1,2,3,4,5,6]
     rintro e ds As d5
     refine bA (SA.of_St d5 fun junk=>?_)
     obtain⟨U,H,a5⟩:=ac H
     refine bK (fun e ds As=>∃ (O : Nat),St [(1,ae a1),(2,ae a2),(3,ae a3),(5,aI z),(9,aI D),(10,aI u),(12,aI q),(13,ae p),(14,ae a),(15,aI O)] [aL O 55 (bW U),Buf bI 55 af ag a0.f2,aL z 26 [ae a0.f0,ae a0.f1,.slice af a0.f2.length ag],aL D 28 (bF a4),aL u 26 [ae 0,ae 0,.slice none 0 0],aL q 26 [ae c.f0,ae c.f1,.slice d b.length o],Buf bI 55 d o b] e ds As) ?_ ?_
     ·rcases bD H with⟨a9,H⟩|⟨a9,H⟩
      ·refine aD rfl a9 (bQ 5 fun g6=>ak (bq (cx z 0 1 [ae a0.f0,ae a0.f1,.slice af a0.f2.length ag]) (h:=ad ar (h:=ad ar (h:=S' (bX rfl rfl) ?_)))))
       obtain⟨y,f4,H⟩:=ac H
       obtain⟨⟨hl52a,hl52b,hl52c⟩,H⟩:=aS H
       refine o' (mu [0] [1,2,3,4,5,6] (dF.ok f4) ?_)
       rintro _ _⟨g9,h3,e8,rfl,rfl⟩
       refine S' ar ?_
       obtain⟨⟨f5,f6⟩,H⟩:=aS H
       have f7 : 0 ≤ y.1 + a:=by omega
       have f8 : y.1 + a < (a0.f2.length : Int):=by omega
       refine bq (eQ (l:=y.1) (m:=y.2) (i:=a) (sz:=15) e8 Tryz.underlying24 ck rfl rfl (Src.buf (k:=0) rfl) f5 f6 (by omega)) (h:=bq (cf (enc:=cZ) (i:=y.1 + a) (j:=(y.1 + a).toNat * 15) (m:=0) (sz:=15) (vs:=(bW (ba.mk ((rd a0.f2 (y.1 + a)).f0) ((rd a0.f2 (y.1 + a)).f1) ((rd a0.f2 (y.1 + a)).f2) ((rd a0.f2 (y.1 + a)).f3)))) Tryz.underlying55 rfl ck rfl rfl rfl (Src.buf (k:=0) rfl) f7 f8 (fun _ _ h=>h) rfl) (h:=o' (bj E 0 6 (bW (ba.mk ((rd a0.f2 (y.1 + a)).f0) ((rd a0.f2 (y.1 + a)).f1) ((rd a0.f2 (y.1 + a)).f2) ((rd a0.f2 (y.1 + a)).f3))) (h:=ah ?_))))
       have h:=aN H;subst h
       exact aa ⟨E,eb [6,0,1,2,3,4,5]⟩
      refine aE rfl a9 (ao ?_)
      have h:=aN H;subst h
      exact aa ⟨E,eb [6,0,1,2,3,4,5]⟩
     rintro e ds As ⟨O,d6⟩
     clear H
     have H:=a5
     clear a5
     refine aa (SA.of_St d6 fun junk=>bQ 6 fun g7=>?_)
     refine fO [0,1,3,4,5] #[[],[],[0,1],[],[],[0,1,3,4],[0,1,3,4,5]] [aL O 55 (bW U),aL q 26 [ae c.f0,ae c.f1,.slice d b.length o],Buf bI 55 d o b] jx (bV.inb (bV.thn (bV.thn (bV.inb (bV.thn (bV.inb (bV.thn (bV.thn (bV.inb (bV.thn (bV.thn bV.body))))))))))) fun I0 h1 w0 pk=>?_
     refine hD 0 [0,5,6] rfl (cx q 0 1 [ae c.f0,ae c.f1,.slice d b.length o]) (h:=eF (ae p) 1 [0,5,6] rfl fP (h:=eF (ae a) 3 [0,5,6] rfl fP (h:=sK 4 [0,5,6] rfl (cm 0) ?_)))
     obtain⟨L,e0,H⟩:=ac H
     obtain⟨⟨hl184a,hl184b,hl184c⟩,H⟩:=aS H
     refine fa 2 (by kernel_rfl) rfl (.no rfl) (mu [6] [0,1,2,3,4,5] (dF.ok e0) ?_)
     rintro _ _⟨g5,g8,c9,rfl,rfl⟩
     refine ⟨fun _=>⟨[1,6,0],rfl,rfl⟩,?_⟩
     obtain⟨⟨e4,e5⟩,H⟩:=aS H
     have e6 : 0 ≤ L.1 + a:=by omega
     have e7 : L.1 + a < (b.length : Int):=by omega
     refine sK 5 [1,6,0] rfl (eQ (l:=L.1) (m:=L.2) (i:=a) (sz:=15) c9 Tryz.underlying24 ck rfl rfl (Src.buf (k:=2) rfl) e4 e5 (by omega)) ?_
     obtain⟨e9,R,H⟩:=bi H
     have hl_n420 : e9.length = b.length:=by rw [R]; exact List.length_set
     refine fa 6 (by kernel_rfl) rfl (.no rfl) (iG (k:=0) (i:=L.1 + a) (j:=(L.1 + a).toNat * 15) (m:=0) (sz:=15) (xs:=b) (vs:=(bW U)) U rfl rfl rfl rfl rfl rfl rfl rfl ck e6 e7 rfl (fun _ _ h_=>by subst h_; rfl) ?_)
     rewrite [← R]
     try unfold bF
     try rewrite [← hl_n420]
     refine ⟨fun h_=>absurd h_ (by decide),?_⟩
     refine aH (by kernel_rfl) (aG (aa (ak (ad ar (h:=S' (bX rfl rfl) ?_)))))
     obtain⟨c6,d0,H⟩:=bi H
     refine bT (ae c6) (bu (v:=ae c6) (congrArg (Value.int .i64) d0.symm)) (h:=ah ?_)
     exact aa ⟨c5,Nat.lt_succ_self _,_,_,H,eb [2,3,4,5,6,0]⟩
    refine aB rfl a8 (ci (aX (aX (cj ?_))))
    have h:=aN H;subst h
    exact bH [0,1,2,3,4,5]
   rintro e ds As b8
   clear H
   have H:=Z
   clear Z
   obtain⟨g2,H⟩:=aS H
   refine aG (aa (SA.of_St b8 fun junk=>ak (ad ar (h:=S' (bX rfl rfl) ?_))))
   obtain⟨c7,d1,H⟩:=bi H
   refine bT (ae c7) (bu (v:=ae c7) (congrArg (Value.int .i64) d1.symm)) (h:=ah ?_)
   exact aa ⟨S,Nat.lt_succ_self _,_,_,H,eb [0,1,2,3,4,5]⟩
  refine aB rfl a7 (ci (aX (aX (cj ?_))))
  have h:=aN H;subst h
  exact bH [0,3,4,5]
 rintro e ds As b9
 clear H
 have H:=Y
 clear Y
 obtain⟨g4,H⟩:=aS H
 refine aa (SA.of_St b9 fun junk=>aP (bq (cx q 0 2 [ae c.f0,ae c.f1,.slice d N.length o]) (h:=o' (bj u 0 1 [ae c.f0,ae c.f1,.slice d N.length o] (h:=ad aW (h:=cD ?_))))))
 have h:=aN H;subst h
 exact dE [.cell 10 26,.tmp 11] [3,0] ⟨d,o,rfl,rfl⟩ ⟨cW 1,cX,trivial⟩


def io.f (k : Nat) (p0 : aJ) : Option (aJ):=if p0.f1 = p0.f6 then ((cG.f k p0.f0 p0.f5 p0.f6 1 p0.f4).bind (fun a=>some (({ p0 with f0:=a.1 })))) else (if p0.f1 < (i64.wrap (p0.f0.f1 - 1)) then (some (({ p0 with f1:=(i64.wrap (p0.f1 + 1)) }))) else (some (p0)))
theorem io.ok {p0 : aJ} {r : aJ} (H : io.f k p0 = some r) : dp Tryz.prog 101 #[.pointer (some ⟨bg,0,none⟩)] (cQ bg p0 af ag ay az au av aw ax) (fun v B=>∃ P0_0_ q0_0_ P0_1_ q0_1_ P0_2_ q0_2_ P0_3_ q0_3_,v = .tuple #[]∧B = (cQ bg r P0_0_ q0_0_ P0_1_ q0_1_ P0_2_ q0_2_ P0_3_ q0_3_)):=by
 refine aj Tryz.func101 rfl rfl ?_
 unfold io.f at H
 refine ap ?_
 refine fg (dC 0 9) [0] (dC 1 4) fun _ _ _ _ _ sH dd pk=>?_
 refine bf 0 rfl sH ar (h:=bf 1 rfl sH cL (h:=bf 2 rfl sH aA (h:=bN 3 rfl sH (aO 0) (h:=bf 4 rfl sH ar (h:=bf 5 rfl sH cL (h:=bf 6 rfl sH aA (h:=bN 7 rfl sH (aO 0) (h:=bf 8 rfl sH (bk rfl rfl) (h:=aV dd sH ?_)))))))))
 refine aH (by kernel_rfl) (aa ?_)
 rcases bD H with⟨l,H⟩|⟨l,H⟩
 ·refine aC rfl l (bQ 1 fun m=>bQ 2 fun o=>bQ 3 fun p=>bQ 4 fun q=>?_)
  refine lB jx bV.body fun u s y pk=>?_
  refine cd 0 rfl ar (h:=cd 1 rfl ar (h:=cd 2 rfl cL (h:=cd 3 rfl aA (h:=cd 5 rfl ar (h:=cd 6 rfl cL (h:=cd 7 rfl aA (h:=cd 9 rfl ar (h:=cd 10 rfl cL (h:=xV 11 rfl aA ?_)))))))))
  refine cd 13 rfl ar (h:=cd 14 rfl cL (h:=xV 15 rfl aA ?_))
  obtain⟨a,d,H⟩:=ac H
  refine eK (rs:=[4,8,12,16]) (by kernel_rfl) (by decide) (bG ⟨rfl,_,rfl,(.no rfl),?_⟩ (bG ⟨rfl,_,rfl,(.no rfl),?_⟩ (bG ⟨rfl,_,rfl,(.no rfl),?_⟩ (bG ⟨rfl,_,rfl,(.no rfl),?_⟩ dl))))
  ·refine id (dL rfl (cx bg 0 0 [ae p0.f0.f0,ae p0.f0.f1,.slice af p0.f0.f2.length ag]) ?_)
   refine eK (rs:=[8,12,16]) (by kernel_rfl) (by decide) (bG ⟨rfl,_,rfl,(.no rfl),?_⟩ (bG ⟨rfl,_,rfl,(.no rfl),?_⟩ (bG ⟨rfl,_,rfl,(.no rfl),?_⟩ dl)))
   ·refine id (dL rfl (il bg 16 0) ?_)
    refine eK (rs:=[12,16]) (by kernel_rfl) (by decide) (bG ⟨rfl,_,rfl,(.no rfl),?_⟩ (bG ⟨rfl,_,rfl,(.no rfl),?_⟩ dl))
    ·refine id (dL rfl (il bg 17 0) (eG 16 rfl (dL rfl (cx bg 6 0 (bF p0.f4)) (eG 17 rfl (gy [1] [0,2,3,4] (cG.ok d) fun b c=>?_)))))
     refine cd 18 rfl ar (h:=cd 19 rfl cw (h:=cd 20 rfl cw (h:=cd 21 rfl cL (h:=cd 22 rfl aA (h:=eG 23 rfl (cJ 2 [ae a.1.f0,ae a.1.f1,.slice b a.1.f2.length c] (h:=(aH (by kernel_rfl) ?_))))))))
     have h:=aN H;subst h
     exact fH [2,0,3,4,5] ⟨b,c,ay,az,au,av,aw,ax,rfl,rfl⟩
    refine id (dL rfl (cx bg 6 0 (bF p0.f4)) (eG 12 rfl (dL rfl (il bg 17 0) (eG 17 rfl (gy [1] [0,2,3,4] (cG.ok d) fun b c=>?_)))))
    refine cd 18 rfl ar (h:=cd 19 rfl cw (h:=cd 20 rfl cw (h:=cd 21 rfl cL (h:=cd 22 rfl aA (h:=eG 23 rfl (cJ 2 [ae a.1.f0,ae a.1.f1,.slice b a.1.f2.length c] (h:=(aH (by kernel_rfl) ?_))))))))
    have h:=aN H;subst h
    exact fH [2,0,3,4,5] ⟨b,c,ay,az,au,av,aw,ax,rfl,rfl⟩
   ·refine id (dL rfl (il bg 17 0) ?_)
    refine eK (rs:=[8,16]) (by kernel_rfl) (by decide) (bG ⟨rfl,_,rfl,(.no rfl),?_⟩ (bG ⟨rfl,_,rfl,(.no rfl),?_⟩ dl))
    ·refine id (dL rfl (il bg 16 0) (eG 16 rfl (dL rfl (cx bg 6 0 (bF p0.f4)) (eG 17 rfl (gy [1] [0,2,3,4] (cG.ok d) fun b c=>?_)))))
     refine cd 18 rfl ar (h:=cd 19 rfl cw (h:=cd 20 rfl cw (h:=cd 21 rfl cL (h:=cd 22 rfl aA (h:=eG 23 rfl (cJ 2 [ae a.1.f0,ae a.1.f1,.slice b a.1.f2.length c] (h:=(aH (by kernel_rfl) ?_))))))))
     have h:=aN H;subst h
     exact fH [2,0,3,4,5] ⟨b,c,ay,az,au,av,aw,ax,rfl,rfl⟩
    refine id (dL rfl (cx bg 6 0 (bF p0.f4)) (eG 8 rfl (dL rfl (il bg 16 0) (eG 17 rfl (gy [1] [0,2,3,4] (cG.ok d) fun b c=>?_)))))
    refine cd 18 rfl ar (h:=cd 19 rfl cw (h:=cd 20 rfl cw (h:=cd 21 rfl cL (h:=cd 22 rfl aA (h:=eG 23 rfl (cJ 2 [ae a.1.f0,ae a.1.f1,.slice b a.1.f2.length c] (h:=(aH (by kernel_rfl) ?_))))))))
    have h:=aN H;subst h
    exact fH [2,0,3,4,5] ⟨b,c,ay,az,au,av,aw,ax,rfl,rfl⟩
   refine id (dL rfl (cx bg 6 0 (bF p0.f4)) ?_)
   refine eK (rs:=[8,12]) (by kernel_rfl) (by decide) (bG ⟨rfl,_,rfl,(.no rfl),?_⟩ (bG ⟨rfl,_,rfl,(.no rfl),?_⟩ dl))
   ·refine id (dL rfl (il bg 16 0) (eG 12 rfl (dL rfl (il bg 17 0) (eG 17 rfl (gy [1] [0,2,3,4] (cG.ok d) fun b c=>?_)))))
    refine cd 18 rfl ar (h:=cd 19 rfl cw (h:=cd 20 rfl cw (h:=cd 21 rfl cL (h:=cd 22 rfl aA (h:=eG 23 rfl (cJ 2 [ae a.1.f0,ae a.1.f1,.slice b a.1.f2.length c] (h:=(aH (by kernel_rfl) ?_))))))))
    have h:=aN H;subst h
    exact fH [2,0,3,4,5] ⟨b,c,ay,az,au,av,aw,ax,rfl,rfl⟩
   refine id (dL rfl (il bg 17 0) (eG 8 rfl (dL rfl (il bg 16 0) (eG 17 rfl (gy [1] [0,2,3,4] (cG.ok d) fun b c=>?_)))))
   refine cd 18 rfl ar (h:=cd 19 rfl cw (h:=cd 20 rfl cw (h:=cd 21 rfl cL (h:=cd 22 rfl aA (h:=eG 23 rfl (cJ 2 [ae a.1.f0,ae a.1.f1,.slice b a.1.f2.length c] (h:=(aH (by kernel_rfl) ?_))))))))
   have h:=aN H;subst h
   exact fH [2,0,3,4,5] ⟨b,c,ay,az,au,av,aw,ax,rfl,rfl⟩
  ·refine id (dL rfl (il bg 16 0) ?_)
   refine eK (rs:=[4,12,16]) (by kernel_rfl) (by decide) (bG ⟨rfl,_,rfl,(.no rfl),?_⟩ (bG ⟨rfl,_,rfl,(.no rfl),?_⟩ (bG ⟨rfl,_,rfl,(.no rfl),?_⟩ dl)))
   ·refine id (dL rfl (cx bg 0 0 [ae p0.f0.f0,ae p0.f0.f1,.slice af p0.f0.f2.length ag]) ?_)
    refine eK (rs:=[12,16]) (by kernel_rfl) (by decide) (bG ⟨rfl,_,rfl,(.no rfl),?_⟩ (bG ⟨rfl,_,rfl,(.no rfl),?_⟩ dl))
    ·refine id (dL rfl (il bg 17 0) (eG 16 rfl (dL rfl (cx bg 6 0 (bF p0.f4)) (eG 17 rfl (gy [1] [0,2,3,4] (cG.ok d) fun b c=>?_)))))
     refine cd 18 rfl ar (h:=cd 19 rfl cw (h:=cd 20 rfl cw (h:=cd 21 rfl cL (h:=cd 22 rfl aA (h:=eG 23 rfl (cJ 2 [ae a.1.f0,ae a.1.f1,.slice b a.1.f2.length c] (h:=(aH (by kernel_rfl) ?_))))))))
     have h:=aN H;subst h
     exact fH [2,0,3,4,5] ⟨b,c,ay,az,au,av,aw,ax,rfl,rfl⟩
    refine id (dL rfl (cx bg 6 0 (bF p0.f4)) (eG 12 rfl (dL rfl (il bg 17 0) (eG 17 rfl (gy [1] [0,2,3,4] (cG.ok d) fun b c=>?_)))))
    refine cd 18 rfl ar (h:=cd 19 rfl cw (h:=cd 20 rfl cw (h:=cd 21 rfl cL (h:=cd 22 rfl aA (h:=eG 23 rfl (cJ 2 [ae a.1.f0,ae a.1.f1,.slice b a.1.f2.length c] (h:=(aH (by kernel_rfl) ?_))))))))
    have h:=aN H;subst h
    exact fH [2,0,3,4,5] ⟨b,c,ay,az,au,av,aw,ax,rfl,rfl⟩
   ·refine id (dL rfl (il bg 17 0) ?_)
    refine eK (rs:=[4,16]) (by kernel_rfl) (by decide) (bG ⟨rfl,_,rfl,(.no rfl),?_⟩ (bG ⟨rfl,_,rfl,(.no rfl),?_⟩ dl))
    ·refine id (dL rfl (cx bg 0 0 [ae p0.f0.f0,ae p0.f0.f1,.slice af p0.f0.f2.length ag]) (eG 16 rfl (dL rfl (cx bg 6 0 (bF p0.f4)) (eG 17 rfl (gy [1] [0,2,3,4] (cG.ok d) fun b c=>?_)))))
     refine cd 18 rfl ar (h:=cd 19 rfl cw (h:=cd 20 rfl cw (h:=cd 21 rfl cL (h:=cd 22 rfl aA (h:=eG 23 rfl (cJ 2 [ae a.1.f0,ae a.1.f1,.slice b a.1.f2.length c] (h:=(aH (by kernel_rfl) ?_))))))))
     have h:=aN H;subst h
     exact fH [2,0,3,4,5] ⟨b,c,ay,az,au,av,aw,ax,rfl,rfl⟩
    refine id (dL rfl (cx bg 6 0 (bF p0.f4)) (eG 4 rfl (dL rfl (cx bg 0 0 [ae p0.f0.f0,ae p0.f0.f1,.slice af p0.f0.f2.length ag]) (eG 17 rfl (gy [1] [0,2,3,4] (cG.ok d) fun b c=>?_)))))
    refine cd 18 rfl ar (h:=cd 19 rfl cw (h:=cd 20 rfl cw (h:=cd 21 rfl cL (h:=cd 22 rfl aA (h:=eG 23 rfl (cJ 2 [ae a.1.f0,ae a.1.f1,.slice b a.1.f2.length c] (h:=(aH (by kernel_rfl) ?_))))))))
    have h:=aN H;subst h
    exact fH [2,0,3,4,5] ⟨b,c,ay,az,au,av,aw,ax,rfl,rfl⟩
   refine id (dL rfl (cx bg 6 0 (bF p0.f4)) ?_)
   refine eK (rs:=[4,12]) (by kernel_rfl) (by decide) (bG ⟨rfl,_,rfl,(.no rfl),?_⟩ (bG ⟨rfl,_,rfl,(.no rfl),?_⟩ dl))
   ·refine id (dL rfl (cx bg 0 0 [ae p0.f0.f0,ae p0.f0.f1,.slice af p0.f0.f2.length ag]) (eG 12 rfl (dL rfl (il bg 17 0) (eG 17 rfl (gy [1] [0,2,3,4] (cG.ok d) fun b c=>?_)))))
    refine cd 18 rfl ar (h:=cd 19 rfl cw (h:=cd 20 rfl cw (h:=cd 21 rfl cL (h:=cd 22 rfl aA (h:=eG 23 rfl (cJ 2 [ae a.1.f0,ae a.1.f1,.slice b a.1.f2.length c] (h:=(aH (by kernel_rfl) ?_))))))))
    have h:=aN H;subst h
    exact fH [2,0,3,4,5] ⟨b,c,ay,az,au,av,aw,ax,rfl,rfl⟩
   refine id (dL rfl (il bg 17 0) (eG 4 rfl (dL rfl (cx bg 0 0 [ae p0.f0.f0,ae p0.f0.f1,.slice af p0.f0.f2.length ag]) (eG 17 rfl (gy [1] [0,2,3,4] (cG.ok d) fun b c=>?_)))))
   refine cd 18 rfl ar (h:=cd 19 rfl cw (h:=cd 20 rfl cw (h:=cd 21 rfl cL (h:=cd 22 rfl aA (h:=eG 23 rfl (cJ 2 [ae a.1.f0,ae a.1.f1,.slice b a.1.f2.length c] (h:=(aH (by kernel_rfl) ?_))))))))
   have h:=aN H;subst h
   exact fH [2,0,3,4,5] ⟨b,c,ay,az,au,av,aw,ax,rfl,rfl⟩
  ·refine id (dL rfl (il bg 17 0) ?_)
   refine eK (rs:=[4,8,16]) (by kernel_rfl) (by decide) (bG ⟨rfl,_,rfl,(.no rfl),?_⟩ (bG ⟨rfl,_,rfl,(.no rfl),?_⟩ (bG ⟨rfl,_,rfl,(.no rfl),?_⟩ dl)))
   ·refine id (dL rfl (cx bg 0 0 [ae p0.f0.f0,ae p0.f0.f1,.slice af p0.f0.f2.length ag]) ?_)
    refine eK (rs:=[8,16]) (by kernel_rfl) (by decide) (bG ⟨rfl,_,rfl,(.no rfl),?_⟩ (bG ⟨rfl,_,rfl,(.no rfl),?_⟩ dl))
    ·refine id (dL rfl (il bg 16 0) (eG 16 rfl (dL rfl (cx bg 6 0 (bF p0.f4)) (eG 17 rfl (gy [1] [0,2,3,4] (cG.ok d) fun b c=>?_)))))
     refine cd 18 rfl ar (h:=cd 19 rfl cw (h:=cd 20 rfl cw (h:=cd 21 rfl cL (h:=cd 22 rfl aA (h:=eG 23 rfl (cJ 2 [ae a.1.f0,ae a.1.f1,.slice b a.1.f2.length c] (h:=(aH (by kernel_rfl) ?_))))))))
     have h:=aN H;subst h
     exact fH [2,0,3,4,5] ⟨b,c,ay,az,au,av,aw,ax,rfl,rfl⟩
    refine id (dL rfl (cx bg 6 0 (bF p0.f4)) (eG 8 rfl (dL rfl (il bg 16 0) (eG 17 rfl (gy [1] [0,2,3,4] (cG.ok d) fun b c=>?_)))))
    refine cd 18 rfl ar (h:=cd 19 rfl cw (h:=cd 20 rfl cw (h:=cd 21 rfl cL (h:=cd 22 rfl aA (h:=eG 23 rfl (cJ 2 [ae a.1.f0,ae a.1.f1,.slice b a.1.f2.length c] (h:=(aH (by kernel_rfl) ?_))))))))
    have h:=aN H;subst h
    exact fH [2,0,3,4,5] ⟨b,c,ay,az,au,av,aw,ax,rfl,rfl⟩
   ·refine id (dL rfl (il bg 16 0) ?_)
    refine eK (rs:=[4,16]) (by kernel_rfl) (by decide) (bG ⟨rfl,_,rfl,(.no rfl),?_⟩ (bG ⟨rfl,_,rfl,(.no rfl),?_⟩ dl))
    ·refine id (dL rfl (cx bg 0 0 [ae p0.f0.f0,ae p0.f0.f1,.slice af p0.f0.f2.length ag]) (eG 16 rfl (dL rfl (cx bg 6 0 (bF p0.f4)) (eG 17 rfl (gy [1] [0,2,3,4] (cG.ok d) fun b c=>?_)))))
     refine cd 18 rfl ar (h:=cd 19 rfl cw (h:=cd 20 rfl cw (h:=cd 21 rfl cL (h:=cd 22 rfl aA (h:=eG 23 rfl (cJ 2 [ae a.1.f0,ae a.1.f1,.slice b a.1.f2.length c] (h:=(aH (by kernel_rfl) ?_))))))))
     have h:=aN H;subst h
     exact fH [2,0,3,4,5] ⟨b,c,ay,az,au,av,aw,ax,rfl,rfl⟩
    refine id (dL rfl (cx bg 6 0 (bF p0.f4)) (eG 4 rfl (dL rfl (cx bg 0 0 [ae p0.f0.f0,ae p0.f0.f1,.slice af p0.f0.f2.length ag]) (eG 17 rfl (gy [1] [0,2,3,4] (cG.ok d) fun b c=>?_)))))
    refine cd 18 rfl ar (h:=cd 19 rfl cw (h:=cd 20 rfl cw (h:=cd 21 rfl cL (h:=cd 22 rfl aA (h:=eG 23 rfl (cJ 2 [ae a.1.f0,ae a.1.f1,.slice b a.1.f2.length c] (h:=(aH (by kernel_rfl) ?_))))))))
    have h:=aN H;subst h
    exact fH [2,0,3,4,5] ⟨b,c,ay,az,au,av,aw,ax,rfl,rfl⟩
   refine id (dL rfl (cx bg 6 0 (bF p0.f4)) ?_)
   refine eK (rs:=[4,8]) (by kernel_rfl) (by decide) (bG ⟨rfl,_,rfl,(.no rfl),?_⟩ (bG ⟨rfl,_,rfl,(.no rfl),?_⟩ dl))
   ·refine id (dL rfl (cx bg 0 0 [ae p0.f0.f0,ae p0.f0.f1,.slice af p0.f0.f2.length ag]) (eG 8 rfl (dL rfl (il bg 16 0) (eG 17 rfl (gy [1] [0,2,3,4] (cG.ok d) fun b c=>?_)))))
    refine cd 18 rfl ar (h:=cd 19 rfl cw (h:=cd 20 rfl cw (h:=cd 21 rfl cL (h:=cd 22 rfl aA (h:=eG 23 rfl (cJ 2 [ae a.1.f0,ae a.1.f1,.slice b a.1.f2.length c] (h:=(aH (by kernel_rfl) ?_))))))))
    have h:=aN H;subst h
    exact fH [2,0,3,4,5] ⟨b,c,ay,az,au,av,aw,ax,rfl,rfl⟩
   refine id (dL rfl (il bg 16 0) (eG 4 rfl (dL rfl (cx bg 0 0 [ae p0.f0.f0,ae p0.f0.f1,.slice af p0.f0.f2.length ag]) (eG 17 rfl (gy [1] [0,2,3,4] (cG.ok d) fun b c=>?_)))))
   refine cd 18 rfl ar (h:=cd 19 rfl cw (h:=cd 20 rfl cw (h:=cd 21 rfl cL (h:=cd 22 rfl aA (h:=eG 23 rfl (cJ 2 [ae a.1.f0,ae a.1.f1,.slice b a.1.f2.length c] (h:=(aH (by kernel_rfl) ?_))))))))
   have h:=aN H;subst h
   exact fH [2,0,3,4,5] ⟨b,c,ay,az,au,av,aw,ax,rfl,rfl⟩
  refine id (dL rfl (cx bg 6 0 (bF p0.f4)) ?_)
  refine eK (rs:=[4,8,12]) (by kernel_rfl) (by decide) (bG ⟨rfl,_,rfl,(.no rfl),?_⟩ (bG ⟨rfl,_,rfl,(.no rfl),?_⟩ (bG ⟨rfl,_,rfl,(.no rfl),?_⟩ dl)))
  ·refine id (dL rfl (cx bg 0 0 [ae p0.f0.f0,ae p0.f0.f1,.slice af p0.f0.f2.length ag]) ?_)
   refine eK (rs:=[8,12]) (by kernel_rfl) (by decide) (bG ⟨rfl,_,rfl,(.no rfl),?_⟩ (bG ⟨rfl,_,rfl,(.no rfl),?_⟩ dl))
   ·refine id (dL rfl (il bg 16 0) (eG 12 rfl (dL rfl (il bg 17 0) (eG 17 rfl (gy [1] [0,2,3,4] (cG.ok d) fun b c=>?_)))))
    refine cd 18 rfl ar (h:=cd 19 rfl cw (h:=cd 20 rfl cw (h:=cd 21 rfl cL (h:=cd 22 rfl aA (h:=eG 23 rfl (cJ 2 [ae a.1.f0,ae a.1.f1,.slice b a.1.f2.length c] (h:=(aH (by kernel_rfl) ?_))))))))
    have h:=aN H;subst h
    exact fH [2,0,3,4,5] ⟨b,c,ay,az,au,av,aw,ax,rfl,rfl⟩
   refine id (dL rfl (il bg 17 0) (eG 8 rfl (dL rfl (il bg 16 0) (eG 17 rfl (gy [1] [0,2,3,4] (cG.ok d) fun b c=>?_)))))
   refine cd 18 rfl ar (h:=cd 19 rfl cw (h:=cd 20 rfl cw (h:=cd 21 rfl cL (h:=cd 22 rfl aA (h:=eG 23 rfl (cJ 2 [ae a.1.f0,ae a.1.f1,.slice b a.1.f2.length c] (h:=(aH (by kernel_rfl) ?_))))))))
   have h:=aN H;subst h
   exact fH [2,0,3,4,5] ⟨b,c,ay,az,au,av,aw,ax,rfl,rfl⟩
  ·refine id (dL rfl (il bg 16 0) ?_)
   refine eK (rs:=[4,12]) (by kernel_rfl) (by decide) (bG ⟨rfl,_,rfl,(.no rfl),?_⟩ (bG ⟨rfl,_,rfl,(.no rfl),?_⟩ dl))
   ·refine id (dL rfl (cx bg 0 0 [ae p0.f0.f0,ae p0.f0.f1,.slice af p0.f0.f2.length ag]) (eG 12 rfl (dL rfl (il bg 17 0) (eG 17 rfl (gy [1] [0,2,3,4] (cG.ok d) fun b c=>?_)))))
    refine cd 18 rfl ar (h:=cd 19 rfl cw (h:=cd 20 rfl cw (h:=cd 21 rfl cL (h:=cd 22 rfl aA (h:=eG 23 rfl (cJ 2 [ae a.1.f0,ae a.1.f1,.slice b a.1.f2.length c] (h:=(aH (by kernel_rfl) ?_))))))))
    have h:=aN H;subst h
    exact fH [2,0,3,4,5] ⟨b,c,ay,az,au,av,aw,ax,rfl,rfl⟩
   refine id (dL rfl (il bg 17 0) (eG 4 rfl (dL rfl (cx bg 0 0 [ae p0.f0.f0,ae p0.f0.f1,.slice af p0.f0.f2.length ag]) (eG 17 rfl (gy [1] [0,2,3,4] (cG.ok d) fun b c=>?_)))))
   refine cd 18 rfl ar (h:=cd 19 rfl cw (h:=cd 20 rfl cw (h:=cd 21 rfl cL (h:=cd 22 rfl aA (h:=eG 23 rfl (cJ 2 [ae a.1.f0,ae a.1.f1,.slice b a.1.f2.length c] (h:=(aH (by kernel_rfl) ?_))))))))
   have h:=aN H;subst h
   exact fH [2,0,3,4,5] ⟨b,c,ay,az,au,av,aw,ax,rfl,rfl⟩
  refine id (dL rfl (il bg 17 0) ?_)
  refine eK (rs:=[4,8]) (by kernel_rfl) (by decide) (bG ⟨rfl,_,rfl,(.no rfl),?_⟩ (bG ⟨rfl,_,rfl,(.no rfl),?_⟩ dl))
  ·refine id (dL rfl (cx bg 0 0 [ae p0.f0.f0,ae p0.f0.f1,.slice af p0.f0.f2.length ag]) (eG 8 rfl (dL rfl (il bg 16 0) (eG 17 rfl (gy [1] [0,2,3,4] (cG.ok d) fun b c=>?_)))))
   refine cd 18 rfl ar (h:=cd 19 rfl cw (h:=cd 20 rfl cw (h:=cd 21 rfl cL (h:=cd 22 rfl aA (h:=eG 23 rfl (cJ 2 [ae a.1.f0,ae a.1.f1,.slice b a.1.f2.length c] (h:=(aH (by kernel_rfl) ?_))))))))
   have h:=aN H;subst h
   exact fH [2,0,3,4,5] ⟨b,c,ay,az,au,av,aw,ax,rfl,rfl⟩
  refine id (dL rfl (il bg 16 0) (eG 4 rfl (dL rfl (cx bg 0 0 [ae p0.f0.f0,ae p0.f0.f1,.slice af p0.f0.f2.length ag]) (eG 17 rfl (gy [1] [0,2,3,4] (cG.ok d) fun b c=>?_)))))
  refine cd 18 rfl ar (h:=cd 19 rfl cw (h:=cd 20 rfl cw (h:=cd 21 rfl cL (h:=cd 22 rfl aA (h:=eG 23 rfl (cJ 2 [ae a.1.f0,ae a.1.f1,.slice b a.1.f2.length c] (h:=(aH (by kernel_rfl) ?_))))))))
  have h:=aN H;subst h
  exact fH [2,0,3,4,5] ⟨b,c,ay,az,au,av,aw,ax,rfl,rfl⟩
 refine aB rfl l (ap ?_)
 refine fg (dC 0 11) [0] (dC 1 4) fun _ _ _ _ _ sH dd pk=>?_
 refine bf 0 rfl sH ar (h:=bf 1 rfl sH cL (h:=bf 2 rfl sH aA (h:=bN 3 rfl sH (aO 0) (h:=bf 4 rfl sH ar (h:=bf 5 rfl sH cL (h:=bf 6 rfl sH aA (h:=bf 7 rfl sH aA (h:=bN 8 rfl sH (aO 0) (h:=T' 9 rfl sH (cV rfl rfl) ?_)))))))))
 refine bf 10 rfl sH (cg rfl rfl) (h:=aV dd sH (aH (by kernel_rfl) (aa ?_)))
 rcases bD H with⟨j,H⟩|⟨j,H⟩
 ·refine aC rfl j (ak (ad ar (h:=ad cL (h:=ad aA (h:=bq (aO 0) (h:=ad (bX rfl rfl) (h:=ad cL (h:=ad aA (h:=o' (cJ 0 [ae (i64.wrap (p0.f1 + 1))] (h:=?_)))))))))))
  refine ah ?_
  have h:=aN H;subst h
  exact fH [0,1,2,3,4] ⟨af,ag,ay,az,au,av,aw,ax,rfl,rfl⟩
 refine aB rfl j (ao ?_)
 have h:=aN H;subst h
 exact fH [0,1,2,3,4] ⟨af,ag,ay,az,au,av,aw,ax,rfl,rfl⟩

end Go.Proofs.YtckilbegmbaeeaaGreat.Z7

/- Walks. -/
import Derived.Test.YtckilbegmbaeeaaGreatZ612
namespace Go.Proofs.YtckilbegmbaeeaaGreat.Z6
open Go Go.RowKit Go.Proofs.YtckilbegmbaeeaaGreat.SL
open Go.IntKind (i64)
set_option linter.unusedVariables false
set_option maxHeartbeats 20000000
set_option maxRecDepth 100000
set_option linter.unusedSimpArgs false
attribute [local irreducible] IntKind.wrap da fk gR kN kD po ky eS kF rd sub bytesOf ib dj
variable {ag az av ax k : Nat}
variable {af ay au aw : Option Addr}
theorem DZ.ok {a0 : aJ} {r : Bool} (H : fe.f k a0 = some r) : dk Tryz.prog 15 #[.agg (al a0 af ag ay az au av aw ax).toArray] (cH a0 af ag ay az au av aw ax) (fun v B=>v = .bool r∧B = []):=by
 refine aj Tryz.func15 rfl rfl ?_
 unfold fe.f at H
 refine aR (o' (bO (h:=fun l=>ad aW (h:=cP (ad aA (h:=bp (cz l 0 4 [ae a0.f0.f0,ae a0.f0.f1,.slice af a0.f0.f2.length ag]) (h:=o' (cw (h:=fun o=>o' (bi o 0 5 [ae a0.f0.f0,ae a0.f0.f1,.slice af a0.f0.f2.length ag] (h:=eD (l' (cz o 0 5 [ae a0.f0.f0,ae a0.f0.f1,.slice af a0.f0.f2.length ag]) ?_))))))))))))
 obtain⟨r9,e2,H⟩:=ac H
 refine o' (dc [0] [0,1,2,3,4,5] (BC.ok e2) ?_)
 refine ad (bX rfl) (h:=S' ar ?_)
 obtain⟨g5,H,f8⟩:=ac H
 refine dy 10 [(1,aH l),(3,aH o),(21,.bool g5)] (aK l 34 (al a0 af ag ay az au av aw ax)::(cH a0 af ag ay az au av aw ax++[aK o 26 [ae a0.f0.f0,ae a0.f0.f1,.slice af a0.f0.f2.length ag]])) ?_ fun junk=>?_
 ·rcases bE H with⟨D,H⟩|⟨D,H⟩
  ·refine cu 9 D (gN D ?_)
   have h:=aN H;subst h
   exact dL [4,0,1,2,3,5]
  refine cE (aM D) (cz o 0 5 [ae a0.f0.f0,ae a0.f0.f1,.slice af a0.f0.f2.length ag]) (h:=bf (aM D) aA (h:=cE (aM D) (aP 4) (h:=bf (aM D) aA (h:=cE (aM D) (aP 4) (h:=bf (aM D) aA (h:=z' (aM D) (aP 4) ?_))))))
  obtain⟨h0,g1,H⟩:=ac H
  refine fT (aM D) (dc [0] [0,1,2,3,4,5] (BD.ok g1) ?_)
  refine bf (aM D) (bX rfl) (h:=fZ (aM D) ?_)
  have h:=aN H;subst h
  exact dL [4,0,1,2,3,5]
 replace H:=f8
 refine S' ar ?_
 obtain⟨e8,H,f9⟩:=ac H
 refine dy 13 [(1,aH l),(3,aH o),(35,.bool e8)] (aK l 34 (al a0 af ag ay az au av aw ax)::(cH a0 af ag ay az au av aw ax++[aK o 26 [ae a0.f0.f0,ae a0.f0.f1,.slice af a0.f0.f2.length ag]])) ?_ fun junk=>?_
 ·rcases bE H with⟨u,H⟩|⟨u,H⟩
  ·refine cu 12 u (gN u ?_)
   have h:=aN H;subst h
   exact dL [0,1,2,3,4,5]
  refine cE (aM u) (cz o 0 5 [ae a0.f0.f0,ae a0.f0.f1,.slice af a0.f0.f2.length ag]) (h:=bf (aM u) aA (h:=bf (aM u) aA (h:=cE (aM u) (aP 0) (h:=bf (aM u) aA (h:=bf (aM u) aA (h:=cE (aM u) (aP 0) (h:=bf (aM u) aA (h:=bf (aM u) aA (h:=z' (aM u) (aP 0) ?_)))))))))
  obtain⟨h1,g2,H⟩:=ac H
  refine fT (aM u) (dc [1] [0,1,2,3,4,5] (BD.ok g2) ?_)
  refine bf (aM u) (bX rfl) (h:=fZ (aM u) ?_)
  have h:=aN H;subst h
  exact dL [0,1,2,3,4,5]
 replace H:=f9
 refine S' ar ?_
 obtain⟨e9,d7,H⟩:=bj H
 refine dy 4 [(1,aH l),(3,aH o),(40,.bool e9)] (aK l 34 (al a0 af ag ay az au av aw ax)::(cH a0 af ag ay az au av aw ax++[aK o 26 [ae a0.f0.f0,ae a0.f0.f1,.slice af a0.f0.f2.length ag]])) ?_ fun junk=>?_
 ·by_cases K : e8 = true
  ·refine cu 3 K (cd K (h:=ah ?_))
   have x_:=ji d7 K;exact bK [0,1,2,3,4,5]
  refine bf (aM K) aA (h:=cE (aM K) (aP 0) (h:=bf (aM K) (ce rfl rfl) (h:=ck (aM K) (h:=ah ?_))))
  have x_:=jh d7 ((aM K));exact bK [0,1,2,3,4,5]
 refine S' ar ?_
 obtain⟨f3,d8,H⟩:=bj H
 refine dy 6 [(1,aH l),(3,aH o),(47,.bool f3)] (aK l 34 (al a0 af ag ay az au av aw ax)::(cH a0 af ag ay az au av aw ax++[aK o 26 [ae a0.f0.f0,ae a0.f0.f1,.slice af a0.f0.f2.length ag]])) ?_ fun junk=>?_
 ·by_cases F : e9 = true
  ·refine cu 5 F (cd F (h:=ah ?_))
   have x_:=ji d8 F;exact bK [0,1,2,3,4,5]
  refine bf (aM F) aA (h:=cE (aM F) (aP 0) (h:=bf (aM F) aA (h:=cE (aM F) (aP 0) (h:=bf (aM F) (eK rfl rfl) (h:=ck (aM F) (h:=ah ?_))))))
  have x_:=jh d8 ((aM F));exact bK [0,1,2,3,4,5]
 refine S' ar ?_
 obtain⟨g6,d9,H⟩:=bj H
 refine dy 6 [(1,aH l),(3,aH o),(54,.bool g6)] (aK l 34 (al a0 af ag ay az au av aw ax)::(cH a0 af ag ay az au av aw ax++[aK o 26 [ae a0.f0.f0,ae a0.f0.f1,.slice af a0.f0.f2.length ag]])) ?_ fun junk=>?_
 ·by_cases I : f3 = true
  ·refine cu 5 I (cd I (h:=ah ?_))
   have x_:=ji d9 I;exact bK [0,1,2,3,4,5]
  refine bf (aM I) aA (h:=cE (aM I) (aP 0) (h:=bf (aM I) aA (h:=cE (aM I) (aP 5) (h:=bf (aM I) (dT rfl rfl) (h:=ck (aM I) (h:=ah ?_))))))
  have x_:=jh d9 ((aM I));exact bK [0,1,2,3,4,5]
 refine S' ar ?_
 obtain⟨g7,H,g0⟩:=ac H
 refine dy 5 [(1,aH l),(3,aH o),(60,.bool g7)] (aK l 34 (al a0 af ag ay az au av aw ax)::(cH a0 af ag ay az au av aw ax++[aK o 26 [ae a0.f0.f0,ae a0.f0.f1,.slice af a0.f0.f2.length ag]])) ?_ fun junk=>?_
 ·rcases bE H with⟨L,H⟩|⟨L,H⟩
  ·refine cu 4 L (gN L ?_)
   have h:=aN H;subst h
   exact dL [0,1,2,3,4,5]
  refine bf (aM L) aA (h:=z' (aM L) (cz l 6 0 (bF a0.f4)) ?_)
  obtain⟨oL,g3,H⟩:=ac H
  refine fT (aM L) (dc [] [0,1,2,3,4,5] (qa.ok g3) ?_)
  refine bf (aM L) (bX rfl) (h:=fZ (aM L) ?_)
  have h:=aN H;subst h
  exact dL [0,1,2,3,4,5]
 replace H:=g0
 refine S' ar ?_
 obtain⟨g8,H,c7⟩:=ac H
 refine cK 6 (St [(1,aH l),(3,aH o),(67,.bool g8)] (aK l 34 (al a0 af ag ay az au av aw ax)::(cH a0 af ag ay az au av aw ax++[aK o 26 [ae a0.f0.f0,ae a0.f0.f1,.slice af a0.f0.f2.length ag]]))) ?_ ?_
 ·rcases bE H with⟨J,H⟩|⟨J,H⟩
  ·refine cu 5 J (gN J ?_)
   have h:=aN H;subst h
   exact dL [0,1,2,3,4,5]
  refine bf (aM J) aA (h:=bf (aM J) aA (h:=z' (aM J) (cz l 29 0 (bF a0.f14.f4)) ?_))
  obtain⟨h3,g4,H⟩:=ac H
  refine fT (aM J) (dc [] [0,1,2,3,4,5] (qa.ok g4) ?_)
  refine bf (aM J) (bX rfl) (h:=fZ (aM J) ?_)
  have h:=aN H;subst h
  exact dL [0,1,2,3,4,5]
 rintro e ds As e3
 clear H
 have H:=c7
 clear c7
 refine bA (SA.of_St e3 fun junk=>?_)
 rcases bE H with⟨d3,H⟩|⟨d3,H⟩
 ·refine aD rfl d3 (aR (ad aW (h:=cD ?_)))
  have h:=aN H;subst h
  exact dX [] ⟨rfl,rfl⟩
 refine aE rfl d3 (ap (aa (ao (aR (ad aW (h:=bA ?_))))))
 obtain⟨f6,H,M⟩:=ac H
 refine bI (fun e ds As=>∃ (f5 : Unit),f6 = Out.go f5∧St [(1,aH l),(3,aH o)] (aK l 34 (al a0 af ag ay az au av aw ax)::(cH a0 af ag ay az au av aw ax++[aK o 26 [ae a0.f0.f0,ae a0.f0.f1,.slice af a0.f0.f2.length ag]])) e ds As) ?_ ?_
 ·refine aQ (cj (fun k_ e ds As=>∃ (c : Int),fe.l0 a0 k_ c = some f6∧St [(1,aH l),(3,aH o),(4,ae c)] (aK l 34 (al a0 af ag ay az au av aw ax)::(cH a0 af ag ay az au av aw ax++[aK o 26 [ae a0.f0.f0,ae a0.f0.f1,.slice af a0.f0.f2.length ag]])) e ds As) (k:=k) ⟨_,H,jV [0,1,2,3,4,5]⟩ ?_)
  clear H
  rintro e0 e ds As ⟨c,H,e4⟩
  obtain _ | e0:=e0
  ·cases H
  rw [fe.l0] at H
  refine SA.of_St e4 fun junk=>ao (aR (ad ar (h:=ad aA (h:=bp (aP 0) (h:=bP (ae (a0.f7.length : Int)) (cO Tryz.underlying29 rfl) (h:=ad (ce rfl rfl) (h:=bA ?_)))))))
  rcases bE H with⟨d4,H⟩|⟨d4,H⟩
  ·refine aC rfl d4 (ap (aa (ao (aQ (ao ?_)))))
   obtain⟨g9,H,c8⟩:=ac H
   refine bI (St [(1,aH l),(3,aH o),(4,ae c),(108,.bool g9)] (aK l 34 (al a0 af ag ay az au av aw ax)::(cH a0 af ag ay az au av aw ax++[aK o 26 [ae a0.f0.f0,ae a0.f0.f1,.slice af a0.f0.f2.length ag]]))) ?_ ?_
   ·refine fj (dt 0 34) (dt 0 6) (dt 1 4) fun _ _ _ _ _ sH dd pk=>?_
    refine bc 0 rfl sH aA (h:=bQ 1 rfl sH (aP 0) (h:=T' 2 rfl sH ar ?_))
    obtain⟨⟨c9,d0⟩,H⟩:=aO H
    refine bQ 3 rfl sH (bu (i:=c) Tryz.underlying29 jl rfl rfl (Src.ro (k:=2) rfl) c9 d0) (h:=bQ 4 rfl sH (bJ (enc:=(fun x_ : Int=>[Value.int .i64 x_])) (i:=c) (j:=c.toNat * 1) (m:=0) (sz:=1) Tryz.underlying3 rfl rfl rfl rfl (Src.ro (k:=2) rfl) c9 d0 (fun _ _ h=>h) rfl) (h:=bc 5 rfl sH (ce rfl rfl) (h:=T' 6 rfl sH ar ?_)))
    rcases bE H with⟨b,H⟩|⟨b,H⟩
    ·refine bT 7 rfl (ai b) (bT 8 rfl (ai b) (bT 9 rfl (ai b) (bT 10 rfl (ai b) (bT 11 rfl (ai b) (bT 12 rfl (ai b) (bT 13 rfl (ai b) (bT 14 rfl (ai b) (bQ 15 rfl sH (VR.ofV (bS rfl (ai b) rfl)) (h:=T' 16 rfl sH ar ?_)))))))))
     refine bT 17 rfl rfl (bT 18 rfl rfl (bT 19 rfl rfl (cG 20 rfl (cG 21 rfl (cG 22 rfl (cG 23 rfl (cG 24 rfl (cG 25 rfl (cG 26 rfl ?_)))))))))
     refine cG 27 rfl (cG 28 rfl (cG 29 rfl (cG 30 rfl (cG 31 rfl (bT 32 rfl rfl (bQ 33 rfl sH (VR.ofV (bS rfl (rfl) rfl)) (h:=aV dd sH (aI (by kernel_rfl) ?_))))))))
     have h:=aN H;subst h
     exact bK [0,1,2,3,4,5]
    refine cY 7 rfl (am b) sH aA (h:=cJ 8 rfl (am b) sH (aP 0) (h:=kX 9 rfl (am b) sH ar ?_))
    obtain⟨⟨d1,d2⟩,H⟩:=aO H
    refine cJ 10 rfl (am b) sH (bu (i:=c) Tryz.underlying29 jl rfl rfl (Src.ro (k:=2) rfl) d1 d2) (h:=cJ 11 rfl (am b) sH (bJ (enc:=(fun x_ : Int=>[Value.int .i64 x_])) (i:=c) (j:=c.toNat * 1) (m:=0) (sz:=1) Tryz.underlying3 rfl rfl rfl rfl (Src.ro (k:=2) rfl) d1 d2 (fun _ _ h=>h) rfl) (h:=cY 12 rfl (am b) sH aA (h:=cJ 13 rfl (am b) sH (aP 5) (h:=cY 14 rfl (am b) sH (dT rfl rfl) (h:=bQ 15 rfl sH (VR.ofV (bR rfl (am b) rfl)) (h:=T' 16 rfl sH ar ?_))))))
    rcases bE H with⟨d,H⟩|⟨d,H⟩
    ·refine bT 17 rfl (ai d) (bT 18 rfl (ai d) (bT 19 rfl (ai d) (cG 20 rfl (cG 21 rfl (cG 22 rfl (cG 23 rfl (cG 24 rfl (cG 25 rfl (cG 26 rfl ?_)))))))))
     refine cG 27 rfl (cG 28 rfl (cG 29 rfl (cG 30 rfl (cG 31 rfl (bT 32 rfl (ai d) (bQ 33 rfl sH (VR.ofV (bS rfl (ai d) rfl)) (h:=aV dd sH (aI (by kernel_rfl) ?_))))))))
     have h:=aN H;subst h
     exact bK [0,1,2,3,4,5]
    refine cY 17 rfl (am d) sH ar (h:=cY 18 rfl (am d) sH (eK rfl rfl) (h:=kX 19 rfl (am d) sH ar ?_))
    rcases bE H with⟨a,H⟩|⟨a,H⟩
    ·refine cY 20 rfl (ai a) sH aA (h:=cJ 21 rfl (ai a) sH (aP 0) (h:=kX 22 rfl (ai a) sH ar ?_))
     obtain⟨⟨a4,a5⟩,H⟩:=aO H
     refine cJ 23 rfl (ai a) sH (bu (i:=c) Tryz.underlying29 jl rfl rfl (Src.ro (k:=2) rfl) a4 a5) (h:=cJ 24 rfl (ai a) sH (bJ (enc:=(fun x_ : Int=>[Value.int .i64 x_])) (i:=c) (j:=c.toNat * 1) (m:=0) (sz:=1) Tryz.underlying3 rfl rfl rfl rfl (Src.ro (k:=2) rfl) a4 a5 (fun _ _ h=>h) rfl) (h:=cY 25 rfl (ai a) sH aA (h:=cJ 26 rfl (ai a) sH (aP 0) (h:=cY 27 rfl (ai a) sH ar (h:=kX 28 rfl (ai a) sH (cT rfl rfl) ?_)))))
     obtain⟨⟨a6,a7⟩,H⟩:=aO H
     refine cJ 29 rfl (ai a) sH (bu (i:=i64.wrap (c - 1)) Tryz.underlying29 jl rfl rfl (Src.ro (k:=2) rfl) a6 a7) (h:=cJ 30 rfl (ai a) sH (bJ (enc:=(fun x_ : Int=>[Value.int .i64 x_])) (i:=i64.wrap (c - 1)) (j:=(i64.wrap (c - 1)).toNat * 1) (m:=0) (sz:=1) Tryz.underlying3 rfl rfl rfl rfl (Src.ro (k:=2) rfl) a6 a7 (fun _ _ h=>h) rfl) (h:=cY 31 rfl (ai a) sH (gG rfl rfl) (h:=cJ 32 rfl (am d) sH (VR.ofV (bS rfl (ai a) rfl)) (h:=bQ 33 rfl sH (VR.ofV (bR rfl (am d) rfl)) (h:=aV dd sH (aI (by kernel_rfl) ?_))))))
     have h:=aN H;subst h
     exact bK [0,1,2,3,4,5]
    refine bT 20 rfl (am a) (bT 21 rfl (am a) (bT 22 rfl (am a) (bT 23 rfl (am a) (bT 24 rfl (am a) (bT 25 rfl (am a) (bT 26 rfl (am a) (bT 27 rfl (am a) (bT 28 rfl (am a) (bT 29 rfl (am a) ?_)))))))))
    refine bT 30 rfl (am a) (bT 31 rfl (am a) (cJ 32 rfl (am d) sH (VR.ofV (bR rfl (am a) rfl)) (h:=bQ 33 rfl sH (VR.ofV (bR rfl (am d) rfl)) (h:=aV dd sH (aI (by kernel_rfl) ?_)))))
    have h:=aN H;subst h
    exact bK [0,1,2,3,4,5]
   rintro e ds As b8
   clear H
   have H:=c8
   clear c8
   refine aa (SA.of_St b8 fun junk=>?_)
   rcases bE H with⟨N,H⟩|⟨N,H⟩
   ·refine aD rfl N (aR (ad aW (h:=cC (ba (aG (aG (ba (aG (aG ?_)))))))))
    have h:=aN H;subst h
    have hb_:=dw M
    have hr_:=Option.some.inj hb_
    clear hb_
    subst hr_
    exact dX [] ⟨rfl,rfl⟩
   refine aE rfl N (ap (aF (aa (ak (ad ar (h:=S' (bW rfl rfl) ?_))))))
   obtain⟨b0,d5,H⟩:=bj H
   refine bP (ae b0) (bo (v:=ae b0) (congrArg (Value.int .i64) d5.symm)) (h:=ah ?_)
   exact aa ⟨e0,Nat.lt_succ_self _,_,H,dZ [0,1,2,3,4,5]⟩
  refine aB rfl d4 (cf (aX (aX (cg ?_))))
  have h:=aN H;subst h
  exact aa ⟨(),rfl,dZ [0,1,2,3,4,5]⟩
 rintro e ds As ⟨f5,ht,b9⟩
 clear H
 subst ht
 replace M:=fw M
 have H:=M
 clear M
 refine aa (SA.of_St b9 fun junk=>ao (aR (ad aA (h:=bp (aP 0) (h:=bP (ae (a0.f17.length : Int)) (cO Tryz.underlying32 rfl) (h:=ad (eK rfl rfl) (h:=bA ?_)))))))
 rcases bE H with⟨O,H⟩|⟨O,H⟩
 ·refine aC rfl O (aR (ad aW (h:=cD ?_)))
  have h:=aN H;subst h
  exact dX [] ⟨rfl,rfl⟩
 refine aB rfl O (ap (aa (ao (aR (ad aW (h:=bA ?_))))))
 obtain⟨b6,H,E⟩:=ac H
 refine bI (fun e ds As=>∃ (b4 : Unit),b6 = Out.go b4∧St [(1,aH l),(3,aH o)] (aK l 34 (al a0 af ag ay az au av aw ax)::(cH a0 af ag ay az au av aw ax++[aK o 26 [ae a0.f0.f0,ae a0.f0.f1,.slice af a0.f0.f2.length ag]])) e ds As) ?_ ?_
 ·refine aQ (cj (fun k_ e ds As=>∃ (z : Int),fe.l1 a0 k_ z = some b6∧St [(1,aH l),(3,aH o),(5,ae z)] (aK l 34 (al a0 af ag ay az au av aw ax)::(cH a0 af ag ay az au av aw ax++[aK o 26 [ae a0.f0.f0,ae a0.f0.f1,.slice af a0.f0.f2.length ag]])) e ds As) (k:=k) ⟨_,H,jV [0,1,2,3,4,5]⟩ ?_)
  clear H
  rintro Y e ds As ⟨z,H,c5⟩
  obtain _ | Y:=Y
  ·cases H
  rw [fe.l1] at H
  refine SA.of_St c5 fun junk=>ao (aR (ad ar (h:=ad aA (h:=bp (aP 0) (h:=bP (ae (a0.f17.length : Int)) (cO Tryz.underlying32 rfl) (h:=ad (ce rfl rfl) (h:=bA ?_)))))))
  rcases bE H with⟨R,H⟩|⟨R,H⟩
  ·refine aC rfl R (ap (aa (ao (aQ (aR (ad aA (h:=bp (aP 0) (h:=S' ar ?_))))))))
   obtain⟨⟨a8,a9⟩,H⟩:=aO H
   refine bp (bu (i:=z) Tryz.underlying32 iB rfl rfl (Src.ro (k:=4) rfl) a8 a9) (h:=bp (bJ (enc:=(fun x_ : Int=>[Value.int .i32 x_])) (i:=z) (j:=z.toNat * 1) (m:=0) (sz:=1) Tryz.underlying21 rfl rfl rfl rfl (Src.ro (k:=4) rfl) a8 a9 (fun _ _ h=>h) rfl) (h:=ad (ce rfl rfl) (h:=bA ?_)))
   rcases bE H with⟨S,H⟩|⟨S,H⟩
   ·refine aC rfl S (aR (ad aW (h:=cC (ba (aG (aG (ba (aG (aG ?_)))))))))
    have h:=aN H;subst h
    have hb_:=dw E
    have hr_:=Option.some.inj hb_
    clear hb_
    subst hr_
    exact dX [] ⟨rfl,rfl⟩
   refine aB rfl S (ap (aF (aa (ak (ad ar (h:=S' (bW rfl rfl) ?_))))))
   obtain⟨b1,d6,H⟩:=bj H
   refine bP (ae b1) (bo (v:=ae b1) (congrArg (Value.int .i64) d6.symm)) (h:=ah ?_)
   exact aa ⟨Y,Nat.lt_succ_self _,_,H,dZ [0,1,2,3,4,5]⟩
  refine aB rfl R (cf (aX (aX (cg ?_))))
  have h:=aN H;subst h
  exact aa ⟨(),rfl,dZ [0,1,2,3,4,5]⟩
 rintro e ds As ⟨b4,ht,c6⟩
 clear H
 subst ht
 replace E:=fw E
 have H:=E
 clear E
 refine aa (SA.of_St c6 fun junk=>ao (aR (ad aA (h:=bp (aP 0) (h:=bA ?_)))))
 rcases bE H with⟨U,H⟩|⟨U,H⟩
 ·refine aD rfl U (aR (ad aA (h:=l' (cz l 40 0 [ae a0.f16.f0,ae a0.f16.f1,.slice au a0.f16.f2.length av]) ?_)))
  obtain⟨e7,e1,H⟩:=ac H
  refine o' (dc [3] [0,1,2,3,4,5] (BC.ok e1) ?_)
  refine S' ar ?_
  obtain⟨b2,Z,H⟩:=bj H
  refine dy 7 [(1,aH l),(3,aH o),(138,.bool b2)] (aK l 34 (al a0 af ag ay az au av aw ax)::(cH a0 af ag ay az au av aw ax++[aK o 26 [ae a0.f0.f0,ae a0.f0.f1,.slice af a0.f0.f2.length ag]])) ?_ fun junk=>?_
  ·by_cases p : e7 = true
   ·refine bf p aA (h:=bf p aA (h:=cE p (aP 0) (h:=bf p aA (h:=cE p (aP 5) (h:=bf p (bk rfl rfl) (h:=cd p (h:=ah ?_)))))))
    have x_:=fD Z p;exact bK [0,1,2,3,4,5]
   refine cu 6 (aM p) (ck (aM p) (h:=ah ?_))
   have x_:=fC Z ((aM p));exact bK [0,1,2,3,4,5]
  refine S' ar ?_
  obtain⟨e5,a1,H⟩:=bj H
  refine dy 7 [(146,.bool e5)] [] ?_ fun junk=>?_
  ·by_cases q : b2 = true
   ·refine bf q aA (h:=bf q aA (h:=cE q (aP 0) (h:=bf q aA (h:=cE q (aP 5) (h:=bf q (bk rfl rfl) (h:=cd q (h:=ah ?_)))))))
    have x_:=fD a1 q;exact bK []
   refine cu 6 (aM q) (ck (aM q) (h:=ah ?_))
   have x_:=fC a1 ((aM q));exact bK []
  refine ad aW (h:=cD ?_)
  have h:=aN H;subst h
  exact dX [] ⟨rfl,rfl⟩
 refine aE rfl U (ap (aa (aR (ad aA (h:=ad aA (h:=bp (aP 0) (h:=ad (bk rfl rfl) (h:=S' ar ?_))))))))
 obtain⟨b3,a2,H⟩:=bj H
 refine dy 5 [(1,aH l),(156,.bool b3)] (fc l a0 af ag ay az au av aw ax) ?_ fun junk=>?_
 ·by_cases y : a0.f16.f0 = 0
  ·refine bf (ai y) aA (h:=bf (ai y) aA (h:=cE (ai y) (aP 0) (h:=bf (ai y) (bk rfl rfl) (h:=cd (ai y) (h:=ah ?_)))))
   have x_:=fD a2 ((ai y));exact bK [0,1,2,3,4]
  refine cu 4 (am y) (ck (am y) (h:=ah ?_))
  have x_:=fC a2 ((am y));exact bK [0,1,2,3,4]
 refine S' ar ?_
 obtain⟨e6,a3,H⟩:=bj H
 refine dy 6 [(163,.bool e6)] [] ?_ fun junk=>?_
 ·by_cases s : b3 = true
  ·refine bf s aA (h:=bf s aA (h:=cE s (aP 0) (h:=iI s (ae (a0.f16.f2.length : Int)) (cO Tryz.underlying24 rfl) (h:=bf s (bk rfl rfl) (h:=cd s (h:=ah ?_))))))
   have x_:=fD a3 s;exact bK []
  refine cu 5 (aM s) (ck (aM s) (h:=ah ?_))
  have x_:=fC a3 ((aM s));exact bK []
 refine ad aW (h:=cC ?_)
 have h:=aN H;subst h
 exact dX [] ⟨rfl,rfl⟩


theorem BE.ok {a0 : bH} {r : bH} (H : hH.f a0 = some r) : dk Tryz.prog 65 #[.agg #[ae a0.f0,ae a0.f1,.slice af a0.f2.length ag]] [Ro bD af ag a0.f2] (fun v B=>∃ aS aT,v = .agg #[ae r.f0,ae r.f1,.slice aS r.f2.length aT]∧B = [Buf bD 55 aS aT r.f2]):=by
 refine aj Tryz.func65 rfl rfl ?_
 unfold hH.f at H
 refine aR (o' (bO (h:=fun j=>o' (cw (h:=fun l=>cP (o' (gE (kd:=bD) (zv:=(.agg (bV lC).toArray)) (sz:=15) (cells:=[]) (xs:=([] : (List aY))) rfl Tryz.underlying24 jD cl rfl rfl rfl (by kernel_rfl) rfl rfl (dO cZ (fun _ _=>rfl) (by kernel_rfl)) fun m=>ad aA (h:=l' (aP 1) ?_))))))))
 obtain⟨o,H⟩:=aO H
 obtain⟨n12,d,H⟩:=bj H
 refine o' (gl (k:=3) (A:=some ⟨m,0,none⟩) (c:=0) (xs:=([] : (List aY))) (ys:=a0.f2) n12 d rfl Tryz.underlying24 mC rfl rfl rfl rfl rfl (ng.slice Tryz.underlying24 (Src.ro (k:=0) rfl)) (by omega) (by omega) fun a b=>ad aA (h:=o' (cF 1 [.slice a n12.length b] (h:=(cP (bp (cz j 0 1 [ae a0.f0,ae a0.f1,.slice a n12.length b]) (h:=o' (bi l 0 2 [ae a0.f0,ae a0.f1,.slice a n12.length b] (h:=cC ?_)))))))))
 have h:=aN H;subst h
 exact gi (rs:=[.cell 2 26]) (vs:=[.agg #[ae a0.f0,ae a0.f1,.slice a n12.length b]]) [Buf bD 55 a b n12] rfl ⟨RV.cell (k:=2) rfl rfl Tryz.underlying26 rfl uw,trivial⟩ rfl (eZ [3]) ⟨a,b,rfl,rfl⟩


theorem BB.ok {a0 : aJ} {r : aJ} (H : ld.f a0 = some r) : dk Tryz.prog 19 #[.agg (al a0 af ag ay az au av aw ax).toArray] (cH a0 af ag ay az au av aw ax) (fun v B=>∃ aS aT bv bx bq br bw bz,v = .agg (al r aS aT bv bx bq br bw bz).toArray∧B = (bn r aS aT bv bx bq br bw bz)):=by
 refine aj Tryz.func19 rfl rfl ?_
 unfold ld.f at H
 refine aR (o' (bO (h:=fun D=>o' (cw (h:=fun M=>bA (ao ?_))))))
 refine fj [0,1,3,4,6] (dt 0 5) [0,1,2,3,5] fun _ _ _ _ _ sH dd pk=>?_
 refine bc 0 rfl sH aA (h:=bQ 1 rfl sH (cz D 0 4 [ae a0.f0.f0,ae a0.f0.f1,.slice af a0.f0.f2.length ag]) (h:=bc 3 rfl sH aA (h:=r' 4 rfl sH (cz D 40 4 [ae a0.f16.f0,ae a0.f16.f1,.slice au a0.f16.f2.length av]) ?_)))
 obtain⟨a,I,H⟩:=ac H
 refine dU 2 rfl dd (gy [0] [0,1,2,3,4] (BE.ok I) fun d o=>?_)
 refine T' 6 rfl sH aA ?_
 obtain⟨b,J,H⟩:=ac H
 refine dU 5 rfl dd (gy [3] [0,1,2,3,4,5] (BE.ok J) fun j p=>?_)
 refine aV dd sH (eC 7 rfl (cF 4 [ae a.f0,ae a.f1,.slice d a.f2.length o] (h:=(ca 8 rfl aA (h:=eC 9 rfl (cF 4 [ae b.f0,ae b.f1,.slice j b.f2.length p] (h:=(aI (by kernel_rfl) (aa (aR (o' (gE (kd:=(Kd.int .i64)) (zv:=(ae 0)) (sz:=1) (cells:=[]) (xs:=([] : (List Int))) rfl Tryz.underlying29 np jl rfl rfl rfl (by kernel_rfl) rfl rfl (dO (fun x_ : Int=>[Value.int .i64 x_]) (fun _ _=>rfl) (by kernel_rfl)) fun K=>ad aA (h:=l' (aP 4) ?_)))))))))))))
 obtain⟨N,H⟩:=aO H
 obtain⟨s,E,H⟩:=bj H
 refine o' (gl (k:=12) (A:=some ⟨K,0,none⟩) (c:=0) (xs:=([] : (List Int))) (ys:=a0.f7) s E rfl Tryz.underlying29 pf rfl rfl rfl rfl rfl (ng.slice Tryz.underlying29 (Src.ro (k:=1) rfl)) (by omega) (by omega) fun m q=>ad aA (h:=o' (cF 4 [.slice m s.length q] (h:=(bA (SA.of_St (l:=[(1,aH D),(2,aH M)]) (B:=[aK D 34 (al ({ a0 with f0:=a,f7:=s,f16:=b }) d o m q j p aw ax),Buf bD 55 d o a.f2,gf 3 m q s,Buf bD 55 j p b.f2,nZ aw ax a0.f17,aK M 34 (al cy none 0 none 0 none 0 none 0)]) (St.mk1 (cB rfl (cB rfl dS)) (Gh.sel [4,6,12,5,3,11] (by kernel_rfl) (by kernel_rfl))) fun junk=>aR (o' (gE (kd:=(Kd.int .i32)) (zv:=(aL 0)) (sz:=1) (cells:=[]) (xs:=([] : (List Int))) rfl Tryz.underlying32 rG iB rfl rfl rfl (by kernel_rfl) rfl rfl (dO (fun x_ : Int=>[Value.int .i32 x_]) (fun _ _=>rfl) (by kernel_rfl)) fun L=>ad aA (h:=l' (aP 0) ?_)))))))))
 obtain⟨O,H⟩:=aO H
 obtain⟨z,F,H⟩:=bj H
 refine o' (gl (k:=6) (A:=some ⟨L,0,none⟩) (c:=0) (xs:=([] : (List Int))) (ys:=a0.f17) z F rfl Tryz.underlying32 tI rfl rfl rfl rfl rfl (ng.slice Tryz.underlying32 (Src.ro (k:=4) rfl)) (by omega) (by omega) fun u y=>ad aA (h:=o' (cF 0 [.slice u z.length y] (h:=(cP (bp (cm 0) (h:=o' (bi M 0 5 (al ({ a0 with f0:=a,f7:=s,f16:=b,f17:=z }) d o m q j p u y) (h:=cC ?_)))))))))
 have h:=aN H;subst h
 exact gi (rs:=[.cell 2 34]) (vs:=[.agg (al ({ a0 with f0:=a,f7:=s,f16:=b,f17:=z }) d o m q j p u y).toArray]) [Buf bD 55 d o a.f2,gf 3 m q s,Buf bD 55 j p b.f2,kU 21 u y z] rfl ⟨RV.cell (k:=5) rfl rfl Tryz.underlying34 rfl rC,trivial⟩ rfl (eZ [1,2,3,6]) ⟨d,o,m,q,j,p,u,y,rfl,rfl⟩


theorem rK.ok {a0 : aJ} {r : aJ × Bool} (H : gk.f k a0 = some r) : dk Tryz.prog 98 #[.agg (al a0 af ag ay az au av aw ax).toArray] (cH a0 af ag ay az au av aw ax) (fun v B=>∃ aS aT bv bx bq br bw bz,v = .tuple #[.agg (al r.1 aS aT bv bx bq br bw bz).toArray,.bool r.2]∧B = (bn r.1 aS aT bv bx bq br bw bz)):=by
 refine aj Tryz.func98 rfl rfl ?_
 unfold gk.f at H
 refine aR (o' (bO (h:=fun z=>o' (cw (h:=fun u=>ad aW (h:=eD (l' (cm 4) ?_)))))))
 obtain⟨D,s,H⟩:=ac H
 refine o' (dc [0,1,2,3] [0,1,2,3,4,5] (DZ.ok s) ?_)
 refine ad (bX rfl) (h:=bA ?_)
 rcases bE H with⟨a,H⟩|⟨a,H⟩
 ·refine aD rfl a (aR (bP (.agg (al cy none 0 none 0 none 0 none 0).toArray) dP (h:=o' (bi u 0 5 (al cy none 0 none 0 none 0 none 0) (h:=ad aW (h:=cD ?_))))))
  have h:=aN H;subst h
  exact ma [.cell 2 34,.tmp 3] ((Gh.nilBuf bD 55).trans ((Gh.nilBuf (Kd.int .i64) 3).trans ((Gh.nilBuf bD 55).trans ((Gh.nilBuf (Kd.int .i32) 21).trans (eZ [6,7,8,9]))))) ⟨none,0,none,0,none,0,none,0,rfl,rfl⟩ ⟨cV 5,cW,trivial⟩
 refine aE rfl a (ap (aa (aR (l' (cm 4) ?_))))
 obtain⟨y,q,H⟩:=ac H
 refine o' (ed [0,1,2,3] [0,1,2,3,4,5] (BB.ok q) fun b l c m d o j p=>?_)
 refine o' (bi u 0 9 (al y b l c m d o j p) (h:=ad aW (h:=cC ?_)))
 have h:=aN H;subst h
 exact du [.cell 2 34,.tmp 3] [0,1,2,3] ⟨b,l,c,m,d,o,j,p,rfl,rfl⟩ ⟨cV 9,cW,trivial⟩


theorem Ea.ok {a0 : aJ} {a1 : Int} {r : aJ × Int} (H : pR.f k a0 a1 = some r) : dk Tryz.prog 40 #[.agg (al a0 af ag ay az au av aw ax).toArray,aL a1] (cH a0 af ag ay az au av aw ax) (fun v B=>∃ aS aT bv bx bq br bw bz,v = .tuple #[.agg (al r.1 aS aT bv bx bq br bw bz).toArray,ae r.2]∧B = (bn r.1 aS aT bv bx bq br bw bz)):=by
 refine aj Tryz.func40 rfl rfl ?_
 unfold pR.f at H
 refine aR (o' (bO (h:=fun b5=>o' (cw (h:=fun b7=>ad aW (h:=cP (l' (cm 4) ?_)))))))
 obtain⟨r9,g3,H⟩:=ac H
 refine o' (ed [0,1,2,3] [0,1,2,3,4,5] (rK.ok g3) fun a9 b3 b0 b4 b1 b6 b2 b8=>?_)
 refine ad ar (h:=ad cr (h:=ad cr (h:=o' (bi b5 0 8 (al r9.1 a9 b3 b0 b4 b1 b6 b2 b8) (h:=ad aW (h:=eD (ad ar (h:=ad (bX rfl) (h:=bA ?_)))))))))
 rcases bE H with⟨e6,H⟩|⟨e6,H⟩
 ·refine aD rfl e6 (aR (bp (cm 8) (h:=o' (bi b7 0 9 (al r9.1 a9 b3 b0 b4 b1 b6 b2 b8) (h:=ad aW (h:=cD ?_))))))
  have h:=aN H;subst h
  exact du [.cell 4 34,.tmp 5] [0,1,2,3] ⟨a9,b3,b0,b4,b1,b6,b2,b8,rfl,rfl⟩ ⟨cV 9,cW,trivial⟩
 refine aE rfl e6 (ap (aa (aR (S' ar ?_))))
 obtain⟨D,g2,H⟩:=ac H
 refine o' (dc [] [0,1,2,3,4,5,6,7,8,9] (qQ.ok g2) ?_)
 refine ad aW (h:=eD (ad ar (h:=ad (ce rfl rfl) (h:=bA ?_))))
 rcases bE H with⟨e7,H⟩|⟨e7,H⟩
 ·refine aC rfl e7 (aR (bp (cm 8) (h:=o' (bi b7 0 9 (al r9.1 a9 b3 b0 b4 b1 b6 b2 b8) (h:=ad aW (h:=cD ?_))))))
  have h:=aN H;subst h
  exact du [.cell 4 34,.tmp 5] [0,1,2,3] ⟨a9,b3,b0,b4,b1,b6,b2,b8,rfl,rfl⟩ ⟨cV 9,cW,trivial⟩
 refine aB rfl e7 (ap (aa (ao (aR (ad ar (h:=ad (bk rfl rfl) (h:=bA ?_)))))))
 rcases bE H with⟨e8,H⟩|⟨e8,H⟩
 ·refine aC rfl e8 (ao (bM 0 fun m6=>bM 1 fun m7=>bM 2 fun m8=>bM 3 fun m9=>ak (S' ar ?_)))
  obtain⟨oq,j7,H⟩:=ac H
  refine o' (ed [8,0,1,2,3] [4,5,6,7,9] (lV.ok (bg:=b5) j7) fun g7 h1 g8 h3 g9 h4 h0 h5=>?_)
  refine cP (bp (cm 0) (h:=o' (bi b7 0 9 (al oq g7 h1 g8 h3 g9 h4 h0 h5) (h:=ad aW (h:=cD ?_)))))
  have h:=aN H;subst h
  exact du [.cell 4 34,.tmp 5] [1,2,3,4] ⟨g7,h1,g8,h3,g9,h4,h0,h5,rfl,rfl⟩ ⟨cV 9,cW,trivial⟩
 refine aB rfl e8 (ap (aa (ao (aR (ad aA (h:=bp (aP 8) (h:=S' ar ?_)))))))
 obtain⟨k3,f5,H⟩:=bj H
 refine cK 3 (St [(1,aL a1),(2,aH b5),(4,aH b7),(7,ae D),(32,.bool k3)] (aK b5 34 (al r9.1 a9 b3 b0 b4 b1 b6 b2 b8)::(bn r9.1 a9 b3 b0 b4 b1 b6 b2 b8++[aK b7 34 (al cy none 0 none 0 none 0 none 0)]))) ?_ ?_
 ·by_cases c6 : r9.1.f3 = true
  ·refine bf c6 aA (h:=cE c6 (aP 8) (h:=cd c6 (h:=ah ?_)))
   have x_:=fD f5 c6;exact bK [8,0,1,2,3,9]
  refine cu 2 (aM c6) (ck (aM c6) (h:=ah ?_))
  have x_:=fC f5 ((aM c6));exact bK [8,0,1,2,3,9]
 rintro e ds As g4
 refine bA (SA.of_St g4 fun junk=>?_)
 obtain⟨a8,H,e4⟩:=ac H
 refine bI (fun e ds As=>∃ (L : Nat),∃ (F : Option Addr) (M : Nat),∃ (I : Option Addr) (N : Nat),∃ (J : Option Addr) (O : Nat),∃ (K : Option Addr) (R : Nat),St [(1,aL a1),(2,aH L),(4,aH b7),(7,ae D)] (aK L 34 (al a8 F M I N J O K R)::(bn a8 F M I N J O K R++[aK b7 34 (al cy none 0 none 0 none 0 none 0)])) e ds As) ?_ ?_
 ·rcases bE H with⟨e9,H⟩|⟨e9,H⟩
  ·refine aD rfl e9 (aR (ad aA (h:=o' (cF 0 [ae 0] (h:=(bA (bM 1 fun n0=>bM 2 fun n1=>bM 3 fun n2=>bM 4 fun n3=>ak ?_)))))))
   obtain⟨o1,j8,H⟩:=ac H
   refine o' (ed [0,1,2,3,4] [5] (il.ok (bg:=b5) j8) fun j3 j9 j4 k0 j5 k1 j6 k2=>?_)
   refine ah ?_
   have h:=aN H;subst h
   exact aa ⟨b5,j3,j9,j4,k0,j5,k1,j6,k2,dZ [0,1,2,3,4,5]⟩
  refine aE rfl e9 (ap ?_)
  have h:=aN H;subst h
  exact aa ⟨b5,a9,b3,b0,b4,b1,b6,b2,b8,dZ [0,1,2,3,4,5]⟩
 rintro e ds As ⟨L,F,M,I,N,J,O,K,R,g5⟩
 clear H
 have H:=e4
 clear e4
 refine aa (SA.of_St g5 fun junk=>aR (ad aA (h:=o' (cF 0 [.bool false] (h:=(cP (ad aA (h:=ad aA (h:=bp (aP 0) (h:=S' (cT rfl rfl) ?_))))))))))
 obtain⟨n81,j0,H⟩:=bj H
 refine bP (ae n81) (bo (v:=ae n81) (congrArg (Value.int .i64) j0.symm)) (h:=eD (ad ar (h:=ad (bk rfl rfl) (h:=S' ar ?_))))
 obtain⟨k4,f6,H⟩:=bj H
 refine cK 5 (St [(1,aL a1),(2,aH L),(4,aH b7),(7,ae D),(8,ae n81),(47,.bool k4)] (aK L 34 (al ({ a8 with f3:=false }) F M I N J O K R)::(bn a8 F M I N J O K R++[aK b7 34 (al cy none 0 none 0 none 0 none 0)]))) ?_ ?_
 ·by_cases a7 : D = 2
  ·refine bf (ai a7) aA (h:=cE (ai a7) (aP 0) (h:=bf (ai a7) ar (h:=bf (ai a7) (bk rfl rfl) (h:=cd (ai a7) (h:=ah ?_)))))
   have x_:=fD f6 ((ai a7));exact bK [0,1,2,3,4,5]
  refine cu 4 (am a7) (ck (am a7) (h:=ah ?_))
  have x_:=fC f6 ((am a7));exact bK [0,1,2,3,4,5]
 rintro e ds As g6
 refine bA (SA.of_St g6 fun junk=>?_)
 obtain⟨k5,H,b9⟩:=ac H
 refine bI (fun e ds As=>∃ (E : aJ × aJ),k5 = Out.go E∧∃ (c5 : Nat),∃ (c9 : Option Addr) (d3 : Nat),∃ (d0 : Option Addr) (d4 : Nat),∃ (d1 : Option Addr) (d5 : Nat),∃ (d2 : Option Addr) (d6 : Nat),∃ (u : Nat),∃ (S : Option Addr) (a2 : Nat),∃ (U : Option Addr) (a3 : Nat),∃ (Y : Option Addr) (a4 : Nat),∃ (Z : Option Addr) (a5 : Nat),St [(1,aL a1),(2,aH c5),(4,aH u),(7,ae D),(8,ae n81)] (aK c5 34 (al E.1 c9 d3 d0 d4 d1 d5 d2 d6)::(bn E.1 c9 d3 d0 d4 d1 d5 d2 d6++(cN u E.2 S a2 U a3 Y a4 Z a5))) e ds As) ?_ ?_
 ·rcases bE H with⟨d7,H⟩|⟨d7,H⟩
  ·refine aD rfl d7 (ao (aR (ad aA (h:=bp (aP 0) (h:=ad (bX rfl) (h:=S' ar ?_))))))
   obtain⟨j1,e2,H⟩:=bj H
   refine cK 3 (St [(1,aL a1),(2,aH L),(4,aH b7),(7,ae D),(8,ae n81),(54,.bool j1)] (aK L 34 (al ({ a8 with f3:=false }) F M I N J O K R)::(bn a8 F M I N J O K R++[aK b7 34 (al cy none 0 none 0 none 0 none 0)]))) ?_ ?_
   ·by_cases a6 : (!a8.f8) = true
    ·refine cu 2 a6 (cd a6 (h:=ah ?_))
     have x_:=ji e2 a6;exact bK [0,1,2,3,4,5]
    refine bf (aM a6) ar (h:=bf (aM a6) (bk rfl rfl) (h:=ck (aM a6) (h:=ah ?_)))
    have x_:=jh e2 ((aM a6));exact bK [0,1,2,3,4,5]
   rintro e ds As f9
   refine bA (SA.of_St f9 fun junk=>?_)
   rcases bE H with⟨d8,H⟩|⟨d8,H⟩
   ·refine aD rfl d8 (aR (bp (cm 0) (h:=o' (bi b7 0 5 (al ({ a8 with f3:=false }) F M I N J O K R) (h:=ad aW (h:=cD (aG (aG ?_))))))))
    have h:=aN H;subst h
    have hb_:=dw b9
    have hr_:=Option.some.inj hb_
    clear hb_
    subst hr_
    exact du [.cell 4 34,.tmp 5] [1,2,3,4] ⟨F,M,I,N,J,O,K,R,rfl,rfl⟩ ⟨cV 5,cW,trivial⟩
   refine aE rfl d8 (ap (aa (aR (ad aA (h:=o' (cF 0 [ae 0] (h:=(bA (bM 1 fun k6=>bM 2 fun k7=>bM 3 fun k8=>bM 4 fun k9=>ak ?_)))))))))
   obtain⟨j2,i1,H⟩:=ac H
   refine o' (ed [0,1,2,3,4] [5] (il.ok (bg:=L) i1) fun h6 i5 h7 i6 h8 i7 h9 i8=>?_)
   refine ah ?_
   have h:=aN H;subst h
   exact aa ⟨(j2,cy),rfl,L,h6,i5,h7,i6,h8,i7,h9,i8,b7,none,0,none,0,none,0,none,0,St.mk1 (cB rfl (cB rfl (cB rfl (cB rfl (cB rfl dS))))) ((Gh.nilBuf bD 55).trans ((Gh.nilBuf (Kd.int .i64) 3).trans ((Gh.nilBuf bD 55).trans ((Gh.nilBuf (Kd.int .i32) 21).trans (eZ [0,1,2,3,4,5,6,7,8,9])))))⟩
  refine aE rfl d7 (ap ?_)
  have h:=aN H;subst h
  exact aa ⟨(({ a8 with f3:=false }),cy),rfl,L,F,M,I,N,J,O,K,R,b7,none,0,none,0,none,0,none,0,St.mk1 (cB rfl (cB rfl (cB rfl (cB rfl (cB rfl dS))))) ((Gh.nilBuf bD 55).trans ((Gh.nilBuf (Kd.int .i64) 3).trans ((Gh.nilBuf bD 55).trans ((Gh.nilBuf (Kd.int .i32) 21).trans (eZ [0,1,2,3,4,5,6,7,8,9])))))⟩
 rintro e ds As ⟨E,ht,c5,c9,d3,d0,d4,d1,d5,d2,d6,u,S,a2,U,a3,Y,a4,Z,a5,g0⟩
 clear H
 subst ht
 replace b9:=fw b9
 have H:=b9
 clear b9
 refine aa (SA.of_St g0 fun junk=>ao (aR (ad aA (h:=bp (aP 0) (h:=bA ?_)))))
 obtain⟨a,H,e1⟩:=ac H
 refine bI (fun e ds As=>∃ (y : Nat),∃ (c7 : Option Addr) (c8 : Nat),∃ (j : Option Addr) (p : Nat),∃ (m : Option Addr) (q : Nat),∃ (o : Option Addr) (s : Nat),St [(1,aL a1),(2,aH y),(4,aH u),(7,ae D),(8,ae n81)] (aK y 34 (al a c7 c8 j p m q o s)::(bn a c7 c8 j p m q o s++(cN u E.2 S a2 U a3 Y a4 Z a5))) e ds As) ?_ ?_
 ·rcases bE H with⟨d9,H⟩|⟨d9,H⟩
  ·refine aD rfl d9 (bM 1 fun l0=>bM 2 fun l1=>bM 3 fun l2=>bM 4 fun l3=>bM 6 fun l4=>bM 7 fun l5=>bM 8 fun l6=>bM 9 fun l7=>ak ?_)
   refine ad aA (h:=bp (cz c5 0 0 [ae E.1.f0.f0,ae E.1.f0.f1,.slice c9 E.1.f0.f2.length d3]) (h:=ad aA (h:=bp (aP 0) (h:=ad aA (h:=bp (aP 0) (h:=ad ar (h:=ad aA (h:=l' (cz c5 6 0 (bF E.1.f4)) ?_))))))))
   obtain⟨e0,i2,H⟩:=ac H
   refine o' (gy [1] [0,2,3,4,5,6,7,8,9] (fx.ok i2) fun e3 e5=>?_)
   refine ad ar (h:=ad cr (h:=ad cr (h:=ad aA (h:=o' (cF 2 [ae e0.1.f0,ae e0.1.f1,.slice e3 e0.1.f2.length e5] (h:=(ah ?_)))))))
   have h:=aN H;subst h
   exact aa ⟨c5,e3,e5,d0,d4,d1,d5,d2,d6,dZ [2,0,3,4,5,6,7,8,9,10]⟩
  refine aE rfl d9 (ap ?_)
  have h:=aN H;subst h
  exact aa ⟨c5,c9,d3,d0,d4,d1,d5,d2,d6,dZ [0,1,2,3,4,5,6,7,8,9]⟩
 rintro e ds As ⟨y,c7,c8,j,p,m,q,o,s,g1⟩
 clear H
 have H:=e1
 clear e1
 refine aa (SA.of_St g1 fun junk=>ao (bM 1 fun l8=>bM 2 fun l9=>bM 3 fun m0=>bM 4 fun m1=>bM 6 fun m2=>bM 7 fun m3=>bM 8 fun m4=>?_))
 refine bM 9 fun m5=>?_
 refine fj [0,1,2,3,4,5,6,7,8,9,10,13] [0] (dt 1 9) fun _ _ _ _ _ sH dd pk=>?_
 refine bc 0 rfl sH aA (h:=bQ 1 rfl sH (cz y 0 0 [ae a.f0.f0,ae a.f0.f1,.slice c7 a.f0.f2.length c8]) (h:=bc 2 rfl sH aA (h:=bQ 3 rfl sH (aP 0) (h:=bc 4 rfl sH aA (h:=bQ 5 rfl sH (aP 0) (h:=bc 6 rfl sH aA (h:=bQ 7 rfl sH (cz y 6 0 (bF a.f4)) (h:=bc 8 rfl sH ar (h:=T' 9 rfl sH aA ?_)))))))))
 refine r' 10 rfl sH (cz y 6 0 (bF a.f4)) ?_
 obtain⟨o0,i3,H⟩:=ac H
 refine dU 11 rfl dd (gy [] [0,1,2,3,4,5,6,7,8] (pI.ok i3) fun i0 i9=>?_)
 obtain⟨b,i4,H⟩:=ac H
 refine dU 12 rfl dd (gy [1,0] [2,3,4,5,6,7,8,9] (eQ.ok (A4:=i0) (c4:=i9) i4) fun c d=>?_)
 refine T' 13 rfl sH ar ?_
 refine iE (rs:=[14,15]) dd (by kernel_rfl) (by decide) (bG ⟨_,rfl,(.no rfl),?_⟩ (bG ⟨_,rfl,(.no rfl),?_⟩ df))
 ·refine id (dr (v:=.agg #[ae b.1.f0,ae b.1.f1,.slice c b.1.f2.length d]) rfl cr ?_)
  refine iE (rs:=[15,16]) dd (by kernel_rfl) (by decide) (bG ⟨_,rfl,(.no rfl),?_⟩ (bG ⟨_,rfl,(.no rfl),?_⟩ df))
  ·refine id (dr (v:=ae b.2) rfl cr (dU 16 rfl dd (dr (v:=aH y) rfl (kv y 0 0) (aV dd sH (eC 17 rfl (cF 0 [ae b.1.f0,ae b.1.f1,.slice c b.1.f2.length d] (h:=(aI (by kernel_rfl) (aa (aR (ad aA (h:=bp (aP 0) (h:=ad ar (h:=S' (bW rfl rfl) ?_))))))))))))))
   refine ad aA (h:=o' (cF 0 [ae (i64.wrap (a.f2 + D))] (h:=(eD (ad aA (h:=bp (aP 0) (h:=ad ar (h:=ad (eK rfl rfl) (h:=bA (SA.of_St (l:=[(2,aH y),(4,aH u),(8,ae n81),(99,.bool (decide ((i64.wrap (a.f2 + D)) > n81)))]) (B:=(aK y 34 (al ({ a with f0:=b.1,f2:=(i64.wrap (a.f2 + D)) }) c d j p m q o s)::Buf bD 55 c d b.1.f2::gf 3 j p a.f7::Buf bD 55 m q a.f16.f2::kU 21 o s a.f17::cN u E.2 S a2 U a3 Y a4 Z a5)) (St.mk1 (cB rfl (cB rfl (cB rfl (cB rfl dS)))) (Gh.sel [0,1,4,5,6,7,8,9,10,11] (by kernel_rfl) (by kernel_rfl))) fun junk=>?_))))))))))
   rcases bE H with⟨z,H⟩|⟨z,H⟩
   ·refine aC rfl z (ak (ad ar (h:=ad aA (h:=o' (cF 0 [ae n81] (h:=(ad aA (h:=o' (cF 0 [.bool true] (h:=(cP (bp (cm 0) (h:=o' (uB u 0 5 (al ({ a with f0:=b.1,f2:=n81,f3:=true }) c d j p m q o s) ?_))))))))))))))
    refine ad aW (h:=cC ?_)
    have h:=aN H;subst h
    exact du [.cell 4 34,.tmp 5] [1,2,3,4] ⟨c,d,j,p,m,q,o,s,rfl,rfl⟩ ⟨cV 5,cW,trivial⟩
   refine aB rfl z (ap (aa (aR (bp (cm 0) (h:=o' (bi u 0 5 (al ({ a with f0:=b.1,f2:=(i64.wrap (a.f2 + D)) }) c d j p m q o s) (h:=ad aW (h:=cC ?_))))))))
   have h:=aN H;subst h
   exact du [.cell 4 34,.tmp 5] [1,2,3,4] ⟨c,d,j,p,m,q,o,s,rfl,rfl⟩ ⟨cV 5,cW,trivial⟩
  refine id (dr (v:=aH y) rfl (kv y 0 0) (aV dd sH ?_))
  refine eI (rs:=[15,17]) (by kernel_rfl) (by decide) (bG ⟨rfl,_,rfl,(.no rfl),?_⟩ (bG ⟨rfl,_,rfl,(.no rfl),?_⟩ df))
  ·refine id (dr (v:=ae b.2) rfl cr (eC 17 rfl (cF 0 [ae b.1.f0,ae b.1.f1,.slice c b.1.f2.length d] (h:=(aI (by kernel_rfl) (aa (aR (ad aA (h:=bp (aP 0) (h:=ad ar (h:=ad (bW rfl rfl) (h:=ad aA (h:=o' (cF 0 [ae (i64.wrap (a.f2 + D))] (h:=?_)))))))))))))))
   refine eD (ad aA (h:=bp (aP 0) (h:=ad ar (h:=ad (eK rfl rfl) (h:=bA (SA.of_St (l:=[(2,aH y),(4,aH u),(8,ae n81),(99,.bool (decide ((i64.wrap (a.f2 + D)) > n81)))]) (B:=(aK y 34 (al ({ a with f0:=b.1,f2:=(i64.wrap (a.f2 + D)) }) c d j p m q o s)::Buf bD 55 c d b.1.f2::gf 3 j p a.f7::Buf bD 55 m q a.f16.f2::kU 21 o s a.f17::cN u E.2 S a2 U a3 Y a4 Z a5)) (St.mk1 (cB rfl (cB rfl (cB rfl (cB rfl dS)))) (Gh.sel [0,1,4,5,6,7,8,9,10,11] (by kernel_rfl) (by kernel_rfl))) fun junk=>?_))))))
   rcases bE H with⟨z,H⟩|⟨z,H⟩
   ·refine aC rfl z (ak (ad ar (h:=ad aA (h:=o' (cF 0 [ae n81] (h:=(ad aA (h:=o' (cF 0 [.bool true] (h:=(cP (bp (cm 0) (h:=o' (uB u 0 5 (al ({ a with f0:=b.1,f2:=n81,f3:=true }) c d j p m q o s) ?_))))))))))))))
    refine ad aW (h:=cC ?_)
    have h:=aN H;subst h
    exact du [.cell 4 34,.tmp 5] [1,2,3,4] ⟨c,d,j,p,m,q,o,s,rfl,rfl⟩ ⟨cV 5,cW,trivial⟩
   refine aB rfl z (ap (aa (aR (bp (cm 0) (h:=o' (bi u 0 5 (al ({ a with f0:=b.1,f2:=(i64.wrap (a.f2 + D)) }) c d j p m q o s) (h:=ad aW (h:=cC ?_))))))))
   have h:=aN H;subst h
   exact du [.cell 4 34,.tmp 5] [1,2,3,4] ⟨c,d,j,p,m,q,o,s,rfl,rfl⟩ ⟨cV 5,cW,trivial⟩
  refine id (cF 0 [ae b.1.f0,ae b.1.f1,.slice c b.1.f2.length d] (h:=(eC 15 rfl (dr (v:=ae b.2) rfl cr (aI (by kernel_rfl) (aa (aR (ad aA (h:=bp (aP 0) (h:=ad ar (h:=ad (bW rfl rfl) (h:=ad aA (h:=o' (cF 0 [ae (i64.wrap (a.f2 + D))] (h:=?_)))))))))))))))
  refine eD (ad aA (h:=bp (aP 0) (h:=ad ar (h:=ad (eK rfl rfl) (h:=bA (SA.of_St (l:=[(2,aH y),(4,aH u),(8,ae n81),(99,.bool (decide ((i64.wrap (a.f2 + D)) > n81)))]) (B:=(aK y 34 (al ({ a with f0:=b.1,f2:=(i64.wrap (a.f2 + D)) }) c d j p m q o s)::Buf bD 55 c d b.1.f2::gf 3 j p a.f7::Buf bD 55 m q a.f16.f2::kU 21 o s a.f17::cN u E.2 S a2 U a3 Y a4 Z a5)) (St.mk1 (cB rfl (cB rfl (cB rfl (cB rfl dS)))) (Gh.sel [0,1,4,5,6,7,8,9,10,11] (by kernel_rfl) (by kernel_rfl))) fun junk=>?_))))))
  rcases bE H with⟨z,H⟩|⟨z,H⟩
  ·refine aC rfl z (ak (ad ar (h:=ad aA (h:=o' (cF 0 [ae n81] (h:=(ad aA (h:=o' (cF 0 [.bool true] (h:=(cP (bp (cm 0) (h:=o' (uB u 0 5 (al ({ a with f0:=b.1,f2:=n81,f3:=true }) c d j p m q o s) ?_))))))))))))))
   refine ad aW (h:=cC ?_)
   have h:=aN H;subst h
   exact du [.cell 4 34,.tmp 5] [1,2,3,4] ⟨c,d,j,p,m,q,o,s,rfl,rfl⟩ ⟨cV 5,cW,trivial⟩
  refine aB rfl z (ap (aa (aR (bp (cm 0) (h:=o' (bi u 0 5 (al ({ a with f0:=b.1,f2:=(i64.wrap (a.f2 + D)) }) c d j p m q o s) (h:=ad aW (h:=cC ?_))))))))
  have h:=aN H;subst h
  exact du [.cell 4 34,.tmp 5] [1,2,3,4] ⟨c,d,j,p,m,q,o,s,rfl,rfl⟩ ⟨cV 5,cW,trivial⟩
 refine id (dr (v:=ae b.2) rfl cr (dU 14 rfl dd (dr (v:=.agg #[ae b.1.f0,ae b.1.f1,.slice c b.1.f2.length d]) rfl cr (dU 16 rfl dd (dr (v:=aH y) rfl (kv y 0 0) (aV dd sH (eC 17 rfl (cF 0 [ae b.1.f0,ae b.1.f1,.slice c b.1.f2.length d] (h:=(aI (by kernel_rfl) (aa (aR (ad aA (h:=bp (aP 0) (h:=S' ar ?_)))))))))))))))
 refine ad (bW rfl rfl) (h:=ad aA (h:=o' (cF 0 [ae (i64.wrap (a.f2 + D))] (h:=(eD (ad aA (h:=bp (aP 0) (h:=ad ar (h:=ad (eK rfl rfl) (h:=bA (SA.of_St (l:=[(2,aH y),(4,aH u),(8,ae n81),(99,.bool (decide ((i64.wrap (a.f2 + D)) > n81)))]) (B:=(aK y 34 (al ({ a with f0:=b.1,f2:=(i64.wrap (a.f2 + D)) }) c d j p m q o s)::Buf bD 55 c d b.1.f2::gf 3 j p a.f7::Buf bD 55 m q a.f16.f2::kU 21 o s a.f17::cN u E.2 S a2 U a3 Y a4 Z a5)) (St.mk1 (cB rfl (cB rfl (cB rfl (cB rfl dS)))) (Gh.sel [0,1,4,5,6,7,8,9,10,11] (by kernel_rfl) (by kernel_rfl))) fun junk=>?_)))))))))))
 rcases bE H with⟨z,H⟩|⟨z,H⟩
 ·refine aC rfl z (ak (ad ar (h:=ad aA (h:=o' (cF 0 [ae n81] (h:=(ad aA (h:=o' (cF 0 [.bool true] (h:=(cP (bp (cm 0) (h:=o' (uB u 0 5 (al ({ a with f0:=b.1,f2:=n81,f3:=true }) c d j p m q o s) ?_))))))))))))))
  refine ad aW (h:=cC ?_)
  have h:=aN H;subst h
  exact du [.cell 4 34,.tmp 5] [1,2,3,4] ⟨c,d,j,p,m,q,o,s,rfl,rfl⟩ ⟨cV 5,cW,trivial⟩
 refine aB rfl z (ap (aa (aR (bp (cm 0) (h:=o' (bi u 0 5 (al ({ a with f0:=b.1,f2:=(i64.wrap (a.f2 + D)) }) c d j p m q o s) (h:=ad aW (h:=cC ?_))))))))
 have h:=aN H;subst h
 exact du [.cell 4 34,.tmp 5] [1,2,3,4] ⟨c,d,j,p,m,q,o,s,rfl,rfl⟩ ⟨cV 5,cW,trivial⟩

end Go.Proofs.YtckilbegmbaeeaaGreat.Z6

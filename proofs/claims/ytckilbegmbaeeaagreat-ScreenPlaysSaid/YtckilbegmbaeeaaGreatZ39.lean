/- What functions compute, and that they do: 125b0, 126Lb_0_, 127, 128, 28, 62f74x_1_, 74Lb_0_, 75Lb_0_. -/
import Derived.Test.YtckilbegmbaeeaaGreatZ38
namespace Go.Proofs.YtckilbegmbaeeaaGreat.Z3
open Go Go.RowKit Go.Proofs.YtckilbegmbaeeaaGreat.SL
open Go.IntKind (i64)
set_option linter.unusedVariables false
set_option maxHeartbeats 20000000
set_option maxRecDepth 100000
set_option linter.unusedSimpArgs false
attribute [local irreducible] IntKind.wrap cC dO eX gp gl lH fU cN gm rd sub bytesOf eG cL
variable {ba gV bJ af ay ar au k : Nat}
variable {ag az aw av : Option Addr}
def fO.l0 (l0 : (List Int)) (a1 : Int) : Nat → Int → Int → Option (Int)
  | 0,_,_=>none
  | k + 1,a,b=>if a < b then (lt (i64.wrap (eX .u64 (IntKind.u64.wrap (i64.wrap (a + b))) 1)) fun n7=>if 0 ≤ n7∧n7 < (l0.length : Int) then ((rq.f (rd l0 n7) a1).bind (fun c=>if c = true then (lt (i64.wrap (n7 + 1)) fun n12=>fO.l0 l0 a1 k n12 b) else (fO.l0 l0 a1 k a n7))) else none) else (some a)
def fO.f (k : Nat) (l0 : (List Int)) (a1 : Int) : Option (Int × Bool):=lt ((l0.length : Int)) fun b=>(fO.l0 l0 a1 k 0 b : Option (Int)).bind (fun a=>(if a < b then (if 0 ≤ a∧a < (l0.length : Int) then (if (rd l0 a) = a1 then (some true) else (if 0 ≤ a∧a < (l0.length : Int) then ((qb.f (rd l0 a)).bind (fun c=>if c = true then ((qb.f a1).bind (fun d=>some d)) else (some false))) else none)) else none) else (some false) : Option Bool).bind (fun h=>some ((a,h))))
theorem fO.ok {l0 : (List Int)} {a1 : Int} {A0 : Option Addr} {c0 : Nat} {r : Int × Bool} (H : fO.f k l0 a1 = some r) : fK Tryz.prog 125 #[.slice A0 l0.length c0,ae a1] [fm 3 A0 c0 l0] (.tuple #[ae r.1,.bool r.2]):=by
 refine ai Tryz.func125 rfl rfl ?_
 unfold fO.f at H
 refine aQ (ad aV (h:=ad aV (h:=cV (ad ax (h:=s' (ae (l0.length : Int)) (dB Tryz.underlying29 rfl) ?_)))))
 obtain⟨q,L,H⟩:=br H
 refine bO (ae q) (bz (v:=ae q) (congrArg (Value.int .i64) L.symm)) (h:=cV (ad ax (h:=ad aV (h:=ad aV (h:=bC (ao ?_))))))
 obtain⟨o,H,y⟩:=ac H
 refine bI (St [(0,.slice A0 l0.length c0),(1,ae a1),(6,ae q),(7,ae o)] [fm 3 A0 c0 l0]) ?_ ?_
 ·refine aU (cw (fun k_ e ds As=>∃ (c : Int) (d : Int),fO.l0 l0 a1 k_ c d = some o∧St [(0,.slice A0 l0.length c0),(1,ae a1),(6,ae q),(7,ae c),(8,ae d)] [fm 3 A0 c0 l0] e ds As) (k:=k) ⟨_,_,H,kW [0]⟩ ?_)
  clear H
  rintro s e ds As ⟨c,d,H,F⟩
  obtain _ | s:=s
  ·cases H
  rw [fO.l0] at H
  refine SA.of_St F fun junk=>ao (aQ (ad ax (h:=ad ax (h:=ad (cn rfl rfl) (h:=bC ?_)))))
  rcases bH H with⟨I,H⟩|⟨I,H⟩
  ·refine aB rfl I (ap (aa (aU (aQ (ad ax (h:=ad ax (h:=ad (bV rfl rfl) (h:=bO (.int .u64 (IntKind.u64.wrap (i64.wrap (c + d)))) (jS (T:=3) (by kernel_rfl) Tryz.underlying146 rfl) (h:=bO (.int .u64 (eX .u64 (IntKind.u64.wrap (i64.wrap (c + d))) 1)) (vO rfl rfl (by decide)) (h:=s' (ae (i64.wrap (eX .u64 (IntKind.u64.wrap (i64.wrap (c + d))) 1))) (jS (T:=146) (by kernel_rfl) Tryz.underlying3 rfl) ?_))))))))))
   obtain⟨n7,M,H⟩:=br H
   refine bO (ae n7) (bz (v:=ae n7) (congrArg (Value.int .i64) M.symm)) (h:=cV (ad ax (h:=S' ax ?_)))
   obtain⟨⟨N,O⟩,H⟩:=aR H
   refine bD (bK (i:=n7) Tryz.underlying29 jG rfl rfl (Src.buf (k:=0) rfl) N O) (h:=bD (bQ (enc:=(fun x_ : Int=>[Value.int .i64 x_])) (i:=n7) (j:=n7.toNat * 1) (m:=0) (sz:=1) Tryz.underlying3 rfl rfl rfl rfl (Src.buf (k:=0) rfl) N O (fun _ _ h=>h) rfl) (h:=S' ax ?_))
   obtain⟨Z,R,H⟩:=ac H
   refine o' (da [] [0] (rq.ok R) ?_)
   refine bC ?_
   rcases bH H with⟨p,H⟩|⟨p,H⟩
   ·refine aC rfl p (ah (ad ax (h:=S' (bV rfl rfl) ?_)))
    obtain⟨n12,J,H⟩:=br H
    refine bO (ae n12) (bz (v:=ae n12) (congrArg (Value.int .i64) J.symm)) (h:=aj (aF ?_))
    exact aa ⟨s,Nat.lt_succ_self _,_,_,H,ed [0]⟩
   refine aD rfl p (ah (ad ax (h:=ad aV (h:=aj (aF ?_)))))
   exact aa ⟨s,Nat.lt_succ_self _,_,_,H,ed [0]⟩
  refine aA rfl I (ct (bc (bc (cr ?_))))
  have h:=aN H;subst h
  exact bM [0]
 rintro e ds As u
 clear H
 have H:=y
 clear y
 refine aa (SA.of_St u fun junk=>aQ (ad ax (h:=ad ax (h:=ad ax (h:=ad (cn rfl rfl) (h:=S' ax ?_))))))
 obtain⟨S,H,K⟩:=ac H
 refine eg 18 [(31,ae o),(53,.bool S)] [fm 3 A0 c0 l0] ?_ fun junk=>?_
 ·rcases bH H with⟨a,H⟩|⟨a,H⟩
  ·refine bn (ak a) ax (h:=Y' (ak a) ax ?_)
   obtain⟨⟨z,B⟩,H⟩:=aR H
   refine dc (ak a) (bK (i:=o) Tryz.underlying29 jG rfl rfl (Src.buf (k:=0) rfl) z B) (h:=dc (ak a) (bQ (enc:=(fun x_ : Int=>[Value.int .i64 x_])) (i:=o) (j:=o.toNat * 1) (m:=0) (sz:=1) Tryz.underlying3 rfl rfl rfl rfl (Src.buf (k:=0) rfl) z B (fun _ _ h=>h) rfl) (h:=bn (ak a) ax (h:=bn (ak a) (bk rfl rfl) (h:=Y' (ak a) ax ?_))))
   rcases bH H with⟨b,H⟩|⟨b,H⟩
   ·refine cI 6 (ak b) (gj (gj (cI 1 (ak b) (gE (ak a) (dl rfl (bX rfl (ak b) rfl) (ii (ak a) ?_))))))
    have h:=aN H;subst h
    exact dV [0]
   refine bn (am b) ax (h:=Y' (am b) ax ?_)
   obtain⟨⟨D,E⟩,H⟩:=aR H
   refine dc (am b) (bK (i:=o) Tryz.underlying29 jG rfl rfl (Src.buf (k:=0) rfl) D E) (h:=z' (am b) (bQ (enc:=(fun x_ : Int=>[Value.int .i64 x_])) (i:=o) (j:=o.toNat * 1) (m:=0) (sz:=1) Tryz.underlying3 rfl rfl rfl rfl (Src.buf (k:=0) rfl) D E (fun _ _ h=>h) rfl) ?_)
   obtain⟨a0,U,H⟩:=ac H
   refine gE (am b) (da [] [0] (qb.ok U) ?_)
   refine Y' (am b) ax ?_
   rcases bH H with⟨l,H⟩|⟨l,H⟩
   ·refine Y' l ax ?_
    obtain⟨a2,Y,H⟩:=ac H
    refine gE l (da [] [0] (qb.ok Y) ?_)
    refine gE (am b) (dl rfl (bX rfl (l) rfl) (gE (ak a) (dl rfl (bY rfl (am b) rfl) (ii (ak a) ?_))))
    have h:=aN H;subst h
    exact dV [0]
   refine cI 2 (aX l) (gE (am b) (dl rfl (bY rfl (aX l) rfl) (gE (ak a) (dl rfl (bY rfl (am b) rfl) (ii (ak a) ?_)))))
   have h:=aN H;subst h
   exact dV [0]
  refine cI 7 (am a) (gj (gj (gj (gj (gj (gj (gj (gj (gj ?_)))))))))
  refine cI 1 (am a) (gL (am a) ?_)
  have h:=aN H;subst h
  exact dV [0]
 replace H:=K
 refine ad aV (h:=ad aV (h:=cF ?_))
 have h:=aN H;subst h
 exact yC [fm 3 A0 c0 l0] rfl rfl rfl (eY [0]) ⟨rfl,rfl⟩


def ix.f (k : Nat) (p0 : aG) : Option (aG):=if p0.f1 = p0.f5 then ((cT.f k p0 p0.f5 p0.f6 (-1) p0.f4).bind (fun a=>some (a))) else (if p0.f1 > 0 then (some (({ p0 with f1:=(i64.wrap (p0.f1 - 1)) }))) else (some (p0)))
theorem ix.ok {p0 : aG} {r : aG} (H : ix.f k p0 = some r) : df Tryz.prog 126 #[.agg #[.pointer (some ⟨ba,0,none⟩)]] (cK ba p0 ag af az ay aw ar av au) (fun v B=>∃ P0_0_ q0_0_ P0_1_ q0_1_ P0_2_ q0_2_ P0_3_ q0_3_,v = .tuple #[]∧B = (cK ba r P0_0_ q0_0_ P0_1_ q0_1_ P0_2_ q0_2_ P0_3_ q0_3_)):=by
 refine ai Tryz.func126 rfl rfl ?_
 unfold ix.f at H
 refine aQ (o' (bN (h:=fun F=>bC (aU (ao ?_)))))
 refine fk (dG 0 12) [0,5] (dG 1 4) fun _ _ _ _ _ sH dd pk=>?_
 refine bf 0 rfl sH aE (h:=bT 1 rfl sH (aT 1) (h:=bf 2 rfl sH cz (h:=bf 3 rfl sH aE (h:=bT 4 rfl sH (aT 0) (h:=bf 5 rfl sH aE (h:=bT 6 rfl sH (aT 1) (h:=bf 7 rfl sH cz (h:=bf 8 rfl sH aE (h:=r' 9 rfl sH (aT 0) ?_)))))))))
 refine bf 10 rfl sH (bk rfl rfl) (h:=bf 11 rfl sH aV (h:=aW dd sH (aH (by kernel_rfl) (aa ?_))))
 rcases bH H with⟨b,H⟩|⟨b,H⟩
 ·refine aB rfl b (bj 2 fun u=>bj 3 fun y=>bj 4 fun z=>bj 5 fun D=>?_)
  refine fk (dG 0 19) [0,1] (dG 2 4) fun _ _ _ _ _ sH dd pk=>?_
  refine bf 0 rfl sH aE (h:=bT 1 rfl sH (aT 1) (h:=bf 2 rfl sH cz (h:=bf 3 rfl sH aE (h:=bf 4 rfl sH aE (h:=bT 5 rfl sH (aT 1) (h:=bf 6 rfl sH cz (h:=bf 7 rfl sH aE (h:=bT 8 rfl sH (aT 0) (h:=T' 9 rfl sH aE ?_)))))))))
  refine bT 10 rfl sH (aT 1) (h:=bf 11 rfl sH cz (h:=bf 12 rfl sH aE (h:=bT 13 rfl sH (aT 0) (h:=bf 14 rfl sH aE (h:=bT 15 rfl sH (aT 1) (h:=bf 16 rfl sH cz (h:=bf 17 rfl sH aE (h:=bT 18 rfl sH (cG ba 6 0 (bG p0.f4)) (h:=aW dd sH ?_)))))))))
  obtain⟨E,c,H⟩:=ac H
  refine ey 19 rfl (dN [0,2,3,4,5] [1] (cT.ok (ba:=ba) c) fun d j l m o p q s=>?_)
  refine aH (by kernel_rfl) (aF ?_)
  have h:=aN H;subst h
  exact fD [0,1,2,3,4] ⟨d,j,l,m,o,p,q,s,rfl,rfl⟩
 refine aA rfl b (aQ (ad aE (h:=bD (aT 1) (h:=ad cz (h:=ad aE (h:=bD (aT 0) (h:=ad (eR rfl rfl) (h:=ad aV (h:=bC ?_)))))))))
 rcases bH H with⟨a,H⟩|⟨a,H⟩
 ·refine aB rfl a (ah (ad aE (h:=bD (aT 1) (h:=ad cz (h:=ad aE (h:=bD (aT 0) (h:=ad (cY rfl rfl) (h:=ad cz (h:=S' aE ?_)))))))))
  refine o' (cH 0 [ae (i64.wrap (p0.f1 - 1))] (h:=(aj (aF ?_))))
  have h:=aN H;subst h
  exact fD [0,2,3,4,5] ⟨ag,af,az,ay,aw,ar,av,au,rfl,rfl⟩
 refine aA rfl a (ap (aF ?_))
 have h:=aN H;subst h
 exact fD [0,2,3,4,5] ⟨ag,af,az,ay,aw,ar,av,au,rfl,rfl⟩


def iG.f (k : Nat) (p0 : aG) (a1 : Int) : Option (aG):=(if a1 = 8 then (some (Out.go ({ p0 with f2:=(dO (i64.wrap (p0.f2 - 1)) 0) }))) else (if a1 = 9 then ((fO.f k p0.f7 p0.f2).bind (fun b=>(if b.2 = true then (lt (i64.wrap (b.1 + 1)) fun c=>some c) else (some b.1) : Option (Int)).bind (fun a=>(de.f p0).bind (fun d=>if a < (p0.f7.length : Int) then (if 0 ≤ a∧a < (p0.f7.length : Int) then (some (Out.go ({ p0 with f2:=(rd p0.f7 a) }))) else none) else (some (Out.go ({ p0 with f2:=d }))))))) else ((if a1 = 10 then (some (decide (a1 = 10))) else (if a1 = 11 then (some (decide (a1 = 11))) else (some (decide (a1 = 12)))) : Option (Bool)).bind (fun h=>if h = true then ((eS.f k p0).bind (fun j=>some (Out.go j))) else (if a1 = 13 then (some (Out.go ({ p0 with f2:=0 }))) else (if a1 = 141 then ((ix.f k p0).bind (fun l=>some (Out.go l))) else (some (Out.ret (p0)))))))) : Option (Out (aG) (aG))).bind (fun m=>Out.el m (fun r_=>some r_) (fun o=>some (({ o with f3:=false }))))
theorem iG.ok {p0 : aG} {a1 : Int} {r : aG} (H : iG.f k p0 a1 = some r) : df Tryz.prog 75 #[.agg #[.pointer (some ⟨ba,0,none⟩)],aJ a1] (cK ba p0 ag af az ay aw ar av au) (fun v B=>∃ P0_0_ q0_0_ P0_1_ q0_1_ P0_2_ q0_2_ P0_3_ q0_3_,v = .tuple #[]∧B = (cK ba r P0_0_ q0_0_ P0_1_ q0_1_ P0_2_ q0_2_ P0_3_ q0_3_)):=by
 refine ai Tryz.func75 rfl rfl ?_
 unfold iG.f at H
 refine aQ (o' (bN (h:=fun b=>eJ (ad ax (h:=bC ?_)))))
 obtain⟨t8,H,u⟩:=ac H
 refine bI (fun e ds As=>∃ (s9 : aG),t8 = Out.go s9∧∃ (E : Option Addr) (F : Nat),∃ (I : Option Addr) (J : Nat),∃ (K : Option Addr) (L : Nat),∃ (M : Option Addr) (N : Nat),St [(2,aK b)] (aL ba 34 (al s9 E F I J K L M N)::(aS s9 E F I J K L M N++[aL b 84 [aK ba]])) e ds As) ?_ ?_
 ·refine aU (aQ (ad (bk rfl rfl) (h:=ad aV (h:=bC ?_))))
  rcases bH H with⟨a2,H⟩|⟨a2,H⟩
  ·refine aB rfl a2 ?_
   refine fk (dG 0 11) [0,5] (dG 1 4) fun _ _ _ _ _ sH dd pk=>?_
   refine bf 0 rfl sH aE (h:=bT 1 rfl sH (aT 1) (h:=bf 2 rfl sH aE (h:=bT 3 rfl sH (aT 1) (h:=bf 4 rfl sH cz (h:=bf 5 rfl sH aE (h:=bT 6 rfl sH (aT 0) (h:=bf 7 rfl sH (cY rfl rfl) (h:=kY (ae (dO (i64.wrap (p0.f2 - 1)) 0)) 8 rfl sH (nG rfl rfl) (h:=T' 9 rfl sH cz ?_)))))))))
   refine bf 10 rfl sH aE (h:=aW dd sH (ey 11 rfl (cH 0 [ae (dO (i64.wrap (p0.f2 - 1)) 0)] (h:=(aH (by kernel_rfl) (aF ?_))))))
   have h:=aN H;subst h
   exact aa ⟨({ p0 with f2:=(dO (i64.wrap (p0.f2 - 1)) 0) }),rfl,ag,af,az,ay,aw,ar,av,au,ed [0,2,3,4,5,1]⟩
  refine aA rfl a2 (aQ (ad (bk rfl rfl) (h:=ad aV (h:=bC ?_))))
  rcases bH H with⟨D,H⟩|⟨D,H⟩
  ·refine aB rfl D (ao (bj 1 fun e1=>bj 2 fun e2=>bj 3 fun e3=>bj 4 fun e4=>?_))
   refine fk (0::1::2::3::4::5::6::7::8::9::11::12::13::14::15::[]) [0,5] (dG 1 4) fun _ _ _ _ _ sH dd pk=>?_
   refine bf 0 rfl sH aE (h:=bT 1 rfl sH (aT 1) (h:=bf 2 rfl sH cz (h:=bf 3 rfl sH aE (h:=bT 4 rfl sH (aT 0) (h:=bf 5 rfl sH aE (h:=bT 6 rfl sH (aT 1) (h:=bf 7 rfl sH cz (h:=bf 8 rfl sH aE (h:=r' 9 rfl sH (aT 0) ?_)))))))))
   obtain⟨e5,a4,H⟩:=ac H
   refine dx 10 rfl dd (da [1] [0,2,3] (fO.ok (A0:=az) (c0:=ay) a4) ?_)
   refine bf 11 rfl sH ax (h:=bf 12 rfl sH cg (h:=bf 13 rfl sH cg (h:=bf 14 rfl sH aV (h:=bf 15 rfl sH aV (h:=aW dd sH (aH (by kernel_rfl) (aa (ao (aQ (ad ax (h:=bC ?_)))))))))))
   obtain⟨a,H,y⟩:=ac H
   refine bI (St [(2,aK b),(4,ae a)] (aL ba 34 (al p0 ag af az ay aw ar av au)::(aS p0 ag af az ay aw ar av au++[aL b 84 [aK ba]]))) ?_ ?_
   ·rcases bH H with⟨c,H⟩|⟨c,H⟩
    ·refine aC rfl c (ah (ad ax (h:=S' (bV rfl rfl) ?_)))
     obtain⟨O,a3,H⟩:=br H
     refine bO (ae O) (bz (v:=ae O) (congrArg (Value.int .i64) a3.symm)) (h:=aj ?_)
     have h:=aN H;subst h
     exact bM [0,3,2,4,5,1]
    refine aD rfl c (ap ?_)
    have h:=aN H;subst h
    exact bM [0,3,2,4,5,1]
   rintro e ds As Y
   clear H
   have H:=y
   clear y
   refine aa (SA.of_St Y fun junk=>ao ?_)
   refine fk [0,1,2,4,5] [5] (dG 0 5) fun _ _ _ _ _ sH dd pk=>?_
   refine bf 0 rfl sH aE (h:=bT 1 rfl sH (aT 0) (h:=r' 2 rfl sH (cG b 0 0 [aK ba]) ?_))
   obtain⟨R,a5,H⟩:=ac H
   refine dx 3 rfl dd (da [0,1,2,3,4] [] (de.ok (ba:=ba) a5) ?_)
   refine bf 4 rfl sH cz (h:=bf 5 rfl sH aE (h:=dx 6 rfl dd (cH 0 [ae R] (h:=(aW dd sH (aH (by kernel_rfl) (aa (aQ (ad ax (h:=ad aE (h:=bD (aT 0) (h:=S' cz ?_))))))))))))
   refine ad aE (h:=bD (aT 1) (h:=bO (ae (p0.f7.length : Int)) (dB Tryz.underlying29 rfl) (h:=ad (cn rfl rfl) (h:=bC ?_))))
   rcases bH H with⟨d,H⟩|⟨d,H⟩
   ·refine aB rfl d ?_
    refine fk (dG 0 12) [0,1,3] [2,4,5] fun _ _ _ _ _ sH dd pk=>?_
    refine bf 0 rfl sH aE (h:=bT 1 rfl sH (aT 0) (h:=bf 2 rfl sH aE (h:=bT 3 rfl sH (aT 0) (h:=bf 4 rfl sH cz (h:=bf 5 rfl sH aE (h:=bT 6 rfl sH (aT 1) (h:=T' 7 rfl sH ax ?_)))))))
    obtain⟨⟨S,U⟩,H⟩:=aR H
    refine bT 8 rfl sH (bK (i:=a) Tryz.underlying29 jG rfl rfl (Src.buf (k:=2) rfl) S U) (h:=bT 9 rfl sH (bQ (enc:=(fun x_ : Int=>[Value.int .i64 x_])) (i:=a) (j:=a.toNat * 1) (m:=0) (sz:=1) Tryz.underlying3 rfl rfl rfl rfl (Src.buf (k:=2) rfl) S U (fun _ _ h=>h) rfl) (h:=bf 10 rfl sH cz (h:=bf 11 rfl sH aE (h:=aW dd sH (ey 12 rfl (cH 1 [ae (rd p0.f7 a)] (h:=(aH (by kernel_rfl) (aF ?_)))))))))
    have h:=aN H;subst h
    exact aa ⟨({ p0 with f2:=(rd p0.f7 a) }),rfl,ag,af,az,ay,aw,ar,av,au,ed [1,3,2,4,5,0]⟩
   refine aA rfl d (ap (aF ?_))
   have h:=aN H;subst h
   exact aa ⟨({ p0 with f2:=R }),rfl,ag,af,az,ay,aw,ar,av,au,ed [1,2,3,4,5,0]⟩
  refine aA rfl D (ao (aQ (ad (bk rfl rfl) (h:=ad aV (h:=bC ?_)))))
  obtain⟨a6,H,z⟩:=ac H
  refine bI (St [(2,aK b),(6,aJ a1),(65,.bool a6)] (aL ba 34 (al p0 ag af az ay aw ar av au)::(aS p0 ag af az ay aw ar av au++[aL b 84 [aK ba]]))) ?_ ?_
  ·rcases bH H with⟨l,H⟩|⟨l,H⟩
   ·refine aB rfl l (ap ?_)
    have h:=aN H;subst h
    exact bM [0,1,2,3,4,5]
   refine aA rfl l (aQ (ad (bk rfl rfl) (h:=ad aV (h:=bC ?_))))
   rcases bH H with⟨o,H⟩|⟨o,H⟩
   ·refine aB rfl o (ap ?_)
    have h:=aN H;subst h
    exact bM [0,1,2,3,4,5]
   refine aA rfl o (ah (ad (bk rfl rfl) (h:=ad aV (h:=aj ?_))))
   have h:=aN H;subst h
   exact bM [0,1,2,3,4,5]
  rintro e ds As Z
  clear H
  have H:=z
  clear z
  refine aa (SA.of_St Z fun junk=>?_)
  rcases bH H with⟨p,H⟩|⟨p,H⟩
  ·refine aC rfl p (bj 1 fun d3=>bj 2 fun d4=>bj 3 fun d5=>bj 4 fun d6=>ah (l' (cG b 0 5 [aK ba]) ?_))
   obtain⟨a7,a8,H⟩:=ac H
   refine o' (dN [0,1,2,3,4] [5] (eS.ok (ba:=ba) a8) fun a9 b0 b1 b2 b3 b4 b5 b7=>?_)
   refine aj (aF ?_)
   have h:=aN H;subst h
   exact aa ⟨a7,rfl,a9,b0,b1,b2,b3,b4,b5,b7,ed [0,1,2,3,4,5]⟩
  refine aD rfl p (aQ (ad (bk rfl rfl) (h:=ad aV (h:=bC ?_))))
  rcases bH H with⟨q,H⟩|⟨q,H⟩
  ·refine aB rfl q (ah (ad aE (h:=bD (aT 5) (h:=ad cz (h:=ad aE (h:=o' (cH 0 [ae 0] (h:=(aj (aF ?_))))))))))
   have h:=aN H;subst h
   exact aa ⟨({ p0 with f2:=0 }),rfl,ag,af,az,ay,aw,ar,av,au,ed [0,1,2,3,4,5]⟩
  refine aA rfl q (aQ (ad (bk rfl rfl) (h:=ad aV (h:=bC ?_))))
  rcases bH H with⟨s,H⟩|⟨s,H⟩
  ·refine aB rfl s (bj 1 fun d7=>bj 2 fun d8=>bj 3 fun d9=>bj 4 fun e0=>ah (l' (cG b 0 5 [aK ba]) ?_))
   obtain⟨b8,b9,H⟩:=ac H
   refine o' (dN [0,1,2,3,4] [5] (ix.ok (ba:=ba) b9) fun c5 c6 c7 c8 c9 d0 d1 d2=>?_)
   refine aj (aF ?_)
   have h:=aN H;subst h
   exact aa ⟨b8,rfl,c5,c6,c7,c8,c9,d0,d1,d2,ed [0,1,2,3,4,5]⟩
  refine aA rfl s (fa (bi (aI (aI ?_))))
  have h:=aN H;subst h
  have hb_:=dS u
  have hr_:=Option.some.inj hb_
  clear hb_
  subst hr_
  exact kT (cK ba p0 ag af az ay aw ar av au) rfl (eY [0,1,2,3,4]) ⟨ag,af,az,ay,aw,ar,av,au,rfl,rfl⟩
 rintro e ds As ⟨s9,ht,E,F,I,J,K,L,M,N,a0⟩
 clear H
 subst ht
 replace u:=fW u
 have H:=u
 clear u
 refine aa (SA.of_St a0 fun junk=>ah (ad aE (h:=bD (aT 5) (h:=ad cz (h:=ad aE (h:=o' (cH 0 [.bool false] (h:=(aj ?_)))))))))
 have h:=aN H;subst h
 exact fD [0,1,2,3,4] ⟨E,F,I,J,K,L,M,N,rfl,rfl⟩


def ko.f (k : Nat) (p0 : aG) (p1 : Int) : Option (aG):=(iG.f k p0 p1).bind (fun a=>some (a))
theorem ko.ok {p0 : aG} {p1 : Int} {r : aG} (H : ko.f k p0 p1 = some r) : df Tryz.prog 74 #[.agg #[.pointer (some ⟨ba,0,none⟩)],.pointer (some ⟨gV,0,none⟩)] (aL ba 34 (al p0 ag af az ay aw ar av au)::(aS p0 ag af az ay aw ar av au++[aL gV 21 [aJ p1]])) (fun v B=>∃ P0_0_ q0_0_ P0_1_ q0_1_ P0_2_ q0_2_ P0_3_ q0_3_,v = .tuple #[]∧B = (aL ba 34 (al r P0_0_ q0_0_ P0_1_ q0_1_ P0_2_ q0_2_ P0_3_ q0_3_)::(aS r P0_0_ q0_0_ P0_1_ q0_1_ P0_2_ q0_2_ P0_3_ q0_3_++[aL gV 21 [aJ p1]]))):=by
 refine ai Tryz.func74 rfl rfl ?_
 unfold ko.f at H
 refine aQ (o' (bN (h:=fun q=>bC (bj 1 fun z=>bj 2 fun s=>bj 3 fun u=>bj 4 fun y=>ah (bD (cG q 0 6 [aK ba]) (h:=l' (aT 5) ?_))))))
 obtain⟨D,a,H⟩:=ac H
 refine o' (dN [0,1,2,3,4] [5,6] (iG.ok (ba:=ba) a) fun b c d j l m o p=>?_)
 refine aj ?_
 have h:=aN H;subst h
 exact fD [0,1,2,3,4,5] ⟨b,c,d,j,l,m,o,p,rfl,rfl⟩


def io.f (k : Nat) (a0 : aG) (p2000 : Int) : Option (aG × Int):=(ei.f k a0).bind (fun a=>if (!a) = true then (some (((aG.mk (bF.mk 0 0 ([] : (List aZ))) 0 0 false (cA.mk 0 0 false false false false false false false false) 0 0 ([] : (List Int)) false false false false false false (dq.mk 0 0 false false (cA.mk 0 0 false false false false false false false false)) false (bF.mk 0 0 ([] : (List aZ))) ([] : (List Int))),2))) else ((lL.f a0).bind (fun b=>(ko.f k b p2000).bind (fun c=>some ((c,0))))))
theorem io.ok {a0 : aG} {p2000 : Int} {r : aG × Int} (H : io.f k a0 p2000 = some r) : df Tryz.prog 62 #[.agg (al a0 ag af az ay aw ar av au).toArray,.func (.func 74) #[] #[.pointer (some ⟨bJ,0,none⟩)]] (eK a0 ag af az ay aw ar av au++[aL bJ 21 [aJ p2000]]) (fun v B=>∃ aP aO bA bv bq bp bB bw,v = .tuple #[.agg (al r.1 aP aO bA bv bq bp bB bw).toArray,ae r.2]∧B = (aS r.1 aP aO bA bv bq bp bB bw++[aL bJ 21 [aJ p2000]])):=by
 refine ai Tryz.func62 rfl rfl ?_
 unfold io.f at H
 refine aQ (o' (bN (h:=fun b=>o' (cy (h:=fun s=>ad aV (h:=eJ (l' (ck 5) ?_)))))))
 obtain⟨R,u,H⟩:=ac H
 refine o' (da [0,1,2,3] [0,1,2,3,4,5,6] (rM.ok u) ?_)
 refine ad (ca rfl) (h:=bC ?_)
 rcases bH H with⟨a,H⟩|⟨a,H⟩
 ·refine aC rfl a (aQ (bO (.agg (al cx none 0 none 0 none 0 none 0).toArray) dA (h:=o' (bg s 0 6 (al cx none 0 none 0 none 0 none 0) (h:=ad aV (h:=cE ?_))))))
  have h:=aN H;subst h
  exact lT [.cell 4 34,.tmp 5] ((Gh.nilBuf bE 55).trans ((Gh.nilBuf (Kd.int .i64) 3).trans ((Gh.nilBuf bE 55).trans ((Gh.nilBuf (Kd.int .i32) 21).trans (eY [7,8,9,10,4]))))) ⟨none,0,none,0,none,0,none,0,rfl,rfl⟩ ⟨cR 6,cP,trivial⟩
 refine aD rfl a (ap (aa (aQ (l' (ck 5) ?_))))
 obtain⟨y,z,H⟩:=ac H
 refine o' (dN [0,1,2,3] [0,1,2,3,4,5,6] (lL.ok z) fun D E F I J K L M=>?_)
 refine o' (bg b 0 9 (al y D E F I J K L M) (h:=cV (ad ax (h:=s' (.agg #[aK b]) dA ?_))))
 obtain⟨N,O,H⟩:=ac H
 refine o' (rn [9,0,1,2,3,8] [4,5,6,7,10] (je (vs:=[.agg #[aK b]]) (cap:=[aK bJ]) rfl Tryz.func74 AB rfl rfl) (ko.ok (ba:=b) (gV:=bJ) O) ?_)
 rintro _ _⟨c,d,j,l,m,o,p,q,rfl,rfl⟩
 refine cV (bD (ck 0) (h:=o' (bg s 0 10 (al N c d j l m o p q) (h:=ad aV (h:=cF ?_)))))
 have h:=aN H;subst h
 exact dt [.cell 4 34,.tmp 5] [1,2,3,4,5] ⟨c,d,j,l,m,o,p,q,rfl,rfl⟩ ⟨cR 10,cP,trivial⟩


def xA.f (k : Nat) (a0 : aG) (a1 : Int) : Option (aG × Int):=(io.f k a0 a1).bind (fun a=>some ((a.1,a.2)))
theorem xA.ok {a0 : aG} {a1 : Int} {r : aG × Int} (H : xA.f k a0 a1 = some r) : df Tryz.prog 28 #[.agg (al a0 ag af az ay aw ar av au).toArray,aJ a1] (eK a0 ag af az ay aw ar av au) (fun v B=>∃ aP aO bA bv bq bp bB bw,v = .tuple #[.agg (al r.1 aP aO bA bv bq bp bB bw).toArray,ae r.2]∧B = (aS r.1 aP aO bA bv bq bp bB bw)):=by
 refine ai Tryz.func28 rfl rfl ?_
 unfold xA.f at H
 refine aQ (o' (bN (h:=fun y=>o' (bN (h:=fun p=>o' (cy (h:=fun u=>ad aV (h:=cV (bD (ck 4) (h:=s' (.func (.func 74) #[] #[aK p]) (dy (us:=[aK p]) rfl) ?_))))))))))
 obtain⟨q,s,H⟩:=ac H
 refine o' (dN [0,1,2,3,5] [0,1,2,3,4,6] (io.ok (bJ:=p) s) fun a b c d j l m o=>?_)
 refine ad cg (h:=ad cg (h:=o' (bg u 0 10 (al q.1 a b c d j l m o) (h:=ad aV (h:=cF ?_)))))
 have h:=aN H;subst h
 exact dt [.cell 4 34,.tmp 5] [0,1,2,3] ⟨a,b,c,d,j,l,m,o,rfl,rfl⟩ ⟨cR 10,cP,trivial⟩


def kJ.f (a0 : Int) (a1 : Int) (a2 : Int) : Option (Int):=lt (dO a1 (cC a0 a2)) fun a=>some (a)
theorem kJ.ok {a0 : Int} {a1 : Int} {a2 : Int} {r : Int} (H : kJ.f a0 a1 a2 = some r) : fK Tryz.prog 127 #[ae a0,ae a1,ae a2] [] (ae r):=by
 refine ai Tryz.func127 rfl rfl ?_
 unfold kJ.f at H
 refine aQ (ad aV (h:=cV (ad ax (h:=ad ax (h:=ad ax (h:=bO (ae (cC a0 a2)) (jR rfl rfl) (h:=s' (ae (dO a1 (cC a0 a2))) (nG rfl rfl) ?_)))))))
 obtain⟨a,b,H⟩:=br H
 refine bO (ae a) (bz (v:=ae a) (congrArg (Value.int .i64) b.symm)) (h:=cF ?_)
 have h:=aN H;subst h
 exact er [] ⟨rfl,rfl⟩


def mc.f (a0 : Int) : Option (Int):=(kJ.f a0 (-1024) 1024).bind (fun a=>some (a))
theorem mc.ok {a0 : Int} {r : Int} (H : mc.f a0 = some r) : fK Tryz.prog 128 #[ae a0] [] (ae r):=by
 refine ai Tryz.func128 rfl rfl ?_
 unfold mc.f at H
 refine aQ (ad aV (h:=cV (S' ax ?_)))
 obtain⟨b,a,H⟩:=ac H
 refine o' (da [] [] (kJ.ok a) ?_)
 refine ad aV (h:=cF ?_)
 have h:=aN H;subst h
 exact er [] ⟨rfl,rfl⟩

end Go.Proofs.YtckilbegmbaeeaaGreat.Z3

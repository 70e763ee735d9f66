/- What functions compute, and that they do: 109b0, 51b0, 52b0. -/
import Derived.Test.YtckilbegmbaeeaaGreatZ325
import Derived.Test.YtckilbegmbaeeaaGreatZ326
namespace Go.Proofs.YtckilbegmbaeeaaGreat.Z3
open Go Go.RowKit Go.Proofs.YtckilbegmbaeeaaGreat.SL
open Go.IntKind (i64)
set_option linter.unusedVariables false
set_option maxHeartbeats 20000000
set_option maxRecDepth 100000
set_option linter.unusedSimpArgs false
attribute [local irreducible] IntKind.wrap cC dO eX gp gl lH fU cN gm rd sub bytesOf eG cL
variable {af ay ar au k : Nat}
variable {ag az aw av : Option Addr}
def fB.l1 (r13 : aG × Bool) (x8_34 : Int) : Nat → Bool → Int → Option (Bool)
  | 0,_,_=>none
  | k + 1,b,a=>if a < (r13.1.f7.length : Int) then ((if b = true then (some true) else (if 0 ≤ a∧a < (r13.1.f7.length : Int) then (some (decide ((rd r13.1.f7 a) = x8_34))) else none) : Option Bool).bind (fun c=>lt (i64.wrap (a + 1)) fun n51=>fB.l1 r13 x8_34 k c n51)) else (some b)
def fB.l0 (a1 : Int) (r13 : aG × Bool) : Nat → (List Int) → Int → Option ((List Int))
  | 0,_,_=>none
  | k + 1,b,a=>if a < r13.1.f0.f0 then ((fB.l1 r13 a k false 0 : Option (Bool)).bind (fun c=>(if a1 = 2 then (some true) else (if a1 = 1 then (some (decide (a = r13.1.f2))) else (some false)) : Option Bool).bind (fun d=>(if d = true then (some false) else (some c) : Option (Bool)).bind (fun h=>lt ((decide (a1 = 0)) && (decide (a = r13.1.f2))) fun j=>(if j = true then (some true) else (some h) : Option (Bool)).bind (fun l=>if l = true then (if b.length + ([a] : (List Int)).length ≤ 17592186044416 then lt (b ++ ([a] : (List Int))) fun n73=>(lt (i64.wrap (a + 1)) fun n74=>fB.l0 a1 r13 k n73 n74) else none) else (lt (i64.wrap (a + 1)) fun n75=>fB.l0 a1 r13 k b n75)))))) else (some b)
def fB.f (k : Nat) (a0 : aG) (a1 : Int) : Option (aG × Int):=(eN.f k a0).bind (fun a=>if (!a.2) = true then (some ((a.1,2))) else (lt ((decide (a1 < 0)) || (decide (a1 > 2))) fun b=>if b = true then (some ((a.1,0))) else ((fB.l0 a1 a k ([]) 0 : Option ((List Int))).bind (fun c=>some (((aG.mk a.1.f0 a.1.f1 a.1.f2 a.1.f3 a.1.f4 a.1.f5 a.1.f6 c a.1.f8 a.1.f9 a.1.f10 a.1.f11 a.1.f12 a.1.f13 a.1.f14 a.1.f15 a.1.f16 a.1.f17),0))))))
theorem fB.ok {a0 : aG} {a1 : Int} {r : aG × Int} (H : fB.f k a0 a1 = some r) : df Tryz.prog 51 #[.agg (al a0 ag af az ay aw ar av au).toArray,ae a1] (aS a0 ag af az ay aw ar av au) (fun v B=>∃ aP aO bA bv bq bp bB bw,v = .tuple #[.agg (al r.1 aP aO bA bv bq bp bB bw).toArray,ae r.2]∧B = (aS r.1 aP aO bA bv bq bp bB bw++aS a0 ag af az ay aw ar av au)):=by
 refine ai Tryz.func51 rfl rfl ?_
 unfold fB.f at H
 refine aQ (o' (bN (h:=fun J=>o' (cy (h:=fun F=>ad aV (h:=bC (ao (bj 0 fun g3=>bj 1 fun g0=>bj 2 fun g1=>bj 3 fun g2=>ah ?_))))))))
 refine l' (ck 4) ?_
 obtain⟨a,e2,H⟩:=ac H
 refine o' (dN [0,1,2,3] [4,5] (eN.ok e2) fun d l u y o p q s=>?_)
 refine ad ax (h:=ad cg (h:=ad cg (h:=o' (bg J 0 8 (al a.1 d l u y o p q s) (h:=ad aV (h:=eJ (ad ax (h:=ad (ca rfl) (h:=bC ?_)))))))))
 rcases bH H with⟨a2,H⟩|⟨a2,H⟩
 ·refine aC rfl a2 (aQ (bD (ck 8) (h:=o' (bg F 0 9 (al a.1 d l u y o p q s) (h:=ad aV (h:=cE ?_))))))
  have h:=aN H;subst h
  exact dt [.cell 4 34,.tmp 5] [0,1,2,3,4,5,6,7] ⟨d,l,u,y,o,p,q,s,rfl,rfl⟩ ⟨cR 9,cP,trivial⟩
 refine aD rfl a2 (ap (aa (ao (aQ (ad ax (h:=ad (cn rfl rfl) (h:=S' ax ?_)))))))
 obtain⟨e3,a3,H⟩:=br H
 refine cD 3 (St [(1,ae a1),(2,aK J),(4,aK F),(24,.bool e3)] (aS a0 ag af az ay aw ar av au++(aL J 34 (al a.1 d l u y o p q s)::(aS a.1 d l u y o p q s++[aL F 34 (al cx none 0 none 0 none 0 none 0)])))) ?_ ?_
 ·by_cases O : a1 < 0
  ·refine cI 2 (ak O) (cq (ak O) (h:=aj ?_))
   have x_:=jL a3 ((ak O));exact bM [4,5,6,7,8,0,1,2,3,9]
  refine bn (am O) ax (h:=bn (am O) (eR rfl rfl) (h:=cv (am O) (h:=aj ?_)))
  have x_:=jN a3 ((am O));exact bM [4,5,6,7,8,0,1,2,3,9]
 rintro e ds As c5
 refine bC (SA.of_St c5 fun junk=>?_)
 rcases bH H with⟨a4,H⟩|⟨a4,H⟩
 ·refine aC rfl a4 (aQ (bD (ck 4) (h:=o' (bg F 0 9 (al a.1 d l u y o p q s) (h:=ad aV (h:=cE ?_))))))
  have h:=aN H;subst h
  exact dt [.cell 4 34,.tmp 5] [5,6,7,8,0,1,2,3] ⟨d,l,u,y,o,p,q,s,rfl,rfl⟩ ⟨cR 9,cP,trivial⟩
 refine aD rfl a4 (ap (aa (aQ (ad aV (h:=eJ (ad aV (h:=bC ?_)))))))
 obtain⟨Y,H,a5⟩:=ac H
 refine bI (fun e ds As=>∃ (R : Option Addr) (S : Nat),St [(2,aK J),(4,aK F),(7,.slice R Y.length S)] (fm 3 R S Y::(aS a0 ag af az ay aw ar av au++(aL J 34 (al a.1 d l u y o p q s)::(aS a.1 d l u y o p q s++[aL F 34 (al cx none 0 none 0 none 0 none 0)])))) e ds As) ?_ ?_
 ·refine aU (cw (fun k_ e ds As=>∃ (b : (List Int)) (z : Int),∃ (D : Option Addr) (E : Nat),fB.l0 a1 a k_ b z = some Y∧St [(1,ae a1),(2,aK J),(4,aK F),(7,.slice D b.length E),(8,ae z)] (aS a0 ag af az ay aw ar av au++(aL J 34 (al a.1 d l u y o p q s)::(aS a.1 d l u y o p q s++[aL F 34 (al cx none 0 none 0 none 0 none 0),fm 3 D E b]))) e ds As) (k:=k) ⟨_,_,none,0,H,St.mk1 (cJ rfl (cJ rfl (cJ rfl (cJ rfl (cJ rfl dQ))))) ((Gh.nilBuf (Kd.int .i64) 3).trans (eY [0,1,2,3,4,5,6,7,8,9,10]))⟩ ?_)
  clear H
  rintro Z e ds As ⟨b,z,D,E,H,c6⟩
  obtain _ | Z:=Z
  ·cases H
  rw [fB.l0] at H
  refine SA.of_St c6 fun junk=>ao (aQ (ad ax (h:=ad aE (h:=ad aE (h:=bD (aT 4) (h:=ad (cn rfl rfl) (h:=bC ?_)))))))
  rcases bH H with⟨a6,H⟩|⟨a6,H⟩
  ·refine aB rfl a6 (ap (aa (ao (aU (aQ (ad aV (h:=eJ (ad aV (h:=bC ?_)))))))))
   obtain⟨a7,H,a8⟩:=ac H
   refine bI (St [(1,ae a1),(2,aK J),(4,aK F),(7,.slice D b.length E),(8,ae z),(9,.bool a7)] (aS a0 ag af az ay aw ar av au++(aL J 34 (al a.1 d l u y o p q s)::(aS a.1 d l u y o p q s++[aL F 34 (al cx none 0 none 0 none 0 none 0),fm 3 D E b])))) ?_ ?_
   ·refine aU (cw (fun k_ e ds As=>∃ (U : Bool) (I : Int),fB.l1 a z k_ U I = some a7∧St [(1,ae a1),(2,aK J),(4,aK F),(7,.slice D b.length E),(8,ae z),(9,.bool U),(10,ae I)] (aS a0 ag af az ay aw ar av au++(aL J 34 (al a.1 d l u y o p q s)::(aS a.1 d l u y o p q s++[aL F 34 (al cx none 0 none 0 none 0 none 0),fm 3 D E b]))) e ds As) (k:=Z) ⟨_,_,H,kW [0,1,2,3,4,5,6,7,8,9,10]⟩ ?_)
    clear H
    rintro a9 e ds As ⟨U,I,H,c7⟩
    obtain _ | a9:=a9
    ·cases H
    rw [fB.l1] at H
    refine SA.of_St c7 fun junk=>ao (aQ (ad ax (h:=ad aE (h:=bD (aT 4) (h:=bO (ae (a.1.f7.length : Int)) (dB Tryz.underlying29 rfl) (h:=ad (cn rfl rfl) (h:=bC ?_)))))))
    rcases bH H with⟨b0,H⟩|⟨b0,H⟩
    ·refine aB rfl b0 (ap (aa (ao (aU (ah (ad ax (h:=S' ax ?_)))))))
     obtain⟨e4,H,d7⟩:=ac H
     refine eg 8 [(1,ae a1),(2,aK J),(4,aK F),(7,.slice D b.length E),(8,ae z),(10,ae I),(49,.bool e4)] (aS a0 ag af az ay aw ar av au++(aL J 34 (al a.1 d l u y o p q s)::(aS a.1 d l u y o p q s++[aL F 34 (al cx none 0 none 0 none 0 none 0),fm 3 D E b]))) ?_ fun junk=>?_
     ·rcases bH H with⟨K,H⟩|⟨K,H⟩
      ·refine cI 7 K (ii K ?_)
       have h:=aN H;subst h
       exact dV [0,1,2,3,4,5,6,7,8,9,10]
      refine bn (aX K) aE (h:=dc (aX K) (aT 4) (h:=Y' (aX K) ax ?_))
      obtain⟨⟨d4,d5⟩,H⟩:=aR H
      refine dc (aX K) (bK (i:=I) Tryz.underlying29 jG rfl rfl (Src.buf (k:=6) rfl) d4 d5) (h:=dc (aX K) (bQ (enc:=(fun x_ : Int=>[Value.int .i64 x_])) (i:=I) (j:=I.toNat * 1) (m:=0) (sz:=1) Tryz.underlying3 rfl rfl rfl rfl (Src.buf (k:=6) rfl) d4 d5 (fun _ _ h=>h) rfl) (h:=bn (aX K) ax (h:=bn (aX K) (bk rfl rfl) (h:=gL (aX K) ?_))))
      have h:=aN H;subst h
      exact dV [0,1,2,3,4,5,6,7,8,9,10]
     replace H:=d7
     refine ad aV (h:=aj (aF (aa (ah (ad ax (h:=S' (bV rfl rfl) ?_))))))
     obtain⟨n51,d8,H⟩:=br H
     refine bO (ae n51) (bz (v:=ae n51) (congrArg (Value.int .i64) d8.symm)) (h:=aj ?_)
     exact aa ⟨a9,Nat.lt_succ_self _,_,_,H,ed [0,1,2,3,4,5,6,7,8,9,10]⟩
    refine aA rfl b0 (ct (bc (bc (cr ?_))))
    have h:=aN H;subst h
    exact bM [0,1,2,3,4,5,6,7,8,9,10]
   rintro e ds As c8
   clear H
   have H:=a8
   clear a8
   refine aa (SA.of_St c8 fun junk=>ao (aQ (ad ax (h:=ad (bk rfl rfl) (h:=S' ax ?_)))))
   obtain⟨e5,H,b1⟩:=ac H
   refine cD 9 (St [(1,ae a1),(2,aK J),(4,aK F),(7,.slice D b.length E),(8,ae z),(9,.bool a7),(61,.bool e5)] (aS a0 ag af az ay aw ar av au++(aL J 34 (al a.1 d l u y o p q s)::(aS a.1 d l u y o p q s++[aL F 34 (al cx none 0 none 0 none 0 none 0),fm 3 D E b])))) ?_ ?_
   ·rcases bH H with⟨L,H⟩|⟨L,H⟩
    ·refine cI 3 (ak L) (gj (gj (gj (gj (cI 1 (ak L) (ii (ak L) ?_))))))
     have h:=aN H;subst h
     exact dV [0,1,2,3,4,5,6,7,8,9,10]
    refine bn (am L) ax (h:=bn (am L) (bk rfl rfl) (h:=Y' (am L) ax ?_))
    rcases bH H with⟨N,H⟩|⟨N,H⟩
    ·refine bn (ak N) ax (h:=bn (ak N) aE (h:=dc (ak N) (aT 4) (h:=bn (ak N) (bk rfl rfl) (h:=gE (am L) (dl rfl (bX rfl (ak N) rfl) (gL (am L) ?_))))))
     have h:=aN H;subst h
     exact dV [0,1,2,3,4,5,6,7,8,9,10]
    refine cI 4 (am N) (gE (am L) (dl rfl (bY rfl (am N) rfl) (gL (am L) ?_)))
    have h:=aN H;subst h
    exact dV [0,1,2,3,4,5,6,7,8,9,10]
   rintro e ds As c9
   clear H
   have H:=b1
   clear b1
   refine bC (SA.of_St c9 fun junk=>?_)
   obtain⟨d6,H,b2⟩:=ac H
   refine bI (St [(1,ae a1),(2,aK J),(4,aK F),(7,.slice D b.length E),(8,ae z),(9,.bool d6)] (aS a0 ag af az ay aw ar av au++(aL J 34 (al a.1 d l u y o p q s)::(aS a.1 d l u y o p q s++[aL F 34 (al cx none 0 none 0 none 0 none 0),fm 3 D E b])))) ?_ ?_
   ·rcases bH H with⟨b3,H⟩|⟨b3,H⟩
    ·refine aC rfl b3 (ah (ad aV (h:=aj ?_)))
     have h:=aN H;subst h
     exact bM [0,1,2,3,4,5,6,7,8,9,10]
    refine aD rfl b3 (ap ?_)
    have h:=aN H;subst h
    exact bM [0,1,2,3,4,5,6,7,8,9,10]
   rintro e ds As d0
   clear H
   have H:=b2
   clear b2
   refine aa (SA.of_St d0 fun junk=>ao (aQ (ad ax (h:=ad (bk rfl rfl) (h:=S' ax ?_)))))
   obtain⟨e6,b4,H⟩:=br H
   refine cD 5 (St [(1,ae a1),(2,aK J),(4,aK F),(7,.slice D b.length E),(8,ae z),(9,.bool d6),(69,.bool e6)] (aS a0 ag af az ay aw ar av au++(aL J 34 (al a.1 d l u y o p q s)::(aS a.1 d l u y o p q s++[aL F 34 (al cx none 0 none 0 none 0 none 0),fm 3 D E b])))) ?_ ?_
   ·by_cases M : a1 = 0
    ·refine bn (ak M) ax (h:=bn (ak M) aE (h:=dc (ak M) (aT 4) (h:=bn (ak M) (bk rfl rfl) (h:=cq (ak M) (h:=aj ?_)))))
     have x_:=gD b4 ((ak M));exact bM [0,1,2,3,4,5,6,7,8,9,10]
    refine cI 4 (am M) (cv (am M) (h:=aj ?_))
    have x_:=gC b4 ((am M));exact bM [0,1,2,3,4,5,6,7,8,9,10]
   rintro e ds As d1
   refine bC (SA.of_St d1 fun junk=>?_)
   obtain⟨e7,H,b6⟩:=ac H
   refine bI (St [(1,ae a1),(2,aK J),(4,aK F),(7,.slice D b.length E),(8,ae z),(9,.bool e7)] (aS a0 ag af az ay aw ar av au++(aL J 34 (al a.1 d l u y o p q s)::(aS a.1 d l u y o p q s++[aL F 34 (al cx none 0 none 0 none 0 none 0),fm 3 D E b])))) ?_ ?_
   ·rcases bH H with⟨b8,H⟩|⟨b8,H⟩
    ·refine aC rfl b8 (ah (ad aV (h:=aj ?_)))
     have h:=aN H;subst h
     exact bM [0,1,2,3,4,5,6,7,8,9,10]
    refine aD rfl b8 (ap ?_)
    have h:=aN H;subst h
    exact bM [0,1,2,3,4,5,6,7,8,9,10]
   rintro e ds As d2
   clear H
   have H:=b6
   clear b6
   refine aa (SA.of_St d2 fun junk=>aQ (ad ax (h:=bC ?_)))
   rcases bH H with⟨b9,H⟩|⟨b9,H⟩
   ·refine aC rfl b9 (ah (ad ax (h:=ad ax (h:=o' (hU (kd:=(Kd.int .i64)) (zv:=(ae 0)) (sz:=1) (cells:=[ae z]) (xs:=([z] : (List Int))) rfl Tryz.underlying29 ot jG rfl rfl rfl (by kernel_rfl) rfl rfl (dL (fun x_ : Int=>[Value.int .i64 x_]) (fun _ _=>rfl) (by kernel_rfl)) fun g4=>?_)))))
    obtain⟨g5,H⟩:=aR H
    obtain⟨n73,d9,H⟩:=br H
    refine o' (gZ (k:=10) (A:=D) (c:=E) (xs:=b) (ys:=([z] : (List Int))) n73 d9 rfl Tryz.underlying29 qA rfl rfl rfl rfl rfl (oe.slice Tryz.underlying29 (Src.buf (k:=11) rfl)) (by omega) (by omega) fun e8 e9=>ad aV (h:=aj (aF (aa (ah (ad ax (h:=S' (bV rfl rfl) ?_)))))))
    obtain⟨n74,e0,H⟩:=br H
    refine bO (ae n74) (bz (v:=ae n74) (congrArg (Value.int .i64) e0.symm)) (h:=aj ?_)
    exact aa ⟨Z,Nat.lt_succ_self _,_,_,e8,e9,H,ed [0,1,2,3,4,5,6,7,8,9,10]⟩
   refine aD rfl b9 (ap (aF (aa (ah (ad ax (h:=S' (bV rfl rfl) ?_))))))
   obtain⟨n75,e1,H⟩:=br H
   refine bO (ae n75) (bz (v:=ae n75) (congrArg (Value.int .i64) e1.symm)) (h:=aj ?_)
   exact aa ⟨Z,Nat.lt_succ_self _,_,_,D,E,H,ed [0,1,2,3,4,5,6,7,8,9,10]⟩
  refine aA rfl a6 (ct (bc (bc (cr ?_))))
  have h:=aN H;subst h
  exact aa ⟨D,E,ed [10,0,1,2,3,4,5,6,7,8,9]⟩
 rintro e ds As ⟨R,S,d3⟩
 clear H
 have H:=a5
 clear a5
 refine aa (SA.of_St d3 fun junk=>aQ (ad ax (h:=ad aE (h:=o' (cH 5 [.slice R Y.length S] (h:=(cV (bD (ck 5) (h:=o' (bg F 0 10 (al (aG.mk a.1.f0 a.1.f1 a.1.f2 a.1.f3 a.1.f4 a.1.f5 a.1.f6 Y a.1.f8 a.1.f9 a.1.f10 a.1.f11 a.1.f12 a.1.f13 a.1.f14 a.1.f15 a.1.f16 a.1.f17) d l R S o p q s) (h:=S' aV ?_)))))))))))
 refine cF ?_
 have h:=aN H;subst h
 exact dt [.cell 4 34,.tmp 5] [6,0,8,9,1,2,3,4] ⟨d,l,R,S,o,p,q,s,rfl,rfl⟩ ⟨cR 10,cP,trivial⟩


def oB.f (k : Nat) (a0 : aG) (a1 : Int) : Option (aG × Int):=(eN.f k a0).bind (fun a=>if (!a.2) = true then (some ((a.1,2))) else ((lr.f a.1.f2 (dO 0 a1) a.1.f2 a.1.f0.f0).bind (fun c=>(fo.f k a.1.f0 a.1.f1 a.1.f2 c a.1.f4).bind (fun b=>some (((aG.mk b.1 a.1.f1 a.1.f2 false a.1.f4 a.1.f5 a.1.f6 a.1.f7 a.1.f8 a.1.f9 a.1.f10 a.1.f11 a.1.f12 a.1.f13 a.1.f14 a.1.f15 a.1.f16 a.1.f17),0))))))
theorem oB.ok {a0 : aG} {a1 : Int} {r : aG × Int} (H : oB.f k a0 a1 = some r) : df Tryz.prog 52 #[.agg (al a0 ag af az ay aw ar av au).toArray,ae a1] (aS a0 ag af az ay aw ar av au) (fun v B=>∃ aP aO bA bv bq bp bB bw,v = .tuple #[.agg (al r.1 aP aO bA bv bq bp bB bw).toArray,ae r.2]∧B = (aS r.1 aP aO bA bv bq bp bB bw++aS a0 ag af az ay aw ar av au)):=by
 refine ai Tryz.func52 rfl rfl ?_
 unfold oB.f at H
 refine aQ (o' (bN (h:=fun u=>o' (cy (h:=fun y=>ad aV (h:=bC (ao (bj 0 fun Y=>bj 1 fun K=>bj 2 fun L=>bj 3 fun M=>ah ?_))))))))
 refine l' (ck 4) ?_
 obtain⟨a,F,H⟩:=ac H
 refine o' (dN [0,1,2,3] [4,5] (eN.ok F) fun z D j m o p q s=>?_)
 refine ad ax (h:=ad cg (h:=ad cg (h:=o' (bg u 0 8 (al a.1 z D j m o p q s) (h:=ad aV (h:=eJ (ad ax (h:=ad (ca rfl) (h:=bC ?_)))))))))
 rcases bH H with⟨E,H⟩|⟨E,H⟩
 ·refine aC rfl E (aQ (bD (ck 8) (h:=o' (bg y 0 9 (al a.1 z D j m o p q s) (h:=ad aV (h:=cE ?_))))))
  have h:=aN H;subst h
  exact dt [.cell 4 34,.tmp 5] [0,1,2,3,4,5,6,7] ⟨z,D,j,m,o,p,q,s,rfl,rfl⟩ ⟨cR 9,cP,trivial⟩
 refine aD rfl E (ap (aa (ao (bj 0 fun N=>bj 1 fun O=>bj 2 fun R=>bj 3 fun S=>?_))))
 refine fk (0::1::2::3::4::5::6::7::8::9::10::11::12::13::14::16::17::19::[]) [8] [0,1,2,3,4,5,6,7,9] fun _ _ _ _ _ sH dd pk=>?_
 refine bf 0 rfl sH aE (h:=bT 1 rfl sH (cG u 0 0 [ae a.1.f0.f0,ae a.1.f0.f1,.slice z a.1.f0.f2.length D]) (h:=bf 2 rfl sH aE (h:=bT 3 rfl sH (aT 0) (h:=bf 4 rfl sH aE (h:=bT 5 rfl sH (aT 0) (h:=bf 6 rfl sH aE (h:=bT 7 rfl sH (aT 0) (h:=bf 8 rfl sH ax (h:=t' (ae (dO 0 a1)) 9 rfl sH (nG rfl rfl) ?_)))))))))
 refine bf 10 rfl sH aE (h:=bT 11 rfl sH (aT 0) (h:=bf 12 rfl sH aE (h:=bf 13 rfl sH aE (h:=bT 14 rfl sH (aT 0) (h:=bf 16 rfl sH aE (h:=r' 17 rfl sH (cG u 6 0 (bG a.1.f4)) ?_))))))
 obtain⟨U,J,H⟩:=ac H
 refine dx 15 rfl dd (da [] [0,1,2,3,4,5,6,7,8] (lr.ok J) ?_)
 obtain⟨b,I,H⟩:=ac H
 refine dx 18 rfl dd (gu [0] [1,2,3,4,5,6,7,8] (fo.ok I) fun c d=>?_)
 refine T' 19 rfl sH ax ?_
 refine gM (rs:=[20,21]) dd (by kernel_rfl) (by decide) (bx ⟨_,rfl,(.no rfl),?_⟩ (bx ⟨_,rfl,(.no rfl),?_⟩ cO))
 ·refine id (dl (v:=.agg #[ae b.1.f0,ae b.1.f1,.slice c b.1.f2.length d]) rfl cg ?_)
  refine gM (rs:=[21,22]) dd (by kernel_rfl) (by decide) (bx ⟨_,rfl,(.no rfl),?_⟩ (bx ⟨_,rfl,(.no rfl),?_⟩ cO))
  ·refine id (dl (v:=ae b.2) rfl cg (dx 22 rfl dd (dl (v:=aK u) rfl (kB u 0 0) (aW dd sH (ey 23 rfl (cH 0 [ae b.1.f0,ae b.1.f1,.slice c b.1.f2.length d] (h:=(aH (by kernel_rfl) (aa (SA.of_St (l:=[(2,aK u),(4,aK y)]) (B:=(aS a0 ag af az ay aw ar av au++[aL u 34 (al (aG.mk b.1 a.1.f1 a.1.f2 a.1.f3 a.1.f4 a.1.f5 a.1.f6 a.1.f7 a.1.f8 a.1.f9 a.1.f10 a.1.f11 a.1.f12 a.1.f13 a.1.f14 a.1.f15 a.1.f16 a.1.f17) c d j m o p q s),Buf bE 55 c d b.1.f2,fm 3 j m a.1.f7,Buf bE 55 o p a.1.f16.f2,jf 21 q s a.1.f17,aL y 34 (al cx none 0 none 0 none 0 none 0)])) (St.mk1 (cJ rfl (cJ rfl dQ)) (Gh.sel [6,7,8,9,0,1,3,4,5,10] (by kernel_rfl) (by kernel_rfl))) fun junk=>aQ (ad aE (h:=o' (cH 4 [.bool false] (h:=?_))))))))))))))
   refine cV (bD (ck 4) (h:=o' (bg y 0 9 (al (aG.mk b.1 a.1.f1 a.1.f2 false a.1.f4 a.1.f5 a.1.f6 a.1.f7 a.1.f8 a.1.f9 a.1.f10 a.1.f11 a.1.f12 a.1.f13 a.1.f14 a.1.f15 a.1.f16 a.1.f17) c d j m o p q s) (h:=ad aV (h:=cF ?_)))))
   have h:=aN H;subst h
   exact dt [.cell 4 34,.tmp 5] [5,6,7,8,0,1,2,3] ⟨c,d,j,m,o,p,q,s,rfl,rfl⟩ ⟨cR 9,cP,trivial⟩
  refine id (dl (v:=aK u) rfl (kB u 0 0) (aW dd sH ?_))
  refine eu (rs:=[21,23]) (by kernel_rfl) (by decide) (bx ⟨rfl,_,rfl,(.no rfl),?_⟩ (bx ⟨rfl,_,rfl,(.no rfl),?_⟩ cO))
  ·refine id (dl (v:=ae b.2) rfl cg (ey 23 rfl (cH 0 [ae b.1.f0,ae b.1.f1,.slice c b.1.f2.length d] (h:=(aH (by kernel_rfl) (aa (SA.of_St (l:=[(2,aK u),(4,aK y)]) (B:=(aS a0 ag af az ay aw ar av au++[aL u 34 (al (aG.mk b.1 a.1.f1 a.1.f2 a.1.f3 a.1.f4 a.1.f5 a.1.f6 a.1.f7 a.1.f8 a.1.f9 a.1.f10 a.1.f11 a.1.f12 a.1.f13 a.1.f14 a.1.f15 a.1.f16 a.1.f17) c d j m o p q s),Buf bE 55 c d b.1.f2,fm 3 j m a.1.f7,Buf bE 55 o p a.1.f16.f2,jf 21 q s a.1.f17,aL y 34 (al cx none 0 none 0 none 0 none 0)])) (St.mk1 (cJ rfl (cJ rfl dQ)) (Gh.sel [6,7,8,9,0,1,3,4,5,10] (by kernel_rfl) (by kernel_rfl))) fun junk=>aQ (ad aE (h:=o' (cH 4 [.bool false] (h:=(cV (l' (ck 4) ?_)))))))))))))
   refine o' (bg y 0 9 (al (aG.mk b.1 a.1.f1 a.1.f2 false a.1.f4 a.1.f5 a.1.f6 a.1.f7 a.1.f8 a.1.f9 a.1.f10 a.1.f11 a.1.f12 a.1.f13 a.1.f14 a.1.f15 a.1.f16 a.1.f17) c d j m o p q s) (h:=ad aV (h:=cF ?_)))
   have h:=aN H;subst h
   exact dt [.cell 4 34,.tmp 5] [5,6,7,8,0,1,2,3] ⟨c,d,j,m,o,p,q,s,rfl,rfl⟩ ⟨cR 9,cP,trivial⟩
  refine id (cH 0 [ae b.1.f0,ae b.1.f1,.slice c b.1.f2.length d] (h:=(ey 21 rfl (dl (v:=ae b.2) rfl cg (aH (by kernel_rfl) (aa (SA.of_St (l:=[(2,aK u),(4,aK y)]) (B:=(aS a0 ag af az ay aw ar av au++[aL u 34 (al (aG.mk b.1 a.1.f1 a.1.f2 a.1.f3 a.1.f4 a.1.f5 a.1.f6 a.1.f7 a.1.f8 a.1.f9 a.1.f10 a.1.f11 a.1.f12 a.1.f13 a.1.f14 a.1.f15 a.1.f16 a.1.f17) c d j m o p q s),Buf bE 55 c d b.1.f2,fm 3 j m a.1.f7,Buf bE 55 o p a.1.f16.f2,jf 21 q s a.1.f17,aL y 34 (al cx none 0 none 0 none 0 none 0)])) (St.mk1 (cJ rfl (cJ rfl dQ)) (Gh.sel [6,7,8,9,0,1,3,4,5,10] (by kernel_rfl) (by kernel_rfl))) fun junk=>aQ (ad aE (h:=o' (cH 4 [.bool false] (h:=(cV (l' (ck 4) ?_)))))))))))))
  refine o' (bg y 0 9 (al (aG.mk b.1 a.1.f1 a.1.f2 false a.1.f4 a.1.f5 a.1.f6 a.1.f7 a.1.f8 a.1.f9 a.1.f10 a.1.f11 a.1.f12 a.1.f13 a.1.f14 a.1.f15 a.1.f16 a.1.f17) c d j m o p q s) (h:=ad aV (h:=cF ?_)))
  have h:=aN H;subst h
  exact dt [.cell 4 34,.tmp 5] [5,6,7,8,0,1,2,3] ⟨c,d,j,m,o,p,q,s,rfl,rfl⟩ ⟨cR 9,cP,trivial⟩
 refine id (dl (v:=ae b.2) rfl cg (dx 20 rfl dd (dl (v:=.agg #[ae b.1.f0,ae b.1.f1,.slice c b.1.f2.length d]) rfl cg (dx 22 rfl dd (dl (v:=aK u) rfl (kB u 0 0) (aW dd sH (ey 23 rfl (cH 0 [ae b.1.f0,ae b.1.f1,.slice c b.1.f2.length d] (h:=(aH (by kernel_rfl) (aa (SA.of_St (l:=[(2,aK u),(4,aK y)]) (B:=(aS a0 ag af az ay aw ar av au++[aL u 34 (al (aG.mk b.1 a.1.f1 a.1.f2 a.1.f3 a.1.f4 a.1.f5 a.1.f6 a.1.f7 a.1.f8 a.1.f9 a.1.f10 a.1.f11 a.1.f12 a.1.f13 a.1.f14 a.1.f15 a.1.f16 a.1.f17) c d j m o p q s),Buf bE 55 c d b.1.f2,fm 3 j m a.1.f7,Buf bE 55 o p a.1.f16.f2,jf 21 q s a.1.f17,aL y 34 (al cx none 0 none 0 none 0 none 0)])) (St.mk1 (cJ rfl (cJ rfl dQ)) (Gh.sel [6,7,8,9,0,1,3,4,5,10] (by kernel_rfl) (by kernel_rfl))) fun junk=>aQ (S' aE ?_)))))))))))))
 refine o' (cH 4 [.bool false] (h:=(cV (bD (ck 4) (h:=o' (bg y 0 9 (al (aG.mk b.1 a.1.f1 a.1.f2 false a.1.f4 a.1.f5 a.1.f6 a.1.f7 a.1.f8 a.1.f9 a.1.f10 a.1.f11 a.1.f12 a.1.f13 a.1.f14 a.1.f15 a.1.f16 a.1.f17) c d j m o p q s) (h:=ad aV (h:=cF ?_))))))))
 have h:=aN H;subst h
 exact dt [.cell 4 34,.tmp 5] [5,6,7,8,0,1,2,3] ⟨c,d,j,m,o,p,q,s,rfl,rfl⟩ ⟨cR 9,cP,trivial⟩


def fP.l0 (a0 : bF) (a2 : Int) (r12 : bF × Int) : Nat → Int → (List aZ) → Option ((List aZ))
  | 0,_,_=>none
  | k + 1,b,a=>if a.length = r12.1.f2.length then (if b < (cC a2 a0.f1) then ((dk.f (bF.mk r12.1.f0 r12.1.f1 a) b).bind (fun d=>if (0 ≤ d.1∧0 ≤ d.2∧d.1 + d.2 ≤ (a.length : Int)) then ((dk.f a0 b).bind (fun c=>if (0 ≤ c.1∧0 ≤ c.2∧c.1 + c.2 ≤ (a0.f2.length : Int)) then (lt (bo a d.1.toNat ((sub a0.f2 c.1 (c.1 + c.2)).take d.2.toNat)) fun j=>((dk.f (bF.mk r12.1.f0 r12.1.f1 j) b).bind (fun h=>if (0 ≤ h.1∧0 ≤ h.2∧h.1 + h.2 ≤ (j.length : Int)) then ((eD.f k j h.1 h.2).bind (fun l=>if l.length = j.length then (lt (i64.wrap (b + 1)) fun m=>fP.l0 a0 a2 r12 k m l) else none)) else none))) else none)) else none)) else (some a)) else none
def fP.f (k : Nat) (a0 : bF) (a1 : Int) (a2 : Int) (a3 : cA) : Option (bF × Int):=(gi.f k a0).bind (fun c=>if (!c) = true then (some (((bF.mk 0 0 ([] : (List aZ))),2))) else ((pw.f k a1 a2 a3).bind (fun a=>if a.2 ≠ 0 then (some (((bF.mk 0 0 ([] : (List aZ))),a.2))) else ((fP.l0 a0 a2 a k 0 a.1.f2 : Option ((List aZ))).bind (fun b=>if b.length = a.1.f2.length then (some (((bF.mk a.1.f0 a.1.f1 b),0))) else none)))))
theorem fP.ok {a0 : bF} {a1 : Int} {a2 : Int} {a3 : cA} {r : bF × Int} (H : fP.f k a0 a1 a2 a3 = some r) : df Tryz.prog 109 #[.agg #[ae a0.f0,ae a0.f1,.slice ag a0.f2.length af],ae a1,ae a2,.agg (bG a3).toArray] [Buf bE 55 ag af a0.f2] (fun v B=>∃ aP aO,v = .tuple #[.agg #[ae r.1.f0,ae r.1.f1,.slice aP r.1.f2.length aO],ae r.2]∧B = [Buf bE 55 aP aO r.1.f2,Buf bE 55 ag af a0.f2]):=by
 refine ai Tryz.func109 rfl rfl ?_
 unfold fP.f at H
 refine aQ (o' (bN (h:=fun N=>o' (bN (h:=fun b4=>o' (cy (h:=fun q=>ad aV (h:=bC (ao (ao (bj 0 fun c8=>ah (l' (cG N 0 1 [ae a0.f0,ae a0.f1,.slice ag a0.f2.length af]) ?_))))))))))))
 obtain⟨r9,a4,H⟩:=ac H
 refine o' (da [0] [1,2,3] (gi.ok a4) ?_)
 refine ad (ca rfl) (h:=bC ?_)
 rcases bH H with⟨z,H⟩|⟨z,H⟩
 ·refine aC rfl z (aQ (bO (.agg #[ae 0,ae 0,.slice none 0 0]) dA (h:=o' (bg q 0 3 [ae 0,ae 0,.slice none 0 0] (h:=ad aV (h:=cE ?_))))))
  have h:=aN H;subst h
  exact lT [.cell 8 26,.tmp 9] ((Gh.nilBuf bE 55).trans (eY [4,0])) ⟨none,0,rfl,rfl⟩ ⟨cR 3,cP,trivial⟩
 refine aD rfl z (ap (aa (aQ (ad ax (h:=ad ax (h:=l' (ck 2) ?_))))))
 obtain⟨b,a5,H⟩:=ac H
 refine o' (gu [] [0,1,2,3] (pw.ok a5) fun c d=>?_)
 refine ad ax (h:=ad cg (h:=ad cg (h:=o' (cy (h:=fun j=>o' (bg j 0 5 [ae b.1.f0,ae b.1.f1,.slice c b.1.f2.length d] (h:=ad aV (h:=eJ (ad ax (h:=ad (dK rfl rfl) (h:=bC ?_)))))))))))
 rcases bH H with⟨D,H⟩|⟨D,H⟩
 ·refine aB rfl D (aQ (bO (.agg #[ae 0,ae 0,.slice none 0 0]) dA (h:=ad ax (h:=o' (bg q 0 4 [ae 0,ae 0,.slice none 0 0] (h:=ad aV (h:=cE ?_)))))))
  have h:=aN H;subst h
  exact lT [.cell 8 26,.tmp 9] ((Gh.nilBuf bE 55).trans (eY [6,1])) ⟨none,0,rfl,rfl⟩ ⟨cR 4,cP,trivial⟩
 refine aA rfl D (ap (aa (ao (aQ (ad aV (h:=bC ?_))))))
 obtain⟨p,H,E⟩:=ac H
 refine bI (St [(8,aK q),(10,aK j)] [Buf bE 55 ag af a0.f2,aL q 26 [ae 0,ae 0,.slice none 0 0],aL j 26 [ae b.1.f0,ae b.1.f1,.slice c p.length d],Buf bE 55 c d p]) ?_ ?_
 ·refine aU (cw (fun k_ e ds As=>∃ (o : Int) (a : (List aZ)),fP.l0 a0 a2 b k_ o a = some p∧St [(2,ae a2),(4,aK N),(8,aK q),(10,aK j),(12,ae o)] [Buf bE 55 ag af a0.f2,aL N 26 [ae a0.f0,ae a0.f1,.slice ag a0.f2.length af],aL q 26 [ae 0,ae 0,.slice none 0 0],aL j 26 [ae b.1.f0,ae b.1.f1,.slice c a.length d],Buf bE 55 c d a] e ds As) (k:=k) ⟨_,_,H,kW [1,2,4,5,0]⟩ ?_)
  clear H
  rintro F e ds As ⟨o,a,H,O⟩
  obtain _ | F:=F
  ·cases H
  rw [fP.l0] at H
  obtain⟨b3,H⟩:=aR H
  refine SA.of_St O fun junk=>ao (aQ (ad ax (h:=ad ax (h:=ad aE (h:=bD (aT 1) (h:=bO (ae (cC a2 a0.f1)) (jR rfl rfl) (h:=ad (cn rfl rfl) (h:=bC ?_))))))))
  rcases bH H with⟨I,H⟩|⟨I,H⟩
  ·refine aB rfl I (ap (aa (ao (aU (ao (bj 4 fun b7=>?_))))))
   refine fk [0,1,3,4] [1,3] [0,2,4] fun _ _ _ _ _ sH dd pk=>?_
   refine bT 0 rfl sH (cG j 0 1 [ae b.1.f0,ae b.1.f1,.slice c a.length d]) (h:=bf 1 rfl sH ax (h:=bT 3 rfl sH (cG N 0 0 [ae a0.f0,ae a0.f1,.slice ag a0.f2.length af]) (h:=T' 4 rfl sH ax ?_)))
   obtain⟨J,a6,H⟩:=ac H
   obtain⟨⟨hl149a,hl149b,hl149c⟩,H⟩:=aR H
   refine dx 2 rfl dd (mC [2] [0,1] (dk.ok a6) ?_)
   rintro _ _⟨b8,b9,R,rfl,rfl⟩
   obtain⟨s,a7,H⟩:=ac H
   obtain⟨⟨hl329a,hl329b,hl329c⟩,H⟩:=aR H
   refine dx 5 rfl dd (mC [1] [0,2] (dk.ok a7) ?_)
   rintro _ _⟨c5,c6,S,rfl,rfl⟩
   obtain⟨u,y,H⟩:=br H
   have hl_n385 : u.length = a.length:=by rw [y]; exact eM (by rw [List.length_take]; omega)
   refine dx 6 rfl dd (fY (k:=1) (l:=J.1) (m:=J.2) (xs:=a) (ys:=sub a0.f2 s.1 (s.1 + s.2)) u y R rfl Tryz.underlying24 cl rfl rfl rfl (by omega) rfl (pO.win (Src.buf (k:=0) rfl) S rfl (by omega)) ?_)
   try unfold bG
   try rewrite [← hl_n385]
   try unfold bG at sH
   try rewrite [← hl_n385] at sH
   refine aW dd sH (aH (by kernel_rfl) (aa (ah (bD (cG j 0 1 [ae b.1.f0,ae b.1.f1,.slice c u.length d]) (h:=S' ax ?_)))))
   obtain⟨K,a8,H⟩:=ac H
   obtain⟨⟨hl450a,hl450b,hl450c⟩,H⟩:=aR H
   refine o' (mC [3] [0,1,2,4] (dk.ok a8) ?_)
   rintro _ _⟨a9,b0,U,rfl,rfl⟩
   obtain⟨c7,b1,H⟩:=ac H
   obtain⟨Y,H⟩:=aR H
   refine o' (da [0] [1,2,3,4] (eD.ok (o0:=K.1) (n0:=K.2) (A0:=c) (c0:=d) (V0:=a9) (v0:=b0) (hw0:=U) b1) ?_)
   try unfold bG
   try rewrite [← Y]
   refine aj (aF (aa (ah (ad ax (h:=S' (bV rfl rfl) ?_)))))
   obtain⟨L,Z,H⟩:=br H
   refine bO (ae L) (bz (v:=ae L) (congrArg (Value.int .i64) Z.symm)) (h:=aj ?_)
   exact aa ⟨F,Nat.lt_succ_self _,_,_,H,ed [3,1,4,2,0]⟩
  refine aA rfl I (ct (bc (bc (cr ?_))))
  have h:=aN H;subst h
  exact bM [0,2,3,4]
 rintro e ds As M
 clear H
 have H:=E
 clear E
 obtain⟨b5,H⟩:=aR H
 refine aa (SA.of_St M fun junk=>aQ (bD (cG j 0 2 [ae b.1.f0,ae b.1.f1,.slice c p.length d]) (h:=o' (bg q 0 1 [ae b.1.f0,ae b.1.f1,.slice c p.length d] (h:=ad aV (h:=cF ?_))))))
 have h:=aN H;subst h
 exact dt [.cell 8 26,.tmp 9] [3,0] ⟨c,d,rfl,rfl⟩ ⟨cR 1,cP,trivial⟩

end Go.Proofs.YtckilbegmbaeeaaGreat.Z3

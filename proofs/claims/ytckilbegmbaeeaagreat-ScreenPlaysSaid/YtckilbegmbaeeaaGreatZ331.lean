/- What functions compute, and that they do: 14. -/
import Derived.Test.YtckilbegmbaeeaaGreatZ38
namespace Go.Proofs.YtckilbegmbaeeaaGreat.Z3
open Go Go.RowKit Go.Proofs.YtckilbegmbaeeaaGreat.SL
set_option linter.unusedVariables false
set_option maxHeartbeats 20000000
set_option maxRecDepth 100000
set_option linter.unusedSimpArgs false
attribute [local irreducible] IntKind.wrap cC dO eX gp gl lH fU cN gm rd sub bytesOf eG cL
variable {k : Nat}
def tV.l0 : Nat → aG → Int → Int → Option (aG × Int)
  | 0,_,_,_=>none
  | k + 1,b,c,a=>lt ((decide (a ≤ 100)) && (decide (c = 0))) fun h=>if h = true then ((uM.f k b a).bind (fun d=>lt (IntKind.i32.wrap (a + 1)) fun n62=>tV.l0 k d.1 d.2 n62)) else (some (b,c))
def tV.f (k : Nat)  : Option (Bool):=(F8.f k 3 2).bind (fun b=>(tV.l0 k b.1 b.2 97 : Option (aG × Int)).bind (fun a=>lt ((decide (a.2 = 0)) && (decide (a.1.f1 = 1))) fun c=>lt (c && (decide (a.1.f2 = 1))) fun d=>lt (d && (decide ((a.1.f0.f2.length : Int) = 6))) fun h=>(if h = true then (if 0 ≤ (2 : Int)∧(2 : Int) < (a.1.f0.f2.length : Int) then (some (decide (((rd a.1.f0.f2 (2 : Int)).f0) = 99))) else none) else (some false) : Option Bool).bind (fun j=>(if j = true then (if 0 ≤ (3 : Int)∧(3 : Int) < (a.1.f0.f2.length : Int) then (some (decide (((rd a.1.f0.f2 (3 : Int)).f0) = 100))) else none) else (some false) : Option Bool).bind (fun l=>lt (l && a.1.f8) fun m=>lt (m && a.1.f13) fun o=>some (o)))))
theorem tV.ok  {r : Bool} (H : tV.f k  = some r) : fK Tryz.prog 14 #[] [] (.bool r):=by
 refine ai Tryz.func14 rfl rfl ?_
 unfold tV.f at H
 refine aQ (ad aV (h:=cV ?_))
 obtain⟨r1,e3,H⟩:=ac H
 refine o' (dN [] [] (F8.ok e3) fun A2 c3 A5 c6 A8 c9 b4 b5=>?_)
 refine ad ax (h:=ad cg (h:=ad cg (h:=o' (cy (h:=fun b6=>o' (bg b6 0 4 (al r1.1 A2 c3 A5 c6 A8 c9 b4 b5) (h:=ad aV (h:=eJ (ad aV (h:=bC ?_))))))))))
 obtain⟨c,H,a2⟩:=ac H
 refine bI (fun e ds As=>∃ (a : Nat),∃ (b : Option Addr) (q : Nat),∃ (s : Option Addr) (u : Nat),∃ (y : Option Addr) (z : Nat),∃ (B : Option Addr) (D : Nat),St [(1,aK a),(2,ae c.2)] (cK a c.1 b q s u y z B D) e ds As) ?_ ?_
 ·refine aU (cw (fun k_ e ds As=>∃ (J : aG) (K : Int) (p : Int),∃ (E : Nat),∃ (O : Option Addr) (R : Nat),∃ (S : Option Addr) (U : Nat),∃ (Y : Option Addr) (Z : Nat),∃ (a0 : Option Addr) (a1 : Nat),tV.l0 k_ J K p = some c∧St [(1,aK E),(2,ae K),(3,aJ p)] (cK E J O R S U Y Z a0 a1) e ds As) (k:=k) ⟨_,_,_,b6,A2,c3,A5,c6,A8,c9,b4,b5,H,kW [4,0,1,2,3]⟩ ?_)
  clear H
  rintro a3 e ds As ⟨J,K,p,E,O,R,S,U,Y,Z,a0,a1,H,b1⟩
  obtain _ | a3:=a3
  ·cases H
  rw [tV.l0] at H
  refine SA.of_St b1 fun junk=>ao (aQ (ad ax (h:=ad (fV rfl rfl) (h:=S' ax ?_))))
  obtain⟨e4,a4,H⟩:=br H
  refine cD 3 (St [(1,aK E),(2,ae K),(3,aJ p),(13,.bool e4)] (cK E J O R S U Y Z a0 a1)) ?_ ?_
  ·by_cases L : p ≤ 100
   ·refine bn (ak L) ax (h:=bn (ak L) (bk rfl rfl) (h:=cq (ak L) (h:=aj ?_)))
    have x_:=gD a4 ((ak L));exact bM [0,1,2,3,4]
   refine cI 2 (am L) (cv (am L) (h:=aj ?_))
   have x_:=gC a4 ((am L));exact bM [0,1,2,3,4]
  rintro e ds As b2
  refine bC (SA.of_St b2 fun junk=>?_)
  rcases bH H with⟨a5,H⟩|⟨a5,H⟩
  ·refine aC rfl a5 (ap (aa (ao (aU (ah (bD (ck 0) (h:=S' ax ?_)))))))
   obtain⟨e5,e6,H⟩:=ac H
   refine o' (OA.ghost (Gh.freeze (k:=1) rfl) (OA.ghost (Gh.freeze (k:=2) rfl) (OA.ghost (Gh.freeze (k:=3) rfl) (OA.ghost (Gh.freeze (k:=4) rfl) (dN [1,2,3,4] [0,1,2,3,4] (uM.ok e6) fun b7 b8 b9 c5 c7 c8 d0 d1=>?_)))))
   refine ad ax (h:=ad cg (h:=ad cg (h:=o' (bg E 0 4 (al e5.1 b7 b8 b9 c5 c7 c8 d0 d1) (h:=ad aV (h:=aj (aF (aa (ah (ad ax (h:=S' (bV rfl rfl) ?_)))))))))))
   obtain⟨n62,e0,H⟩:=br H
   refine bO (aJ n62) (bz (v:=aJ n62) (congrArg (Value.int .i32) e0.symm)) (h:=aj ?_)
   exact aa ⟨a3,Nat.lt_succ_self _,_,_,_,E,b7,b8,b9,c5,c7,c8,d0,d1,H,ed [4,0,1,2,3]⟩
  refine aD rfl a5 (ct (bc (bc (cr ?_))))
  have h:=aN H;subst h
  exact aa ⟨E,O,R,S,U,Y,Z,a0,a1,ed [0,1,2,3,4]⟩
 rintro e ds As ⟨a,b,q,s,u,y,z,B,D,b3⟩
 clear H
 have H:=a2
 clear a2
 refine aa (SA.of_St b3 fun junk=>aQ (ad ax (h:=ad (bk rfl rfl) (h:=S' ax ?_))))
 obtain⟨d2,a6,H⟩:=br H
 refine eg 4 [(1,aK a),(28,.bool d2)] (cK a c.1 b q s u y z B D) ?_ fun junk=>?_
 ·by_cases F : c.2 = 0
  ·refine bn (ak F) aE (h:=dc (ak F) (aT 0) (h:=bn (ak F) (bk rfl rfl) (h:=cq (ak F) (h:=aj ?_))))
   have x_:=gD a6 ((ak F));exact bM [0,1,2,3,4]
  refine cI 3 (am F) (cv (am F) (h:=aj ?_))
  have x_:=gC a6 ((am F));exact bM [0,1,2,3,4]
 refine S' ax ?_
 obtain⟨d3,a7,H⟩:=br H
 refine eg 4 [(1,aK a),(33,.bool d3)] (cK a c.1 b q s u y z B D) ?_ fun junk=>?_
 ·by_cases I : d2 = true
  ·refine bn I aE (h:=dc I (aT 0) (h:=bn I (bk rfl rfl) (h:=cq I (h:=aj ?_))))
   have x_:=gD a7 I;exact bM [0,1,2,3,4]
  refine cI 3 (aX I) (cv (aX I) (h:=aj ?_))
  have x_:=gC a7 ((aX I));exact bM [0,1,2,3,4]
 refine S' ax ?_
 obtain⟨e7,a8,H⟩:=br H
 refine eg 6 [(1,aK a),(40,.bool e7)] (cK a c.1 b q s u y z B D) ?_ fun junk=>?_
 ·by_cases o : d3 = true
  ·refine bn o aE (h:=bn o aE (h:=dc o (aT 0) (h:=kQ o (ae (c.1.f0.f2.length : Int)) (dB Tryz.underlying24 rfl) (h:=bn o (bk rfl rfl) (h:=cq o (h:=aj ?_))))))
   have x_:=gD a8 o;exact bM [0,1,2,3,4]
  refine cI 5 (aX o) (cv (aX o) (h:=aj ?_))
  have x_:=gC a8 ((aX o));exact bM [0,1,2,3,4]
 refine S' ax ?_
 obtain⟨e8,H,e1⟩:=ac H
 refine eg 8 [(1,aK a),(49,.bool e8)] (cK a c.1 b q s u y z B D) ?_ fun junk=>?_
 ·rcases bH H with⟨d,H⟩|⟨d,H⟩
  ·refine bn d aE (h:=bn d aE (h:=z' d (aT 0) ?_))
   obtain⟨⟨d4,d5⟩,H⟩:=aR H
   refine dc d (bK (i:=(2 : Int)) Tryz.underlying24 cl rfl rfl (Src.buf (k:=1) rfl) d4 d5) (h:=kQ d (.pointer (some ((el b ((2 : Int).toNat * 15)).add 0))) (mL (el b ((2 : Int).toNat * 15)) 0 0) (h:=dc d (bQ (enc:=di) (i:=(2 : Int)) (j:=(2 : Int).toNat * 15) (m:=0) (sz:=15) Tryz.underlying21 rfl rfl rfl rfl (Src.buf (k:=1) rfl) d4 d5 (fun _ _ h=>h) rfl) (h:=bn d (bk rfl rfl) (h:=ii d ?_))))
   have h:=aN H;subst h
   exact dV [0,1,2,3,4]
  refine cI 7 (aX d) (gL (aX d) ?_)
  have h:=aN H;subst h
  exact dV [0,1,2,3,4]
 replace H:=e1
 refine S' ax ?_
 obtain⟨d6,H,e2⟩:=ac H
 refine eg 8 [(1,aK a),(58,.bool d6)] (cK a c.1 b q s u y z B D) ?_ fun junk=>?_
 ·rcases bH H with⟨l,H⟩|⟨l,H⟩
  ·refine bn l aE (h:=bn l aE (h:=z' l (aT 0) ?_))
   obtain⟨⟨d7,d8⟩,H⟩:=aR H
   refine dc l (bK (i:=(3 : Int)) Tryz.underlying24 cl rfl rfl (Src.buf (k:=1) rfl) d7 d8) (h:=kQ l (.pointer (some ((el b ((3 : Int).toNat * 15)).add 0))) (mL (el b ((3 : Int).toNat * 15)) 0 0) (h:=dc l (bQ (enc:=di) (i:=(3 : Int)) (j:=(3 : Int).toNat * 15) (m:=0) (sz:=15) Tryz.underlying21 rfl rfl rfl rfl (Src.buf (k:=1) rfl) d7 d8 (fun _ _ h=>h) rfl) (h:=bn l (bk rfl rfl) (h:=ii l ?_))))
   have h:=aN H;subst h
   exact dV [0,1,2,3,4]
  refine cI 7 (aX l) (gL (aX l) ?_)
  have h:=aN H;subst h
  exact dV [0,1,2,3,4]
 replace H:=e2
 refine S' ax ?_
 obtain⟨d9,a9,H⟩:=br H
 refine eg 3 [(1,aK a),(62,.bool d9)] (cK a c.1 b q s u y z B D) ?_ fun junk=>?_
 ·by_cases M : d6 = true
  ·refine bn M aE (h:=dc M (aT 0) (h:=cq M (h:=aj ?_)))
   have x_:=gD a9 M;exact bM [0,1,2,3,4]
  refine cI 2 (aX M) (cv (aX M) (h:=aj ?_))
  have x_:=gC a9 ((aX M));exact bM [0,1,2,3,4]
 refine S' ax ?_
 obtain⟨e9,b0,H⟩:=br H
 refine eg 3 [(66,.bool e9)] [] ?_ fun junk=>?_
 ·by_cases N : d9 = true
  ·refine bn N aE (h:=dc N (aT 0) (h:=cq N (h:=aj ?_)))
   have x_:=gD b0 N;exact bM []
  refine cI 2 (aX N) (cv (aX N) (h:=aj ?_))
  have x_:=gC b0 ((aX N));exact bM []
 refine ad aV (h:=cF ?_)
 have h:=aN H;subst h
 exact er [] ⟨rfl,rfl⟩

end Go.Proofs.YtckilbegmbaeeaaGreat.Z3

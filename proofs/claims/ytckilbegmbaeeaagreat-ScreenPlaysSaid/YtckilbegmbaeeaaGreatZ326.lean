/- What functions compute, and that they do: 107b0, 44b0. -/
import Derived.Test.YtckilbegmbaeeaaGreatZ320
import Derived.Test.YtckilbegmbaeeaaGreatZ322
namespace Go.Proofs.YtckilbegmbaeeaaGreat.Z3
open Go Go.RowKit Go.Proofs.YtckilbegmbaeeaaGreat.SL
open Go.IntKind (i64)
set_option linter.unusedVariables false
set_option maxHeartbeats 20000000
set_option maxRecDepth 100000
set_option linter.unusedSimpArgs false
attribute [local irreducible] IntKind.wrap cC dO eX gp gl lH fU cN gm rd sub bytesOf eG cL
variable {af ay ar au k : Nat}
variable {ag az aw av : Option Addr}
def fo.l0 (a1 : Int) (a3 : Int) (a4 : cA) (gy : bF) : Nat → Int → (List aZ) → Option ((List aZ))
  | 0,_,_=>none
  | k + 1,b,a=>if a.length = gy.f2.length then (if b < a3 then ((dk.f (bF.mk gy.f0 gy.f1 a) a1).bind (fun c=>if (0 ≤ c.1∧0 ≤ c.2∧c.1 + c.2 ≤ (a.length : Int)) then ((pN.f a4).bind (fun d=>if 0 ≤ b∧b < c.2 then (lt (a.set (c.1 + b).toNat d) fun h=>(lt (i64.wrap (b + 1)) fun j=>fo.l0 a1 a3 a4 gy k j h)) else none)) else none)) else (some a)) else none
def fo.f (k : Nat) (a0 : bF) (a1 : Int) (a2 : Int) (a3 : Int) (a4 : cA) : Option (bF × Int):=(ik.f k a0 a4 a1).bind (fun l=>lt (l || (decide (a2 < 0))) fun d=>lt (d || (decide (a2 > a3))) fun h=>lt (h || (decide (a3 > a0.f0))) fun j=>if j = true then (some (((bF.mk 0 0 ([] : (List aZ))),2))) else ((iQ.f a0).bind (fun gy=>(fo.l0 a1 a3 a4 gy k a2 gy.f2 : Option ((List aZ))).bind (fun b=>if b.length = gy.f2.length then ((dk.f (bF.mk gy.f0 gy.f1 b) a1).bind (fun a=>if (0 ≤ a.1∧0 ≤ a.2∧a.1 + a.2 ≤ (b.length : Int)) then ((eD.f k b a.1 a.2).bind (fun c=>if c.length = b.length then (some (((bF.mk gy.f0 gy.f1 c),0))) else none)) else none)) else none))))
theorem fo.ok {a0 : bF} {a1 : Int} {a2 : Int} {a3 : Int} {a4 : cA} {r : bF × Int} (H : fo.f k a0 a1 a2 a3 a4 = some r) : df Tryz.prog 107 #[.agg #[ae a0.f0,ae a0.f1,.slice ag a0.f2.length af],ae a1,ae a2,ae a3,.agg (bG a4).toArray] [Buf bE 55 ag af a0.f2] (fun v B=>∃ aP aO,v = .tuple #[.agg #[ae r.1.f0,ae r.1.f1,.slice aP r.1.f2.length aO],ae r.2]∧B = [Buf bE 55 aP aO r.1.f2,Buf bE 55 ag af a0.f2]):=by
 refine ai Tryz.func107 rfl rfl ?_
 unfold fo.f at H
 refine aQ (o' (bN (h:=fun D=>o' (bN (h:=fun z=>o' (cy (h:=fun u=>ad aV (h:=bC (ao (ao (bj 0 fun e0=>ah (bD (cG D 0 1 [ae a0.f0,ae a0.f1,.slice ag a0.f2.length af]) (h:=l' (ck 2) ?_)))))))))))))
 refine S' ax ?_
 obtain⟨r9,b3,H⟩:=ac H
 refine o' (da [0] [1,2,3] (ik.ok b3) ?_)
 refine S' ax ?_
 obtain⟨b0,I,H⟩:=br H
 refine eg 3 [(1,ae a1),(2,ae a2),(3,ae a3),(5,aK D),(9,aK z),(10,aK u),(21,.bool b0)] [Buf bE 55 ag af a0.f2,aL D 26 [ae a0.f0,ae a0.f1,.slice ag a0.f2.length af],aL z 28 (bG a4),aL u 26 [ae 0,ae 0,.slice none 0 0]] ?_ fun junk=>?_
 ·by_cases y : r9 = true
  ·refine cI 2 y (cq y (h:=aj ?_))
   have x_:=jL I y;exact bM [0,1,2,3]
  refine bn (aX y) ax (h:=bn (aX y) (cn rfl rfl) (h:=cv (aX y) (h:=aj ?_)))
  have x_:=jN I ((aX y));exact bM [0,1,2,3]
 refine S' ax ?_
 obtain⟨b1,J,H⟩:=br H
 refine eg 4 [(1,ae a1),(2,ae a2),(3,ae a3),(5,aK D),(9,aK z),(10,aK u),(26,.bool b1)] [Buf bE 55 ag af a0.f2,aL D 26 [ae a0.f0,ae a0.f1,.slice ag a0.f2.length af],aL z 28 (bG a4),aL u 26 [ae 0,ae 0,.slice none 0 0]] ?_ fun junk=>?_
 ·by_cases s : b0 = true
  ·refine cI 3 s (cq s (h:=aj ?_))
   have x_:=jL J s;exact bM [0,1,2,3]
  refine bn (aX s) ax (h:=bn (aX s) ax (h:=bn (aX s) (eR rfl rfl) (h:=cv (aX s) (h:=aj ?_))))
  have x_:=jN J ((aX s));exact bM [0,1,2,3]
 refine S' ax ?_
 obtain⟨d3,K,H⟩:=br H
 refine cD 5 (St [(1,ae a1),(2,ae a2),(3,ae a3),(5,aK D),(9,aK z),(10,aK u),(32,.bool d3)] [Buf bE 55 ag af a0.f2,aL D 26 [ae a0.f0,ae a0.f1,.slice ag a0.f2.length af],aL z 28 (bG a4),aL u 26 [ae 0,ae 0,.slice none 0 0]]) ?_ ?_
 ·by_cases o : b1 = true
  ·refine cI 4 o (cq o (h:=aj ?_))
   have x_:=jL K o;exact bM [0,1,2,3]
  refine bn (aX o) ax (h:=bn (aX o) aE (h:=dc (aX o) (aT 1) (h:=bn (aX o) (eR rfl rfl) (h:=cv (aX o) (h:=aj ?_)))))
  have x_:=jN K ((aX o));exact bM [0,1,2,3]
 rintro e ds As Z
 refine bC (SA.of_St Z fun junk=>?_)
 rcases bH H with⟨L,H⟩|⟨L,H⟩
 ·refine aC rfl L (aQ (bO (.agg #[ae 0,ae 0,.slice none 0 0]) dA (h:=o' (bg u 0 3 [ae 0,ae 0,.slice none 0 0] (h:=ad aV (h:=cE ?_))))))
  have h:=aN H;subst h
  exact lT [.cell 10 26,.tmp 11] ((Gh.nilBuf bE 55).trans (eY [4,0])) ⟨none,0,rfl,rfl⟩ ⟨cR 3,cP,trivial⟩
 refine aD rfl L (ap (aa (aQ (l' (cG D 0 1 [ae a0.f0,ae a0.f1,.slice ag a0.f2.length af]) ?_))))
 obtain⟨gy,b5,H⟩:=ac H
 refine o' (gu [0] [1,2,3] (iQ.ok b5) fun c d=>?_)
 refine o' (cy (h:=fun p=>o' (bg p 0 5 [ae gy.f0,ae gy.f1,.slice c gy.f2.length d] (h:=eJ (ad ax (h:=ad aV (h:=bC ?_)))))))
 obtain⟨E,H,M⟩:=ac H
 refine bI (St [(1,ae a1),(10,aK u),(12,aK p)] [Buf bE 55 ag af a0.f2,aL u 26 [ae 0,ae 0,.slice none 0 0],aL p 26 [ae gy.f0,ae gy.f1,.slice c E.length d],Buf bE 55 c d E]) ?_ ?_
 ·refine aU (cw (fun k_ e ds As=>∃ (b : Int) (a : (List aZ)),fo.l0 a1 a3 a4 gy k_ b a = some E∧St [(1,ae a1),(3,ae a3),(9,aK z),(10,aK u),(12,aK p),(13,ae b)] [Buf bE 55 ag af a0.f2,aL z 28 (bG a4),aL u 26 [ae 0,ae 0,.slice none 0 0],aL p 26 [ae gy.f0,ae gy.f1,.slice c a.length d],Buf bE 55 c d a] e ds As) (k:=k) ⟨_,_,H,kW [1,3,4,5,0]⟩ ?_)
  clear H
  rintro vM e ds As ⟨b,a,H,a5⟩
  obtain _ | vM:=vM
  ·cases H
  rw [fo.l0] at H
  obtain⟨d4,H⟩:=aR H
  refine SA.of_St a5 fun junk=>ao (aQ (ad ax (h:=ad ax (h:=ad (cn rfl rfl) (h:=bC ?_)))))
  rcases bH H with⟨N,H⟩|⟨N,H⟩
  ·refine aB rfl N (ap (aa (ao (aU (bj 4 fun d7=>?_)))))
   refine fN [0,1,3,4,6] #[[],[],[0,1],[],[],[0,1,4],[0,1,3,4],[0,1,3,4,6]] [aL z 28 (bG a4),aL p 26 [ae gy.f0,ae gy.f1,.slice c a.length d],Buf bE 55 c d a] jy (bP.inb (bP.thn (bP.thn (bP.inb (bP.thn (bP.thn bP.body)))))) fun I0 e1 w0 pk=>?_
   refine gY 0 [1,3,4] rfl (cG p 0 1 [ae gy.f0,ae gy.f1,.slice c a.length d]) (h:=eb (ae a1) 1 [1,3,4] rfl fM (h:=eb (ae b) 3 [1,3,4] rfl fM (h:=sA 4 [1,3,4] rfl (ck 0) ?_)))
   obtain⟨q,b7,H⟩:=ac H
   obtain⟨⟨hl156a,hl156b,hl156c⟩,H⟩:=aR H
   refine eU 2 (by kernel_rfl) rfl (.no rfl) (mC [4] [0,1,2,3] (dk.ok b7) ?_)
   rintro _ _⟨d8,d9,a6,rfl,rfl⟩
   refine ⟨fun _=>⟨[2,4,0],rfl,rfl⟩,?_⟩
   obtain⟨O,b8,H⟩:=ac H
   refine eU 5 (by kernel_rfl) rfl (.no rfl) (da [] [0,1,2,3,4] (pN.ok b8) ?_)
   refine ⟨fun _=>⟨[2,4,0],rfl,rfl⟩,?_⟩
   obtain⟨⟨b9,c5⟩,H⟩:=aR H
   have c6 : 0 ≤ q.1 + b:=by omega
   have c7 : q.1 + b < (a.length : Int):=by omega
   refine sA 6 [2,4,0] rfl (eI (l:=q.1) (m:=q.2) (i:=b) (sz:=15) a6 Tryz.underlying24 cl rfl rfl (Src.buf (k:=2) rfl) b9 c5 (by omega)) ?_
   obtain⟨c8,F,H⟩:=br H
   have hl_n452 : c8.length = a.length:=by rw [F]; exact List.length_set
   refine eU 7 (by kernel_rfl) rfl (.no rfl) (iB (k:=0) (i:=q.1 + b) (j:=(q.1 + b).toNat * 15) (m:=0) (sz:=15) (xs:=a) (vs:=(bR O)) O rfl rfl rfl rfl rfl rfl rfl rfl cl c6 c7 rfl (fun _ _ h_=>by subst h_; rfl) ?_)
   rewrite [← F]
   try unfold bG
   try rewrite [← hl_n452]
   refine ⟨fun h_=>absurd h_ (by decide),?_⟩
   refine aH (by kernel_rfl) (aF (aa (ah (ad ax (h:=S' (bV rfl rfl) ?_)))))
   obtain⟨R,a7,H⟩:=br H
   refine bO (ae R) (bz (v:=ae R) (congrArg (Value.int .i64) a7.symm)) (h:=aj ?_)
   exact aa ⟨vM,Nat.lt_succ_self _,_,_,H,ed [1,2,3,4,0]⟩
  refine aA rfl N (ct (bc (bc (cr ?_))))
  have h:=aN H;subst h
  exact bM [0,2,3,4]
 rintro e ds As S
 clear H
 have H:=M
 clear M
 obtain⟨d5,H⟩:=aR H
 refine aa (SA.of_St S fun junk=>ao (bj 3 fun d6=>ah (bD (cG p 0 2 [ae gy.f0,ae gy.f1,.slice c E.length d]) (h:=S' ax ?_))))
 obtain⟨U,c9,H⟩:=ac H
 obtain⟨⟨hl521a,hl521b,hl521c⟩,H⟩:=aR H
 refine o' (mC [3] [0,1,2] (dk.ok c9) ?_)
 rintro _ _⟨d0,d1,a8,rfl,rfl⟩
 obtain⟨Y,d2,H⟩:=ac H
 obtain⟨a9,H⟩:=aR H
 refine o' (da [0] [1,2,3] (eD.ok (o0:=U.1) (n0:=U.2) (A0:=c) (c0:=d) (V0:=d0) (v0:=d1) (hw0:=a8) d2) ?_)
 try unfold bG
 try rewrite [← a9]
 refine cV (bD (cG p 0 3 [ae gy.f0,ae gy.f1,.slice c Y.length d]) (h:=o' (bg u 0 2 [ae gy.f0,ae gy.f1,.slice c Y.length d] (h:=ad aV (h:=cF ?_)))))
 have h:=aN H;subst h
 exact dt [.cell 10 26,.tmp 11] [0,1] ⟨c,d,rfl,rfl⟩ ⟨cR 2,cP,trivial⟩


def jd.l0 (a1 : Bool) (a2 : Int) : Nat → aG → Int → Option (aG)
  | 0,_,_=>none
  | k + 1,a,b=>if b < a.f0.f1 then ((lt ((decide (b = a.f1)) && (decide (a2 = 0))) fun u=>if u = true then (some (a.f2,a.f0.f0)) else (lt ((decide (b = a.f1)) && (decide (a2 = 1))) fun j=>if j = true then (lt (i64.wrap (a.f2 + 1)) fun l=>some (0,l)) else ((if a2 = 2 then (if a1 = true then (some true) else (some (decide (b = a.f1)))) else (some false) : Option Bool).bind (fun c=>(if c = true then (some c) else (lt (a1 && (decide (a2 = 0))) fun m=>lt (m && (decide (b > a.f1))) fun d=>if d = true then (some d) else (lt (a1 && (decide (a2 = 1))) fun o=>lt (o && (decide (b < a.f1))) fun p=>some p)) : Option (Bool)).bind (fun q=>if q = true then (some (0,a.f0.f0)) else (some (0,0)))))) : Option (Int × Int)).bind (fun h=>(fo.f k a.f0 b h.1 h.2 a.f4).bind (fun r=>lt (i64.wrap (b + 1)) fun s=>jd.l0 a1 a2 k ({ a with f0:=r.1 }) s))) else (some a)
def jd.f (k : Nat) (a0 : aG) (a1 : Bool) (a2 : Int) : Option (aG × Int):=(eN.f k a0).bind (fun a=>if (!a.2) = true then (some ((a.1,2))) else ((jd.l0 a1 a2 k a.1 0 : Option (aG)).bind (fun b=>some ((({ b with f3:=false }),0)))))
theorem jd.ok {a0 : aG} {a1 : Bool} {a2 : Int} {r : aG × Int} (H : jd.f k a0 a1 a2 = some r) : df Tryz.prog 44 #[.agg (al a0 ag af az ay aw ar av au).toArray,.bool a1,ae a2] (aS a0 ag af az ay aw ar av au) (fun v B=>∃ aP aO bA bv bq bp bB bw,v = .tuple #[.agg (al r.1 aP aO bA bv bq bp bB bw).toArray,ae r.2]∧B = (aS r.1 aP aO bA bv bq bp bB bw++aS a0 ag af az ay aw ar av au)):=by
 refine ai Tryz.func44 rfl rfl ?_
 unfold jd.f at H
 refine aQ (o' (bN (h:=fun b5=>o' (cy (h:=fun u=>ad aV (h:=bC (ao (bj 0 fun h3=>bj 1 fun g9=>bj 2 fun h0=>bj 3 fun h1=>ah ?_))))))))
 refine l' (ck 4) ?_
 obtain⟨f5,f7,H⟩:=ac H
 refine o' (dN [0,1,2,3] [4,5] (eN.ok f7) fun a7 a8 a9 b0 b1 b2 b3 b4=>?_)
 refine ad ax (h:=ad cg (h:=ad cg (h:=o' (bg b5 0 8 (al f5.1 a7 a8 a9 b0 b1 b2 b3 b4) (h:=ad aV (h:=eJ (ad ax (h:=ad (ca rfl) (h:=bC ?_)))))))))
 rcases bH H with⟨c9,H⟩|⟨c9,H⟩
 ·refine aC rfl c9 (aQ (bD (ck 8) (h:=o' (bg u 0 9 (al f5.1 a7 a8 a9 b0 b1 b2 b3 b4) (h:=ad aV (h:=cE ?_))))))
  have h:=aN H;subst h
  exact dt [.cell 6 34,.tmp 7] [0,1,2,3,4,5,6,7] ⟨a7,a8,a9,b0,b1,b2,b3,b4,rfl,rfl⟩ ⟨cR 9,cP,trivial⟩
 refine aD rfl c9 (ap (aa (ao (aQ (ad aV (h:=bC ?_))))))
 obtain⟨b6,H,d0⟩:=ac H
 refine bI (fun e ds As=>∃ (d1 : Nat),∃ (L : Option Addr) (M : Nat),∃ (N : Option Addr) (O : Nat),∃ (R : Option Addr) (S : Nat),∃ (U : Option Addr) (Y : Nat),St [(3,aK d1),(6,aK u)] (aL d1 34 (al b6 L M N O R S U Y)::(aS b6 L M N O R S U Y++(aS a0 ag af az ay aw ar av au++[aL u 34 (al cx none 0 none 0 none 0 none 0)]))) e ds As) ?_ ?_
 ·refine aU (cw (fun k_ e ds As=>∃ (a : aG) (c : Int),∃ (b : Nat),∃ (d : Option Addr) (j : Nat),∃ (l : Option Addr) (m : Nat),∃ (o : Option Addr) (p : Nat),∃ (q : Option Addr) (s : Nat),jd.l0 a1 a2 k_ a c = some b6∧St [(1,.bool a1),(2,ae a2),(3,aK b),(6,aK u),(9,ae c)] (aS a0 ag af az ay aw ar av au++(aL b 34 (al a d j l m o p q s)::(aS a d j l m o p q s++[aL u 34 (al cx none 0 none 0 none 0 none 0)]))) e ds As) (k:=k) ⟨_,_,b5,a7,a8,a9,b0,b1,b2,b3,b4,H,kW [4,5,6,7,8,0,1,2,3,9]⟩ ?_)
  clear H
  rintro d2 e ds As ⟨a,c,b,d,j,l,m,o,p,q,s,H,e6⟩
  obtain _ | d2:=d2
  ·cases H
  rw [jd.l0] at H
  refine SA.of_St e6 fun junk=>ao (aQ (ad ax (h:=ad aE (h:=ad aE (h:=bD (aT 4) (h:=ad (cn rfl rfl) (h:=bC ?_)))))))
  rcases bH H with⟨d3,H⟩|⟨d3,H⟩
  ·refine aB rfl d3 (ap (aa (ao (aU (aQ (ad aV (h:=ad aV (h:=bC (ao ?_)))))))))
   obtain⟨f6,H,d4⟩:=ac H
   refine bI (St [(1,.bool a1),(2,ae a2),(3,aK b),(6,aK u),(9,ae c),(10,ae f6.1),(11,ae f6.2)] (aS a0 ag af az ay aw ar av au++(aL b 34 (al a d j l m o p q s)::(aS a d j l m o p q s++[aL u 34 (al cx none 0 none 0 none 0 none 0)])))) ?_ ?_
   ·refine aU (aQ (ad ax (h:=ad aE (h:=bD (aT 4) (h:=ad (bk rfl rfl) (h:=S' ax ?_))))))
    obtain⟨g4,d5,H⟩:=br H
    refine eg 3 [(1,.bool a1),(2,ae a2),(3,aK b),(6,aK u),(9,ae c),(10,ae 0),(11,ae 0),(35,.bool g4)] (aS a0 ag af az ay aw ar av au++(aL b 34 (al a d j l m o p q s)::(aS a d j l m o p q s++[aL u 34 (al cx none 0 none 0 none 0 none 0)]))) ?_ fun junk=>?_
    ·by_cases K : c = a.f1
     ·refine bn (ak K) ax (h:=bn (ak K) (bk rfl rfl) (h:=cq (ak K) (h:=aj ?_)))
      have x_:=gD d5 ((ak K));exact bM [0,1,2,3,4,5,6,7,8,9]
     refine cI 2 (am K) (cv (am K) (h:=aj ?_))
     have x_:=gC d5 ((am K));exact bM [0,1,2,3,4,5,6,7,8,9]
    refine ad aV (h:=bC ?_)
    rcases bH H with⟨d6,H⟩|⟨d6,H⟩
    ·refine aC rfl d6 ?_
     refine fk (dG 0 7) [4] [0,1,2,3,5,6,7,8,9] fun _ _ _ _ _ sH dd pk=>?_
     refine bf 0 rfl sH aE (h:=bT 1 rfl sH (aT 0) (h:=bf 2 rfl sH aE (h:=bf 3 rfl sH aE (h:=bT 4 rfl sH (aT 0) (h:=bf 5 rfl sH aV (h:=bf 6 rfl sH aV (h:=aW dd sH (aH (by kernel_rfl) (aF ?_)))))))))
     have h:=aN H;subst h
     exact bM [1,2,3,4,0,5,6,7,8,9]
    refine aD rfl d6 (aQ (ad ax (h:=ad aE (h:=bD (aT 4) (h:=ad (bk rfl rfl) (h:=S' ax ?_))))))
    obtain⟨f8,b8,H⟩:=br H
    refine eg 3 [(1,.bool a1),(2,ae a2),(3,aK b),(6,aK u),(9,ae c),(10,ae 0),(11,ae 0),(49,.bool f8)] (aS a0 ag af az ay aw ar av au++(aL b 34 (al a d j l m o p q s)::(aS a d j l m o p q s++[aL u 34 (al cx none 0 none 0 none 0 none 0)]))) ?_ fun junk=>?_
    ·by_cases F : c = a.f1
     ·refine bn (ak F) ax (h:=bn (ak F) (bk rfl rfl) (h:=cq (ak F) (h:=aj ?_)))
      have x_:=gD b8 ((ak F));exact bM [0,1,2,3,4,5,6,7,8,9]
     refine cI 2 (am F) (cv (am F) (h:=aj ?_))
     have x_:=gC b8 ((am F));exact bM [0,1,2,3,4,5,6,7,8,9]
    refine ad aV (h:=bC ?_)
    rcases bH H with⟨Z,H⟩|⟨Z,H⟩
    ·refine aC rfl Z (ah (ad aE (h:=bD (aT 4) (h:=S' (bV rfl rfl) ?_))))
     obtain⟨d7,e7,H⟩:=br H
     refine bO (ae d7) (bz (v:=ae d7) (congrArg (Value.int .i64) e7.symm)) (h:=aj (aF ?_))
     have h:=aN H;subst h
     exact bM [0,1,2,3,4,5,6,7,8,9]
    refine aD rfl Z (ao (aQ (ad ax (h:=ad (bk rfl rfl) (h:=S' ax ?_)))))
    obtain⟨f9,H,e8⟩:=ac H
    refine eg 8 [(1,.bool a1),(2,ae a2),(3,aK b),(6,aK u),(9,ae c),(10,ae 0),(11,ae 0),(64,.bool f9)] (aS a0 ag af az ay aw ar av au++(aL b 34 (al a d j l m o p q s)::(aS a d j l m o p q s++[aL u 34 (al cx none 0 none 0 none 0 none 0)]))) ?_ fun junk=>?_
    ·rcases bH H with⟨y,H⟩|⟨y,H⟩
     ·refine bn (ak y) ax (h:=Y' (ak y) ax ?_)
      rcases bH H with⟨E,H⟩|⟨E,H⟩
      ·refine cI 4 E (gE (ak y) (dl rfl (bX rfl (E) rfl) (ii (ak y) ?_)))
       have h:=aN H;subst h
       exact dV [0,1,2,3,4,5,6,7,8,9]
      refine bn (aX E) ax (h:=bn (aX E) aE (h:=dc (aX E) (aT 4) (h:=bn (aX E) (bk rfl rfl) (h:=gE (ak y) (dl rfl (bY rfl (aX E) rfl) (ii (ak y) ?_))))))
      have h:=aN H;subst h
      exact dV [0,1,2,3,4,5,6,7,8,9]
     refine cI 2 (am y) (gj (gj (gj (gj (cI 1 (am y) (gL (am y) ?_))))))
     have h:=aN H;subst h
     exact dV [0,1,2,3,4,5,6,7,8,9]
    replace H:=e8
    refine ad aV (h:=bC ?_)
    obtain⟨g0,H,b9⟩:=ac H
    refine bI (St [(1,.bool a1),(2,ae a2),(3,aK b),(6,aK u),(9,ae c),(10,ae 0),(11,ae 0),(53,.bool g0)] (aS a0 ag af az ay aw ar av au++(aL b 34 (al a d j l m o p q s)::(aS a d j l m o p q s++[aL u 34 (al cx none 0 none 0 none 0 none 0)])))) ?_ ?_
    ·rcases bH H with⟨a3,H⟩|⟨a3,H⟩
     ·refine aC rfl a3 (ap ?_)
      have h:=aN H;subst h
      exact bM [0,1,2,3,4,5,6,7,8,9]
     refine aD rfl a3 (aQ (ad ax (h:=S' ax ?_)))
     obtain⟨d8,c5,H⟩:=br H
     refine eg 3 [(1,.bool a1),(2,ae a2),(3,aK b),(6,aK u),(9,ae c),(10,ae 0),(11,ae 0),(69,.bool d8)] (aS a0 ag af az ay aw ar av au++(aL b 34 (al a d j l m o p q s)::(aS a d j l m o p q s++[aL u 34 (al cx none 0 none 0 none 0 none 0)]))) ?_ fun junk=>?_
     ·by_cases I : a1 = true
      ·refine bn I ax (h:=bn I (bk rfl rfl) (h:=cq I (h:=aj ?_)))
       have x_:=gD c5 I;exact bM [0,1,2,3,4,5,6,7,8,9]
      refine cI 2 (aX I) (cv (aX I) (h:=aj ?_))
      have x_:=gC c5 ((aX I));exact bM [0,1,2,3,4,5,6,7,8,9]
     refine S' ax ?_
     obtain⟨g1,c6,H⟩:=br H
     refine eg 5 [(1,.bool a1),(2,ae a2),(3,aK b),(6,aK u),(9,ae c),(10,ae 0),(11,ae 0),(75,.bool g1)] (aS a0 ag af az ay aw ar av au++(aL b 34 (al a d j l m o p q s)::(aS a d j l m o p q s++[aL u 34 (al cx none 0 none 0 none 0 none 0)]))) ?_ fun junk=>?_
     ·by_cases z : d8 = true
      ·refine bn z ax (h:=bn z aE (h:=dc z (aT 4) (h:=bn z (eR rfl rfl) (h:=cq z (h:=aj ?_)))))
       have x_:=gD c6 z;exact bM [0,1,2,3,4,5,6,7,8,9]
      refine cI 4 (aX z) (cv (aX z) (h:=aj ?_))
      have x_:=gC c6 ((aX z));exact bM [0,1,2,3,4,5,6,7,8,9]
     refine ad aV (h:=bC ?_)
     rcases bH H with⟨a4,H⟩|⟨a4,H⟩
     ·refine aC rfl a4 (ap ?_)
      have h:=aN H;subst h
      exact bM [0,1,2,3,4,5,6,7,8,9]
     refine aD rfl a4 (ah (ad ax (h:=S' ax ?_)))
     obtain⟨d9,c7,H⟩:=br H
     refine eg 3 [(1,.bool a1),(2,ae a2),(3,aK b),(6,aK u),(9,ae c),(10,ae 0),(11,ae 0),(80,.bool d9)] (aS a0 ag af az ay aw ar av au++(aL b 34 (al a d j l m o p q s)::(aS a d j l m o p q s++[aL u 34 (al cx none 0 none 0 none 0 none 0)]))) ?_ fun junk=>?_
     ·by_cases J : a1 = true
      ·refine bn J ax (h:=bn J (bk rfl rfl) (h:=cq J (h:=aj ?_)))
       have x_:=gD c7 J;exact bM [0,1,2,3,4,5,6,7,8,9]
      refine cI 2 (aX J) (cv (aX J) (h:=aj ?_))
      have x_:=gC c7 ((aX J));exact bM [0,1,2,3,4,5,6,7,8,9]
     refine S' ax ?_
     obtain⟨g2,c8,H⟩:=br H
     refine eg 5 [(1,.bool a1),(2,ae a2),(3,aK b),(6,aK u),(9,ae c),(10,ae 0),(11,ae 0),(86,.bool g2)] (aS a0 ag af az ay aw ar av au++(aL b 34 (al a d j l m o p q s)::(aS a d j l m o p q s++[aL u 34 (al cx none 0 none 0 none 0 none 0)]))) ?_ fun junk=>?_
     ·by_cases D : d9 = true
      ·refine bn D ax (h:=bn D aE (h:=dc D (aT 4) (h:=bn D (cn rfl rfl) (h:=cq D (h:=aj ?_)))))
       have x_:=gD c8 D;exact bM [0,1,2,3,4,5,6,7,8,9]
      refine cI 4 (aX D) (cv (aX D) (h:=aj ?_))
      have x_:=gC c8 ((aX D));exact bM [0,1,2,3,4,5,6,7,8,9]
     refine ad aV (h:=aj ?_)
     have h:=aN H;subst h
     exact bM [0,1,2,3,4,5,6,7,8,9]
    rintro e ds As e0
    clear H
    have H:=b9
    clear b9
    refine aa (SA.of_St e0 fun junk=>?_)
    rcases bH H with⟨a5,H⟩|⟨a5,H⟩
    ·refine aC rfl a5 (ah (ad aE (h:=ad aE (h:=bD (aT 4) (h:=ad aV (h:=aj (aF ?_)))))))
     have h:=aN H;subst h
     exact bM [0,1,2,3,4,5,6,7,8,9]
    refine aD rfl a5 (ap (aF ?_))
    have h:=aN H;subst h
    exact bM [0,1,2,3,4,5,6,7,8,9]
   rintro e ds As e1
   clear H
   have H:=d4
   clear d4
   refine aa (SA.of_St e1 fun junk=>bj 5 fun g5=>bj 6 fun g6=>bj 7 fun g7=>bj 8 fun g8=>ah (ad aE (h:=bD (cG b 0 4 [ae a.f0.f0,ae a.f0.f1,.slice d a.f0.f2.length j]) (h:=S' ax ?_))))
   refine ad ax (h:=ad ax (h:=ad aE (h:=l' (cG b 6 4 (bG a.f4)) ?_)))
   obtain⟨a6,g3,H⟩:=ac H
   refine o' (gu [5] [0,1,2,3,4,6,7,8,9] (fo.ok g3) fun e2 e3=>?_)
   refine ad ax (h:=ad cg (h:=ad cg (h:=ad aE (h:=o' (cH 6 [ae a6.1.f0,ae a6.1.f1,.slice e2 a6.1.f2.length e3] (h:=(aj (aF (aa (ah (ad ax (h:=S' (bV rfl rfl) ?_))))))))))))
   obtain⟨e4,e9,H⟩:=br H
   refine bO (ae e4) (bz (v:=ae e4) (congrArg (Value.int .i64) e9.symm)) (h:=aj ?_)
   exact aa ⟨d2,Nat.lt_succ_self _,_,_,b,e2,e3,l,m,o,p,q,s,H,ed [2,3,4,5,6,0,7,8,9,10]⟩
  refine aA rfl d3 (ct (bc (bc (cr ?_))))
  have h:=aN H;subst h
  exact aa ⟨b,d,j,l,m,o,p,q,s,ed [4,5,6,7,8,0,1,2,3,9]⟩
 rintro e ds As ⟨d1,L,M,N,O,R,S,U,Y,e5⟩
 clear H
 have H:=d0
 clear d0
 refine aa (SA.of_St e5 fun junk=>aQ (ad aE (h:=o' (cH 0 [.bool false] (h:=(cV (bD (ck 0) (h:=o' (bg u 0 9 (al ({ b6 with f3:=false }) L M N O R S U Y) (h:=ad aV (h:=cF ?_)))))))))))
 have h:=aN H;subst h
 exact dt [.cell 6 34,.tmp 7] [1,2,3,4,5,6,7,8] ⟨L,M,N,O,R,S,U,Y,rfl,rfl⟩ ⟨cR 9,cP,trivial⟩

end Go.Proofs.YtckilbegmbaeeaaGreat.Z3

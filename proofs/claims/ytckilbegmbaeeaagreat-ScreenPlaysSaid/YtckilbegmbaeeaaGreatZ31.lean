/- What functions compute, and that they do: 111, 113, 116b0, 147, 21, 22, 23, 24, 25, 26, 56, 58, 68, 69, 70, 71, 8. -/
import Derived.Test.YtckilbegmbaeeaaGreatZ30
namespace Go.Proofs.YtckilbegmbaeeaaGreat.Z3
open Go Go.RowKit Go.Proofs.YtckilbegmbaeeaaGreat.SL
open Go.IntKind (i64)
set_option linter.unusedVariables false
set_option maxHeartbeats 20000000
set_option maxRecDepth 100000
set_option linter.unusedSimpArgs false
attribute [local irreducible] IntKind.wrap cC dO eX gp gl lH fU cN gm rd sub bytesOf eG cL
variable {k : Nat}
def sS.f  : Option (cA):=some ((cA.mk (-1) (-1) false false false false false false false false))
theorem sS.ok  {r : cA} (H : sS.f  = some r) : fK Tryz.prog 22 #[] [] (.agg (bG r).toArray):=by
 refine ai Tryz.func22 rfl rfl ?_
 unfold sS.f at H
 refine aQ (o' (cy (h:=fun a=>cV (bO (.agg (bG (cA.mk (-1) (-1) false false false false false false false false)).toArray) dA (h:=o' (bg a 0 0 (bG (cA.mk (-1) (-1) false false false false false false false false)) (h:=cF ?_)))))))
 have h:=aN H;subst h
 exact gH (rs:=[.cell 0 28]) (vs:=[.agg (bG (cA.mk (-1) (-1) false false false false false false false false)).toArray]) [] rfl ⟨RV.cell (k:=0) rfl rfl Tryz.underlying28 rfl mZ,trivial⟩ rfl (eY []) ⟨rfl,rfl⟩


def qH.f (a0 : Int) (a1 : Int) : Option (Bool):=lt ((decide (a0 ≥ 1)) && (decide (a0 ≤ 512))) fun a=>lt (a && (decide (a1 ≥ 1))) fun b=>lt (b && (decide (a1 ≤ 512))) fun c=>some (c)
theorem qH.ok {a0 : Int} {a1 : Int} {r : Bool} (H : qH.f a0 a1 = some r) : fK Tryz.prog 68 #[ae a0,ae a1] [] (.bool r):=by
 refine ai Tryz.func68 rfl rfl ?_
 unfold qH.f at H
 refine aQ (ad aV (h:=cV (ad ax (h:=ad (dI rfl rfl) (h:=S' ax ?_)))))
 obtain⟨l,c,H⟩:=br H
 refine eg 3 [(1,ae a1),(10,.bool l)] [] ?_ fun junk=>?_
 ·by_cases h2 : a0 ≥ 1
  ·refine bn (ak h2) ax (h:=bn (ak h2) (fV rfl rfl) (h:=cq (ak h2) (h:=aj ?_)))
   have x_:=gD c ((ak h2));exact bM []
  refine cI 2 (am h2) (cv (am h2) (h:=aj ?_))
  have x_:=gC c ((am h2));exact bM []
 refine S' ax ?_
 obtain⟨m,d,H⟩:=br H
 refine eg 3 [(1,ae a1),(14,.bool m)] [] ?_ fun junk=>?_
 ·by_cases a : l = true
  ·refine bn a ax (h:=bn a (dI rfl rfl) (h:=cq a (h:=aj ?_)))
   have x_:=gD d a;exact bM []
  refine cI 2 (aX a) (cv (aX a) (h:=aj ?_))
  have x_:=gC d ((aX a));exact bM []
 refine S' ax ?_
 obtain⟨o,j,H⟩:=br H
 refine eg 3 [(18,.bool o)] [] ?_ fun junk=>?_
 ·by_cases b : m = true
  ·refine bn b ax (h:=bn b (fV rfl rfl) (h:=cq b (h:=aj ?_)))
   have x_:=gD j b;exact bM []
  refine cI 2 (aX b) (cv (aX b) (h:=aj ?_))
  have x_:=gC j ((aX b));exact bM []
 refine ad aV (h:=cF ?_)
 have h:=aN H;subst h
 exact er [] ⟨rfl,rfl⟩


def pU.f (a0 : Int) : Option (Bool):=lt ((decide (a0 ≥ (-1))) && (decide (a0 ≤ 255))) fun a=>some (a)
theorem pU.ok {a0 : Int} {r : Bool} (H : pU.f a0 = some r) : fK Tryz.prog 113 #[ae a0] [] (.bool r):=by
 refine ai Tryz.func113 rfl rfl ?_
 unfold pU.f at H
 refine aQ (ad aV (h:=cV (ad ax (h:=ad (dI rfl rfl) (h:=S' ax ?_)))))
 obtain⟨b,a,H⟩:=br H
 refine eg 3 [(8,.bool b)] [] ?_ fun junk=>?_
 ·by_cases h2 : a0 ≥ (-1)
  ·refine bn (ak h2) ax (h:=bn (ak h2) (fV rfl rfl) (h:=cq (ak h2) (h:=aj ?_)))
   have x_:=gD a ((ak h2));exact bM []
  refine cI 2 (am h2) (cv (am h2) (h:=aj ?_))
  have x_:=gC a ((am h2));exact bM []
 refine ad aV (h:=cF ?_)
 have h:=aN H;subst h
 exact er [] ⟨rfl,rfl⟩


def qf.f (a0 : cA) : Option (Bool):=(pU.f a0.f0).bind (fun a=>(if a = true then ((pU.f a0.f1).bind (fun b=>some b)) else (some false) : Option Bool).bind (fun c=>some (c)))
theorem qf.ok {a0 : cA} {r : Bool} (H : qf.f a0 = some r) : fK Tryz.prog 58 #[.agg (bG a0).toArray] [] (.bool r):=by
 refine ai Tryz.func58 rfl rfl ?_
 unfold qf.f at H
 refine aQ (o' (bN (h:=fun l=>ad aV (h:=cV (ad aE (h:=l' (aT 0) ?_))))))
 obtain⟨m,c,H⟩:=ac H
 refine o' (da [] [0] (pU.ok c) ?_)
 refine S' ax ?_
 obtain⟨d,H,b⟩:=ac H
 refine eg 4 [(10,.bool d)] [] ?_ fun junk=>?_
 ·rcases bH H with⟨a,H⟩|⟨a,H⟩
  ·refine bn a aE (h:=z' a (aT 0) ?_)
   obtain⟨o,j,H⟩:=ac H
   refine gE a (da [] [0] (pU.ok j) ?_)
   refine ii a ?_
   have h:=aN H;subst h
   exact dV []
  refine cI 3 (aX a) (gL (aX a) ?_)
  have h:=aN H;subst h
  exact dV []
 replace H:=b
 refine ad aV (h:=cF ?_)
 have h:=aN H;subst h
 exact er [] ⟨rfl,rfl⟩


def oo.f (a0 : cA) : Option (aZ):=(sS.f ).bind (fun a=>some ((aZ.mk 32 (fR.mk 0 0 0) 1 ({ a with f1:=a0.f1 }))))
theorem oo.ok {a0 : cA} {r : aZ} (H : oo.f a0 = some r) : fK Tryz.prog 147 #[.agg (bG a0).toArray] [] (.agg (bR r).toArray):=by
 refine ai Tryz.func147 rfl rfl ?_
 unfold oo.f at H
 refine aQ (o' (bN (h:=fun j=>o' (cy (h:=fun b=>cV ?_)))))
 obtain⟨a,c,H⟩:=ac H
 refine o' (da [] [0,1] (sS.ok c) ?_)
 refine o' (cy (h:=fun d=>o' (bg d 0 2 (bG a) (h:=cV (ad aE (h:=bD (aT 0) (h:=ad aE (h:=o' (cH 2 [ae a0.f1] (h:=(cV (bD (ck 2) (h:=s' (.agg (bR (aZ.mk 32 (fR.mk 0 0 0) 1 ({ a with f1:=a0.f1 }))).toArray) dA ?_)))))))))))))
 refine o' (bg b 0 1 (bR (aZ.mk 32 (fR.mk 0 0 0) 1 ({ a with f1:=a0.f1 }))) (h:=cF ?_))
 have h:=aN H;subst h
 exact gH (rs:=[.cell 2 55]) (vs:=[.agg (bR (aZ.mk 32 (fR.mk 0 0 0) 1 ({ a with f1:=a0.f1 }))).toArray]) [] rfl ⟨RV.cell (k:=1) rfl rfl Tryz.underlying55 rfl cl,trivial⟩ rfl (eY []) ⟨rfl,rfl⟩


def gN.l0 (l0 : (List aZ)) (r4 : aZ) : Nat → Int → (List aZ) → Option ((List aZ))
  | 0,_,_=>none
  | k + 1,b,a=>if a.length = l0.length then (if b < (l0.length : Int) then (if 0 ≤ b∧b < (a.length : Int) then (lt (a.set b.toNat r4) fun n13=>(gN.l0 l0 r4 k (i64.wrap (b + 1)) n13)) else none) else (some a)) else none
def gN.f (k : Nat) (l0 : (List aZ)) (a1 : cA) : Option ((List aZ)):=(oo.f a1).bind (fun b=>(gN.l0 l0 b k 0 l0 : Option ((List aZ))).bind (fun a=>if a.length = l0.length then (some (a)) else none))
theorem gN.ok {l0 : (List aZ)} {a1 : cA} {A0 : Option Addr} {c0 : Nat} {r : (List aZ)} (H : gN.f k l0 a1 = some r) : df Tryz.prog 116 #[.slice A0 l0.length c0,.agg (bG a1).toArray] [Buf bE 55 A0 c0 l0] (fun v B=>v = .tuple #[]∧B = [Buf bE 55 A0 c0 r]):=by
 refine ai Tryz.func116 rfl rfl ?_
 unfold gN.f at H
 refine aQ (o' (bN (h:=fun J=>cV (l' (ck 1) ?_))))
 obtain⟨c,E,H⟩:=ac H
 refine o' (da [] [0,1] (oo.ok E) ?_)
 refine o' (cy (h:=fun u=>o' (bg u 0 2 (bR c) (h:=cV (ad ax (h:=bO (ae (l0.length : Int)) (dB Tryz.underlying24 rfl) (h:=ad ax (h:=bC ?_))))))))
 obtain⟨y,H,p⟩:=ac H
 refine bI (St [] [Buf bE 55 A0 c0 y]) ?_ ?_
 ·refine aU (cw (fun k_ e ds As=>∃ (b : Int) (a : (List aZ)),gN.l0 l0 c k_ b a = some y∧St [(0,.slice A0 a.length c0),(4,aK u),(9,ae (l0.length : Int)),(10,ae b)] [Buf bE 55 A0 c0 a,aL u 55 (bR c)] e ds As) (k:=k) ⟨_,_,H,kW [0,2]⟩ ?_)
  clear H
  rintro z e ds As ⟨b,a,H,D⟩
  obtain _ | z:=z
  ·cases H
  rw [gN.l0] at H
  obtain⟨F,H⟩:=aR H
  refine SA.of_St D fun junk=>aQ (ad (cn rfl rfl) (h:=bC (ao ?_)))
  rcases bH H with⟨d,H⟩|⟨d,H⟩
  ·refine aB rfl d (ap (aa (ao (aU (aQ (ad ax (h:=ad aV (h:=bC (ah (ad ax (h:=ad ax (h:=l' (ck 1) ?_))))))))))))
   obtain⟨⟨q,s⟩,H⟩:=aR H
   refine l' (bK (i:=b) Tryz.underlying24 cl rfl rfl (Src.buf (k:=0) rfl) q s) ?_
   obtain⟨n13,l,H⟩:=br H
   have hl_n13 : n13.length = a.length:=by rw [l]; exact List.length_set
   refine o' (iB (k:=0) (i:=b) (j:=b.toNat * 15) (m:=0) (sz:=15) (xs:=a) (vs:=(bR c)) c rfl rfl rfl rfl rfl rfl rfl rfl cl q s rfl (fun _ _ h_=>by subst h_; rfl) ?_)
   rewrite [← l]
   try unfold bG
   try rewrite [← hl_n13]
   refine aj (aF (aa (ah (ad (bV rfl rfl) (h:=ad ax (h:=aj ?_))))))
   exact aa ⟨z,Nat.lt_succ_self _,_,_,H,ed [0,1]⟩
  refine aA rfl d (ct (bc (bc (cr ?_))))
  have h:=aN H;subst h
  exact bM [0]
 rintro e ds As o
 clear H
 have H:=p
 clear p
 obtain⟨I,H⟩:=aR H
 have h:=aN H;subst h
 exact oc o [Buf bE 55 A0 c0 y] rfl (eY [0]) ⟨rfl,rfl⟩


def tC.f (k : Nat) (a0 : Int) (a1 : Int) (a2 : cA) : Option (bF):=if 0 ≤ (i64.wrap (a0 * a1))∧(i64.wrap (a0 * a1)) ≤ 2932031007402 then lt (List.replicate (i64.wrap (a0 * a1)).toNat (aZ.mk 0 (fR.mk 0 0 0) 0 (cA.mk 0 0 false false false false false false false false))) fun n9=>((gN.f k n9 a2).bind (fun a=>if a.length = n9.length then (some ((bF.mk a0 a1 a))) else none)) else none
theorem tC.ok {a0 : Int} {a1 : Int} {a2 : cA} {r : bF} (H : tC.f k a0 a1 a2 = some r) : df Tryz.prog 69 #[ae a0,ae a1,.agg (bG a2).toArray] [] (fun v B=>∃ aP aO,v = .agg #[ae r.f0,ae r.f1,.slice aP r.f2.length aO]∧B = [Buf bE 55 aP aO r.f2]):=by
 refine ai Tryz.func69 rfl rfl ?_
 unfold tC.f at H
 refine aQ (o' (bN (h:=fun s=>o' (cy (h:=fun o=>cV (ad ax (h:=ad ax (h:=ad ax (h:=ad ax (h:=S' (jq rfl rfl) ?_))))))))))
 obtain⟨⟨p,u⟩,H⟩:=aR H
 obtain⟨n9,j,H⟩:=br H
 refine o' (vK (kd:=bE) (sz:=15) (l:=i64.wrap (a0 * a1)) lP n9 j rfl Tryz.underlying24 nl rfl rfl p (by omega) (by omega) rfl rfl (fun _=>rfl) fun a=>bO (.agg #[ae a0,ae a1,.slice (some ⟨a,0,none⟩) n9.length ((i64.wrap (a0 * a1)).toNat)]) dA (h:=o' (cy (h:=fun c=>o' (bg c 0 3 [ae a0,ae a1,.slice (some ⟨a,0,none⟩) n9.length ((i64.wrap (a0 * a1)).toNat)] (h:=bC (ao (bj 2 fun q=>ah (ad aE (h:=bD (aT 3) (h:=l' (ck 0) ?_)))))))))))
 obtain⟨b,m,H⟩:=ac H
 obtain⟨d,H⟩:=aR H
 refine o' (da [2] [0,1,3] (gN.ok (A0:=some ⟨a,0,none⟩) (c0:=(i64.wrap (a0 * a1)).toNat) m) ?_)
 try unfold bG
 try rewrite [← d]
 refine cV (bD (cG c 0 3 [ae a0,ae a1,.slice (some ⟨a,0,none⟩) b.length ((i64.wrap (a0 * a1)).toNat)]) (h:=o' (bg o 0 2 [ae a0,ae a1,.slice (some ⟨a,0,none⟩) b.length ((i64.wrap (a0 * a1)).toNat)] (h:=cF ?_))))
 have h:=aN H;subst h
 exact gH (rs:=[.cell 6 26]) (vs:=[.agg #[ae a0,ae a1,.slice (some ⟨a,0,none⟩) b.length ((i64.wrap (a0 * a1)).toNat)]]) [Buf bE 55 (some ⟨a,0,none⟩) ((i64.wrap (a0 * a1)).toNat) b] rfl ⟨RV.cell (k:=2) rfl rfl Tryz.underlying26 rfl uU,trivial⟩ rfl (eY [0]) ⟨some ⟨a,0,none⟩,(i64.wrap (a0 * a1)).toNat,rfl,rfl⟩


def xd.f (k : Nat) (a0 : Int) (a1 : Int) (a2 : cA) : Option (bF × Int):=(qH.f a0 a1).bind (fun b=>(if (!b) = true then (some true) else ((qf.f a2).bind (fun c=>some (!c))) : Option Bool).bind (fun d=>if d = true then (some (((bF.mk 0 0 ([] : (List aZ))),2))) else ((tC.f k a0 a1 a2).bind (fun a=>some ((a,0))))))
theorem xd.ok {a0 : Int} {a1 : Int} {a2 : cA} {r : bF × Int} (H : xd.f k a0 a1 a2 = some r) : df Tryz.prog 21 #[ae a0,ae a1,.agg (bG a2).toArray] [] (fun v B=>∃ aP aO,v = .tuple #[.agg #[ae r.1.f0,ae r.1.f1,.slice aP r.1.f2.length aO],ae r.2]∧B = [Buf bE 55 aP aO r.1.f2]):=by
 refine ai Tryz.func21 rfl rfl ?_
 unfold xd.f at H
 refine aQ (o' (bN (h:=fun p=>o' (cy (h:=fun d=>ad aV (h:=eJ (ad ax (h:=S' ax ?_))))))))
 obtain⟨z,q,H⟩:=ac H
 refine o' (da [] [0,1] (qH.ok q) ?_)
 refine ad (ca rfl) (h:=S' ax ?_)
 obtain⟨u,H,l⟩:=ac H
 refine cD 4 (St [(0,ae a0),(1,ae a1),(5,aK p),(6,aK d),(16,.bool u)] [aL p 28 (bG a2),aL d 26 [ae 0,ae 0,.slice none 0 0]]) ?_ ?_
 ·rcases bH H with⟨a,H⟩|⟨a,H⟩
  ·refine cI 3 a (ii a ?_)
   have h:=aN H;subst h
   exact dV [0,1]
  refine z' (aX a) (ck 0) ?_
  obtain⟨D,y,H⟩:=ac H
  refine gE (aX a) (da [] [0,1] (qf.ok y) ?_)
  refine bn (aX a) (ca rfl) (h:=gL (aX a) ?_)
  have h:=aN H;subst h
  exact dV [0,1]
 rintro e ds As j
 clear H
 have H:=l
 clear l
 refine bC (SA.of_St j fun junk=>?_)
 rcases bH H with⟨b,H⟩|⟨b,H⟩
 ·refine aC rfl b (aQ (bO (.agg #[ae 0,ae 0,.slice none 0 0]) dA (h:=o' (bg d 0 1 [ae 0,ae 0,.slice none 0 0] (h:=ad aV (h:=cE ?_))))))
  have h:=aN H;subst h
  exact lT [.cell 6 26,.tmp 7] ((Gh.nilBuf bE 55).trans (eY [2])) ⟨none,0,rfl,rfl⟩ ⟨cR 1,cP,trivial⟩
 refine aD rfl b (ap (aa (aQ (ad ax (h:=ad ax (h:=l' (ck 0) ?_))))))
 obtain⟨c,s,H⟩:=ac H
 refine o' (gu [] [0,1] (tC.ok s) fun m o=>?_)
 refine o' (bg d 0 2 [ae c.f0,ae c.f1,.slice m c.f2.length o] (h:=ad aV (h:=cF ?_)))
 have h:=aN H;subst h
 exact dt [.cell 6 26,.tmp 7] [0] ⟨m,o,rfl,rfl⟩ ⟨cR 2,cP,trivial⟩


def oN.l0 (a0 : Int) : Nat → (List Int) → Int → Option ((List Int))
  | 0,_,_=>none
  | k + 1,b,a=>if a < a0 then (if b.length + ([a] : (List Int)).length ≤ 17592186044416 then lt (b ++ ([a] : (List Int))) fun n18=>(lt (i64.wrap (a + 8)) fun n19=>oN.l0 a0 k n18 n19) else none) else (some b)
def oN.f (k : Nat) (a0 : Int) : Option ((List Int)):=(oN.l0 a0 k ([]) 8 : Option ((List Int))).bind (fun a=>some (a))
theorem oN.ok {a0 : Int} {r : (List Int)} (H : oN.f k a0 = some r) : df Tryz.prog 23 #[ae a0] [] (fun v B=>∃ aP aO,v = .slice aP r.length aO∧B = [fm 3 aP aO r]):=by
 refine ai Tryz.func23 rfl rfl ?_
 unfold oN.f at H
 refine aQ (ad aV (h:=cV (ad aV (h:=eJ (ad aV (h:=bC ?_))))))
 obtain⟨s,H,q⟩:=ac H
 refine bI (fun e ds As=>∃ (m : Option Addr) (c3 : Nat),St [(3,.slice m s.length c3)] [fm 3 m c3 s] e ds As) ?_ ?_
 ·refine aU (cw (fun k_ e ds As=>∃ (b : (List Int)) (a : Int),∃ (d : Option Addr) (j : Nat),oN.l0 a0 k_ b a = some s∧St [(0,ae a0),(3,.slice d b.length j),(4,ae a)] [fm 3 d j b] e ds As) (k:=k) ⟨_,_,none,0,H,St.mk1 (cJ rfl (cJ rfl (cJ rfl dQ))) ((Gh.nilBuf (Kd.int .i64) 3).trans (eY [0]))⟩ ?_)
  clear H
  rintro u e ds As ⟨b,a,d,j,H,o⟩
  obtain _ | u:=u
  ·cases H
  rw [oN.l0] at H
  refine SA.of_St o fun junk=>ao (aQ (ad ax (h:=ad ax (h:=ad (cn rfl rfl) (h:=bC ?_)))))
  rcases bH H with⟨l,H⟩|⟨l,H⟩
  ·refine aB rfl l (ap (aa (ao (aU (ah (ad ax (h:=ad ax (h:=o' (hU (kd:=(Kd.int .i64)) (zv:=(ae 0)) (sz:=1) (cells:=[ae a]) (xs:=([a] : (List Int))) rfl Tryz.underlying29 ot jG rfl rfl rfl (by kernel_rfl) rfl rfl (dL (fun x_ : Int=>[Value.int .i64 x_]) (fun _ _=>rfl) (by kernel_rfl)) fun F=>?_)))))))))
   obtain⟨I,H⟩:=aR H
   obtain⟨n18,y,H⟩:=br H
   refine o' (gZ (k:=0) (A:=d) (c:=j) (xs:=b) (ys:=([a] : (List Int))) n18 y rfl Tryz.underlying29 qA rfl rfl rfl rfl rfl (oe.slice Tryz.underlying29 (Src.buf (k:=1) rfl)) (by omega) (by omega) fun D E=>ad aV (h:=aj (aF (aa (ah (ad ax (h:=S' (bV rfl rfl) ?_)))))))
   obtain⟨n19,z,H⟩:=br H
   refine bO (ae n19) (bz (v:=ae n19) (congrArg (Value.int .i64) z.symm)) (h:=aj ?_)
   exact aa ⟨u,Nat.lt_succ_self _,_,_,D,E,H,ed [0]⟩
  refine aA rfl l (ct (bc (bc (cr ?_))))
  have h:=aN H;subst h
  exact aa ⟨d,j,ed [0]⟩
 rintro e ds As ⟨m,c3,p⟩
 clear H
 have H:=q
 clear q
 refine aa (SA.of_St p fun junk=>aQ (ad ax (h:=ad aV (h:=cF ?_))))
 have h:=aN H;subst h
 exact er [0] ⟨m,c3,rfl,rfl⟩


def F8.f (k : Nat) (a0 : Int) (a1 : Int) : Option (aG × Int):=(sS.f ).bind (fun j=>(xd.f k a0 a1 j).bind (fun b=>if b.2 ≠ 0 then (some (((aG.mk (bF.mk 0 0 ([] : (List aZ))) 0 0 false (cA.mk 0 0 false false false false false false false false) 0 0 ([] : (List Int)) false false false false false false (dq.mk 0 0 false false (cA.mk 0 0 false false false false false false false false)) false (bF.mk 0 0 ([] : (List aZ))) ([] : (List Int))),b.2))) else (((sS.f ).bind (fun h=>(oN.f k a0).bind (fun c=>some (aG.mk b.1 0 0 false h 0 (i64.wrap (a1 - 1)) c true false false false false true (dq.mk 0 0 false false (cA.mk 0 0 false false false false false false false false)) false (bF.mk 0 0 ([] : (List aZ))) ([] : (List Int))))) : Option (aG)).bind (fun a=>(sS.f ).bind (fun d=>some ((({ a with f14:=(dq.mk a.f14.f0 a.f14.f1 a.f14.f2 a.f14.f3 d) }),0)))))))
theorem F8.ok {a0 : Int} {a1 : Int} {r : aG × Int} (H : F8.f k a0 a1 = some r) : df Tryz.prog 8 #[ae a0,ae a1] [] (fun v B=>∃ aP aO bA bv bq bp bB bw,v = .tuple #[.agg (al r.1 aP aO bA bv bq bp bB bw).toArray,ae r.2]∧B = (aS r.1 aP aO bA bv bq bp bB bw)):=by
 refine ai Tryz.func8 rfl rfl ?_
 unfold F8.f at H
 refine aQ (o' (cy (h:=fun O=>ad aV (h:=cV (ad ax (h:=S' ax ?_))))))
 obtain⟨r3,S,H⟩:=ac H
 refine o' (da [] [0] (sS.ok S) ?_)
 obtain⟨j,U,H⟩:=ac H
 refine o' (gu [] [0] (xd.ok U) fun l m=>?_)
 refine ad ax (h:=ad cg (h:=ad cg (h:=o' (cy (h:=fun Z=>o' (bg Z 0 2 [ae j.1.f0,ae j.1.f1,.slice l j.1.f2.length m] (h:=ad aV (h:=eJ (ad ax (h:=ad (dK rfl rfl) (h:=bC ?_)))))))))))
 rcases bH H with⟨J,H⟩|⟨J,H⟩
 ·refine aB rfl J (aQ (bO (.agg (al cx none 0 none 0 none 0 none 0).toArray) dA (h:=ad ax (h:=o' (bg O 0 1 (al cx none 0 none 0 none 0 none 0) (h:=ad aV (h:=cE ?_)))))))
  have h:=aN H;subst h
  exact lT [.cell 4 34,.tmp 5] ((Gh.nilBuf bE 55).trans ((Gh.nilBuf (Kd.int .i64) 3).trans ((Gh.nilBuf bE 55).trans ((Gh.nilBuf (Kd.int .i32) 21).trans (eY [3,4,5,6]))))) ⟨none,0,none,0,none,0,none,0,rfl,rfl⟩ ⟨cR 1,cP,trivial⟩
 refine aA rfl J (ap (aa (ao ?_)))
 obtain⟨o,H,K⟩:=ac H
 refine bI (fun e ds As=>∃ (L : Nat),∃ (q : Option Addr) (s : Nat),∃ (u : Option Addr) (y : Nat),∃ (z : Option Addr) (D : Nat),∃ (E : Option Addr) (F : Nat),St [(4,aK O),(8,aK L)] (aL L 34 (al o q s u y z D E F)::(aS o q s u y z D E F++[aL O 34 (al cx none 0 none 0 none 0 none 0)])) e ds As) ?_ ?_
 ·refine fk [0,2,3,4,6] [2] [0,1] fun _ _ _ _ _ sH dd pk=>?_
  refine bT 0 rfl sH (cG Z 0 0 [ae j.1.f0,ae j.1.f1,.slice l j.1.f2.length m]) (h:=bf 2 rfl sH ax (h:=bf 3 rfl sH (cY rfl rfl) (h:=T' 4 rfl sH ax ?_)))
  obtain⟨p,R,H⟩:=ac H
  obtain⟨d,I,H⟩:=ac H
  refine gM (rs:=[1,7]) dd (by kernel_rfl) (by decide) (bx ⟨_,rfl,(.no rfl),?_⟩ (bx ⟨_,rfl,(.no rfl),?_⟩ cO))
  ·refine id (da [] [0,1] (sS.ok R) ?_)
   refine gM (rs:=[5,7]) dd (by kernel_rfl) (by decide) (bx ⟨_,rfl,(.no rfl),?_⟩ (bx ⟨_,rfl,(.no rfl),?_⟩ cO))
   ·refine id (gu [] [0,1] (oN.ok I) fun a b=>?_)
    refine kY (.agg (al (aG.mk j.1 0 0 false p 0 (i64.wrap (a1 - 1)) d true false false false false true sM false nE ([] : (List Int))) l m a b none 0 none 0).toArray) 6 rfl sH dA (h:=dx 7 rfl dd (iO rfl lm fun c=>dx 8 rfl dd (bg c 0 3 (al (aG.mk j.1 0 0 false p 0 (i64.wrap (a1 - 1)) d true false false false false true sM false nE ([] : (List Int))) l m a b none 0 none 0) (h:=aW dd sH (aH (by kernel_rfl) ?_)))))
    have h:=aN H;subst h
    exact aa ⟨c,l,m,a,b,none,0,none,0,St.mk1 (cJ rfl (cJ rfl dQ)) ((Gh.nilBuf bE 55).trans ((Gh.nilBuf (Kd.int .i32) 21).trans (eY [4,2,1,5,6,3])))⟩
   refine id (iO rfl lm fun c=>dx 5 rfl dd (gu [] [0,1,2] (oN.ok I) fun a b=>?_))
   refine kY (.agg (al (aG.mk j.1 0 0 false p 0 (i64.wrap (a1 - 1)) d true false false false false true sM false nE ([] : (List Int))) l m a b none 0 none 0).toArray) 6 rfl sH dA (h:=dx 8 rfl dd (bg c 0 3 (al (aG.mk j.1 0 0 false p 0 (i64.wrap (a1 - 1)) d true false false false false true sM false nE ([] : (List Int))) l m a b none 0 none 0) (h:=aW dd sH (aH (by kernel_rfl) ?_))))
   have h:=aN H;subst h
   exact aa ⟨c,l,m,a,b,none,0,none,0,St.mk1 (cJ rfl (cJ rfl dQ)) ((Gh.nilBuf bE 55).trans ((Gh.nilBuf (Kd.int .i32) 21).trans (eY [4,2,1,5,6,3])))⟩
  refine id (iO rfl lm fun c=>dx 1 rfl dd (da [] [0,1,2] (sS.ok R) ?_))
  refine dx 5 rfl dd (gu [] [0,1,2] (oN.ok I) fun a b=>?_)
  refine kY (.agg (al (aG.mk j.1 0 0 false p 0 (i64.wrap (a1 - 1)) d true false false false false true sM false nE ([] : (List Int))) l m a b none 0 none 0).toArray) 6 rfl sH dA (h:=dx 8 rfl dd (bg c 0 3 (al (aG.mk j.1 0 0 false p 0 (i64.wrap (a1 - 1)) d true false false false false true sM false nE ([] : (List Int))) l m a b none 0 none 0) (h:=aW dd sH (aH (by kernel_rfl) ?_))))
  have h:=aN H;subst h
  exact aa ⟨c,l,m,a,b,none,0,none,0,St.mk1 (cJ rfl (cJ rfl dQ)) ((Gh.nilBuf bE 55).trans ((Gh.nilBuf (Kd.int .i32) 21).trans (eY [4,2,1,5,6,3])))⟩
 rintro e ds As ⟨L,q,s,u,y,z,D,E,F,M⟩
 clear H
 have H:=K
 clear K
 refine aa (SA.of_St M fun junk=>aQ ?_)
 obtain⟨N,Y,H⟩:=ac H
 refine o' (da [] [0,1,2,3,4,5] (sS.ok Y) ?_)
 refine ad aE (h:=ad aE (h:=o' (cH 0 (bG N) (h:=(cV (bD (ck 0) (h:=o' (bg O 0 5 (al ({ o with f14:=(dq.mk o.f14.f0 o.f14.f1 o.f14.f2 o.f14.f3 N) }) q s u y z D E F) (h:=ad aV (h:=cF ?_))))))))))
 have h:=aN H;subst h
 exact dt [.cell 4 34,.tmp 5] [1,2,3,4] ⟨q,s,u,y,z,D,E,F,rfl,rfl⟩ ⟨cR 5,cP,trivial⟩


def sY.f  : Option (cA):=some ((cA.mk (-1) (-1) false false false false false false false false))
theorem sY.ok  {r : cA} (H : sY.f  = some r) : fK Tryz.prog 25 #[] [] (.agg (bG r).toArray):=by
 refine ai Tryz.func25 rfl rfl ?_
 unfold sY.f at H
 refine aQ (o' (cy (h:=fun a=>cV (bO (.agg (bG (cA.mk (-1) (-1) false false false false false false false false)).toArray) dA (h:=o' (bg a 0 0 (bG (cA.mk (-1) (-1) false false false false false false false false)) (h:=cF ?_)))))))
 have h:=aN H;subst h
 exact gH (rs:=[.cell 0 28]) (vs:=[.agg (bG (cA.mk (-1) (-1) false false false false false false false false)).toArray]) [] rfl ⟨RV.cell (k:=0) rfl rfl Tryz.underlying28 rfl mZ,trivial⟩ rfl (eY []) ⟨rfl,rfl⟩


def pQ.f (a0 : Int) : Option (Bool):=lt ((decide (a0 ≥ 1)) && (decide (a0 ≤ 512))) fun a=>some (a)
theorem pQ.ok {a0 : Int} {r : Bool} (H : pQ.f a0 = some r) : fK Tryz.prog 70 #[ae a0] [] (.bool r):=by
 refine ai Tryz.func70 rfl rfl ?_
 unfold pQ.f at H
 refine aQ (ad aV (h:=cV (ad ax (h:=ad (dI rfl rfl) (h:=S' ax ?_)))))
 obtain⟨b,a,H⟩:=br H
 refine eg 3 [(8,.bool b)] [] ?_ fun junk=>?_
 ·by_cases h2 : a0 ≥ 1
  ·refine bn (ak h2) ax (h:=bn (ak h2) (fV rfl rfl) (h:=cq (ak h2) (h:=aj ?_)))
   have x_:=gD a ((ak h2));exact bM []
  refine cI 2 (am h2) (cv (am h2) (h:=aj ?_))
  have x_:=gC a ((am h2));exact bM []
 refine ad aV (h:=cF ?_)
 have h:=aN H;subst h
 exact er [] ⟨rfl,rfl⟩


def qd.f (a0 : Int) : Option (Bool):=lt ((decide (a0 ≥ (-1))) && (decide (a0 ≤ 255))) fun a=>some (a)
theorem qd.ok {a0 : Int} {r : Bool} (H : qd.f a0 = some r) : fK Tryz.prog 111 #[ae a0] [] (.bool r):=by
 refine ai Tryz.func111 rfl rfl ?_
 unfold qd.f at H
 refine aQ (ad aV (h:=cV (ad ax (h:=ad (dI rfl rfl) (h:=S' ax ?_)))))
 obtain⟨b,a,H⟩:=br H
 refine eg 3 [(8,.bool b)] [] ?_ fun junk=>?_
 ·by_cases h2 : a0 ≥ (-1)
  ·refine bn (ak h2) ax (h:=bn (ak h2) (fV rfl rfl) (h:=cq (ak h2) (h:=aj ?_)))
   have x_:=gD a ((ak h2));exact bM []
  refine cI 2 (am h2) (cv (am h2) (h:=aj ?_))
  have x_:=gC a ((am h2));exact bM []
 refine ad aV (h:=cF ?_)
 have h:=aN H;subst h
 exact er [] ⟨rfl,rfl⟩


def qR.f (a0 : cA) : Option (Bool):=(qd.f a0.f0).bind (fun a=>(if a = true then ((qd.f a0.f1).bind (fun b=>some b)) else (some false) : Option Bool).bind (fun c=>some (c)))
theorem qR.ok {a0 : cA} {r : Bool} (H : qR.f a0 = some r) : fK Tryz.prog 56 #[.agg (bG a0).toArray] [] (.bool r):=by
 refine ai Tryz.func56 rfl rfl ?_
 unfold qR.f at H
 refine aQ (o' (bN (h:=fun l=>ad aV (h:=cV (ad aE (h:=l' (aT 0) ?_))))))
 obtain⟨m,c,H⟩:=ac H
 refine o' (da [] [0] (qd.ok c) ?_)
 refine S' ax ?_
 obtain⟨d,H,b⟩:=ac H
 refine eg 4 [(10,.bool d)] [] ?_ fun junk=>?_
 ·rcases bH H with⟨a,H⟩|⟨a,H⟩
  ·refine bn a aE (h:=z' a (aT 0) ?_)
   obtain⟨o,j,H⟩:=ac H
   refine gE a (da [] [0] (qd.ok j) ?_)
   refine ii a ?_
   have h:=aN H;subst h
   exact dV []
  refine cI 3 (aX a) (gL (aX a) ?_)
  have h:=aN H;subst h
  exact dV []
 replace H:=b
 refine ad aV (h:=cF ?_)
 have h:=aN H;subst h
 exact er [] ⟨rfl,rfl⟩


def pN.f (a0 : cA) : Option (aZ):=(sY.f ).bind (fun a=>some ((aZ.mk 32 (fR.mk 0 0 0) 1 ({ a with f1:=a0.f1 }))))
theorem pN.ok {a0 : cA} {r : aZ} (H : pN.f a0 = some r) : fK Tryz.prog 71 #[.agg (bG a0).toArray] [] (.agg (bR r).toArray):=by
 refine ai Tryz.func71 rfl rfl ?_
 unfold pN.f at H
 refine aQ (o' (bN (h:=fun j=>o' (cy (h:=fun b=>cV ?_)))))
 obtain⟨a,c,H⟩:=ac H
 refine o' (da [] [0,1] (sY.ok c) ?_)
 refine o' (cy (h:=fun d=>o' (bg d 0 2 (bG a) (h:=cV (ad aE (h:=bD (aT 0) (h:=ad aE (h:=o' (cH 2 [ae a0.f1] (h:=(cV (bD (ck 2) (h:=s' (.agg (bR (aZ.mk 32 (fR.mk 0 0 0) 1 ({ a with f1:=a0.f1 }))).toArray) dA ?_)))))))))))))
 refine o' (bg b 0 1 (bR (aZ.mk 32 (fR.mk 0 0 0) 1 ({ a with f1:=a0.f1 }))) (h:=cF ?_))
 have h:=aN H;subst h
 exact gH (rs:=[.cell 2 55]) (vs:=[.agg (bR (aZ.mk 32 (fR.mk 0 0 0) 1 ({ a with f1:=a0.f1 }))).toArray]) [] rfl ⟨RV.cell (k:=1) rfl rfl Tryz.underlying55 rfl cl,trivial⟩ rfl (eY []) ⟨rfl,rfl⟩


def pw.l0 (a0 : Int) (a1 : Int) (a2 : cA) : Nat → bF → Int → Option (bF)
  | 0,_,_=>none
  | k + 1,a,b=>if b < (i64.wrap (a0 * a1)) then ((pN.f a2).bind (fun c=>if a.f2.length + ([c] : (List aZ)).length ≤ 2932031007402 then lt (a.f2 ++ ([c] : (List aZ))) fun d=>(lt (i64.wrap (b + 1)) fun h=>pw.l0 a0 a1 a2 k (bF.mk a.f0 a.f1 d) h) else none)) else (some a)
def pw.f (k : Nat) (a0 : Int) (a1 : Int) (a2 : cA) : Option (bF × Int):=(pQ.f a0).bind (fun d=>(if (!d) = true then (some true) else ((pQ.f a1).bind (fun h=>some (!h))) : Option Bool).bind (fun j=>(if j = true then (some true) else ((qR.f a2).bind (fun a=>some (!a))) : Option Bool).bind (fun b=>if b = true then (some (((bF.mk 0 0 ([] : (List aZ))),2))) else ((pw.l0 a0 a1 a2 k (bF.mk a0 a1 ([] : (List aZ))) 0 : Option (bF)).bind (fun c=>some ((c,0)))))))
theorem pw.ok {a0 : Int} {a1 : Int} {a2 : cA} {r : bF × Int} (H : pw.f k a0 a1 a2 = some r) : df Tryz.prog 24 #[ae a0,ae a1,.agg (bG a2).toArray] [] (fun v B=>∃ aP aO,v = .tuple #[.agg #[ae r.1.f0,ae r.1.f1,.slice aP r.1.f2.length aO],ae r.2]∧B = [Buf bE 55 aP aO r.1.f2]):=by
 refine ai Tryz.func24 rfl rfl ?_
 unfold pw.f at H
 refine aQ (o' (bN (h:=fun D=>o' (cy (h:=fun j=>ad aV (h:=eJ (S' ax ?_)))))))
 obtain⟨r5,a4,H⟩:=ac H
 refine o' (da [] [0,1] (pQ.ok a4) ?_)
 refine ad (ca rfl) (h:=S' ax ?_)
 obtain⟨q6,H,a6⟩:=ac H
 refine eg 4 [(0,ae a0),(1,ae a1),(5,aK D),(6,aK j),(17,.bool q6)] [aL D 28 (bG a2),aL j 26 [ae 0,ae 0,.slice none 0 0]] ?_ fun junk=>?_
 ·rcases bH H with⟨u,H⟩|⟨u,H⟩
  ·refine cI 3 u (ii u ?_)
   have h:=aN H;subst h
   exact dV [0,1]
  refine Y' (aX u) ax ?_
  obtain⟨r8,C9,H⟩:=ac H
  refine gE (aX u) (da [] [0,1] (pQ.ok C9) ?_)
  refine bn (aX u) (ca rfl) (h:=gL (aX u) ?_)
  have h:=aN H;subst h
  exact dV [0,1]
 replace H:=a6
 refine S' ax ?_
 obtain⟨a7,H,E⟩:=ac H
 refine cD 4 (St [(0,ae a0),(1,ae a1),(5,aK D),(6,aK j),(22,.bool a7)] [aL D 28 (bG a2),aL j 26 [ae 0,ae 0,.slice none 0 0]]) ?_ ?_
 ·rcases bH H with⟨d,H⟩|⟨d,H⟩
  ·refine cI 3 d (ii d ?_)
   have h:=aN H;subst h
   exact dV [0,1]
  refine z' (aX d) (ck 0) ?_
  obtain⟨b2,a8,H⟩:=ac H
  refine gE (aX d) (da [] [0,1] (qR.ok a8) ?_)
  refine bn (aX d) (ca rfl) (h:=gL (aX d) ?_)
  have h:=aN H;subst h
  exact dV [0,1]
 rintro e ds As S
 clear H
 have H:=E
 clear E
 refine bC (SA.of_St S fun junk=>?_)
 rcases bH H with⟨F,H⟩|⟨F,H⟩
 ·refine aC rfl F (aQ (bO (.agg #[ae 0,ae 0,.slice none 0 0]) dA (h:=o' (bg j 0 1 [ae 0,ae 0,.slice none 0 0] (h:=ad aV (h:=cE ?_))))))
  have h:=aN H;subst h
  exact lT [.cell 6 26,.tmp 7] ((Gh.nilBuf bE 55).trans (eY [2])) ⟨none,0,rfl,rfl⟩ ⟨cR 1,cP,trivial⟩
 refine aD rfl F (ap (aa (aQ (ad ax (h:=ad ax (h:=bO (.agg #[ae a0,ae a1,.slice none 0 0]) dA (h:=o' (cy (h:=fun a3=>o' (bg a3 0 2 [ae a0,ae a1,.slice none 0 0] (h:=eJ (ad aV (h:=bC ?_)))))))))))))
 obtain⟨b,H,I⟩:=ac H
 refine bI (fun e ds As=>∃ (z : Nat),∃ (l : Option Addr) (m : Nat),St [(6,aK j),(8,aK z)] [aL z 26 [ae b.f0,ae b.f1,.slice l b.f2.length m],Buf bE 55 l m b.f2,aL j 26 [ae 0,ae 0,.slice none 0 0]] e ds As) ?_ ?_
 ·refine aU (cw (fun k_ e ds As=>∃ (a : bF) (o : Int),∃ (p : Nat),∃ (q : Option Addr) (s : Nat),pw.l0 a0 a1 a2 k_ a o = some b∧St [(0,ae a0),(1,ae a1),(5,aK D),(6,aK j),(8,aK p),(9,ae o)] [aL D 28 (bG a2),aL j 26 [ae 0,ae 0,.slice none 0 0],aL p 26 [ae a.f0,ae a.f1,.slice q a.f2.length s],Buf bE 55 q s a.f2] e ds As) (k:=k) ⟨_,_,a3,none,0,H,St.mk1 (cJ rfl (cJ rfl (cJ rfl (cJ rfl (cJ rfl (cJ rfl dQ)))))) ((Gh.nilBuf bE 55).trans (eY [0,1,2,3]))⟩ ?_)
  clear H
  rintro J e ds As ⟨a,o,p,q,s,H,U⟩
  obtain _ | J:=J
  ·cases H
  rw [pw.l0] at H
  refine SA.of_St U fun junk=>ao (aQ (ad ax (h:=ad ax (h:=ad ax (h:=ad (jq rfl rfl) (h:=ad (cn rfl rfl) (h:=bC ?_)))))))
  rcases bH H with⟨K,H⟩|⟨K,H⟩
  ·refine aB rfl K (ap (aa (ao (aU ?_))))
   refine fk [0,1,2,6] [0,2] [1,3] fun _ _ _ _ _ sH dd pk=>?_
   refine bf 0 rfl sH aE (h:=bT 1 rfl sH (aT 1) (h:=r' 2 rfl sH (ck 0) ?_))
   obtain⟨y,a5,H⟩:=ac H
   refine dx 3 rfl dd (da [] [0,1] (pN.ok a5) ?_)
   refine dx 4 rfl dd (hU (kd:=bE) (zv:=(.agg (bR lP).toArray)) (sz:=15) (cells:=(bR y)) (xs:=([y] : (List aZ))) rfl Tryz.underlying24 jX cl rfl rfl rfl (by kernel_rfl) rfl rfl (dL di (fun _ _=>rfl) (by kernel_rfl)) fun a9=>?_)
   obtain⟨b0,H⟩:=aR H
   obtain⟨L,Y,H⟩:=br H
   refine dx 5 rfl dd (gZ (k:=1) (A:=q) (c:=s) (xs:=a.f2) (ys:=([y] : (List aZ))) L Y rfl Tryz.underlying24 nl rfl rfl rfl rfl rfl (oe.slice Tryz.underlying24 (Src.buf (k:=2) rfl)) (by omega) (by omega) fun M N=>bf 6 rfl sH aE (h:=aW dd sH (ey 7 rfl (cH 1 [.slice M L.length N] (h:=(aH (by kernel_rfl) (aF (aa (ah (ad ax (h:=S' (bV rfl rfl) ?_)))))))))))
   obtain⟨O,Z,H⟩:=br H
   refine bO (ae O) (bz (v:=ae O) (congrArg (Value.int .i64) Z.symm)) (h:=aj ?_)
   exact aa ⟨J,Nat.lt_succ_self _,_,_,p,M,N,H,ed [0,2,1,3]⟩
  refine aA rfl K (ct (bc (bc (cr ?_))))
  have h:=aN H;subst h
  exact aa ⟨p,q,s,ed [2,3,1]⟩
 rintro e ds As ⟨z,l,m,R⟩
 clear H
 have H:=I
 clear I
 refine aa (SA.of_St R fun junk=>aQ (bD (cG z 0 0 [ae b.f0,ae b.f1,.slice l b.f2.length m]) (h:=o' (bg j 0 2 [ae b.f0,ae b.f1,.slice l b.f2.length m] (h:=ad aV (h:=cF ?_))))))
 have h:=aN H;subst h
 exact dt [.cell 6 26,.tmp 7] [1] ⟨l,m,rfl,rfl⟩ ⟨cR 2,cP,trivial⟩


def pL.l0 (a0 : Int) : Nat → (List Int) → Int → Option ((List Int))
  | 0,_,_=>none
  | k + 1,b,a=>if a < a0 then (if b.length + ([a] : (List Int)).length ≤ 17592186044416 then lt (b ++ ([a] : (List Int))) fun n18=>(lt (i64.wrap (a + 8)) fun n19=>pL.l0 a0 k n18 n19) else none) else (some b)
def pL.f (k : Nat) (a0 : Int) : Option ((List Int)):=(pL.l0 a0 k ([]) 8 : Option ((List Int))).bind (fun a=>some (a))
theorem pL.ok {a0 : Int} {r : (List Int)} (H : pL.f k a0 = some r) : df Tryz.prog 26 #[ae a0] [] (fun v B=>∃ aP aO,v = .slice aP r.length aO∧B = [fm 3 aP aO r]):=by
 refine ai Tryz.func26 rfl rfl ?_
 unfold pL.f at H
 refine aQ (ad aV (h:=cV (ad aV (h:=eJ (ad aV (h:=bC ?_))))))
 obtain⟨s,H,q⟩:=ac H
 refine bI (fun e ds As=>∃ (m : Option Addr) (c3 : Nat),St [(3,.slice m s.length c3)] [fm 3 m c3 s] e ds As) ?_ ?_
 ·refine aU (cw (fun k_ e ds As=>∃ (b : (List Int)) (a : Int),∃ (d : Option Addr) (j : Nat),pL.l0 a0 k_ b a = some s∧St [(0,ae a0),(3,.slice d b.length j),(4,ae a)] [fm 3 d j b] e ds As) (k:=k) ⟨_,_,none,0,H,St.mk1 (cJ rfl (cJ rfl (cJ rfl dQ))) ((Gh.nilBuf (Kd.int .i64) 3).trans (eY [0]))⟩ ?_)
  clear H
  rintro u e ds As ⟨b,a,d,j,H,o⟩
  obtain _ | u:=u
  ·cases H
  rw [pL.l0] at H
  refine SA.of_St o fun junk=>ao (aQ (ad ax (h:=ad ax (h:=ad (cn rfl rfl) (h:=bC ?_)))))
  rcases bH H with⟨l,H⟩|⟨l,H⟩
  ·refine aB rfl l (ap (aa (ao (aU (ah (ad ax (h:=ad ax (h:=o' (hU (kd:=(Kd.int .i64)) (zv:=(ae 0)) (sz:=1) (cells:=[ae a]) (xs:=([a] : (List Int))) rfl Tryz.underlying29 ot jG rfl rfl rfl (by kernel_rfl) rfl rfl (dL (fun x_ : Int=>[Value.int .i64 x_]) (fun _ _=>rfl) (by kernel_rfl)) fun F=>?_)))))))))
   obtain⟨I,H⟩:=aR H
   obtain⟨n18,y,H⟩:=br H
   refine o' (gZ (k:=0) (A:=d) (c:=j) (xs:=b) (ys:=([a] : (List Int))) n18 y rfl Tryz.underlying29 qA rfl rfl rfl rfl rfl (oe.slice Tryz.underlying29 (Src.buf (k:=1) rfl)) (by omega) (by omega) fun D E=>ad aV (h:=aj (aF (aa (ah (ad ax (h:=S' (bV rfl rfl) ?_)))))))
   obtain⟨n19,z,H⟩:=br H
   refine bO (ae n19) (bz (v:=ae n19) (congrArg (Value.int .i64) z.symm)) (h:=aj ?_)
   exact aa ⟨u,Nat.lt_succ_self _,_,_,D,E,H,ed [0]⟩
  refine aA rfl l (ct (bc (bc (cr ?_))))
  have h:=aN H;subst h
  exact aa ⟨d,j,ed [0]⟩
 rintro e ds As ⟨m,c3,p⟩
 clear H
 have H:=q
 clear q
 refine aa (SA.of_St p fun junk=>aQ (ad ax (h:=ad aV (h:=cF ?_))))
 have h:=aN H;subst h
 exact er [0] ⟨m,c3,rfl,rfl⟩

end Go.Proofs.YtckilbegmbaeeaaGreat.Z3

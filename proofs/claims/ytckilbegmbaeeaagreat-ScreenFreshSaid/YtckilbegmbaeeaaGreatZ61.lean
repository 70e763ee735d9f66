/- Walks. -/
import Derived.Test.YtckilbegmbaeeaaGreatZ60
namespace Go.Proofs.YtckilbegmbaeeaaGreat.Z6
open Go Go.RowKit Go.Proofs.YtckilbegmbaeeaaGreat.SL
open Go.IntKind (i64)
set_option linter.unusedVariables false
set_option maxHeartbeats 20000000
set_option maxRecDepth 100000
set_option linter.unusedSimpArgs false
attribute [local irreducible] IntKind.wrap da fk gR kN kD po ky eS kF rd sub bytesOf ib dj
variable {ag az av ax cR dQ dG dR k : Nat}
variable {af ay au aw cQ dM dF dN : Option Addr}
def su.f  : Option (cM):=some ((cM.mk (-1) (-1) false false false false false false false false))
theorem su.ok  {r : cM} (H : su.f  = some r) : fS Tryz.prog 22 #[] [] (.agg (bF r).toArray):=by
 refine aj Tryz.func22 rfl rfl ?_
 unfold su.f at H
 refine aR (o' (cw (h:=fun a=>cP (bP (.agg (bF (cM.mk (-1) (-1) false false false false false false false false)).toArray) dP (h:=o' (bi a 0 0 (bF (cM.mk (-1) (-1) false false false false false false false false)) (h:=cC ?_)))))))
 have h:=aN H;subst h
 exact gi (rs:=[.cell 0 28]) (vs:=[.agg (bF (cM.mk (-1) (-1) false false false false false false false false)).toArray]) [] rfl ⟨RV.cell (k:=0) rfl rfl Tryz.underlying28 rfl mf,trivial⟩ rfl (eZ []) ⟨rfl,rfl⟩


def qF.f (a0 : Int) (a1 : Int) : Option (Bool):=lt ((decide (a0 ≥ 1)) && (decide (a0 ≤ 512))) fun a=>lt (a && (decide (a1 ≥ 1))) fun b=>lt (b && (decide (a1 ≤ 512))) fun c=>some (c)
theorem qF.ok {a0 : Int} {a1 : Int} {r : Bool} (H : qF.f a0 a1 = some r) : fS Tryz.prog 68 #[ae a0,ae a1] [] (.bool r):=by
 refine aj Tryz.func68 rfl rfl ?_
 unfold qF.f at H
 refine aR (ad aW (h:=cP (ad ar (h:=ad (dT rfl rfl) (h:=S' ar ?_)))))
 obtain⟨l,c,H⟩:=bj H
 refine dy 3 [(1,ae a1),(10,.bool l)] [] ?_ fun junk=>?_
 ·by_cases h2 : a0 ≥ 1
  ·refine bf (ai h2) ar (h:=bf (ai h2) (gG rfl rfl) (h:=cd (ai h2) (h:=ah ?_)))
   have x_:=fD c ((ai h2));exact bK []
  refine cu 2 (am h2) (ck (am h2) (h:=ah ?_))
  have x_:=fC c ((am h2));exact bK []
 refine S' ar ?_
 obtain⟨m,d,H⟩:=bj H
 refine dy 3 [(1,ae a1),(14,.bool m)] [] ?_ fun junk=>?_
 ·by_cases a : l = true
  ·refine bf a ar (h:=bf a (dT rfl rfl) (h:=cd a (h:=ah ?_)))
   have x_:=fD d a;exact bK []
  refine cu 2 (aM a) (ck (aM a) (h:=ah ?_))
  have x_:=fC d ((aM a));exact bK []
 refine S' ar ?_
 obtain⟨o,j,H⟩:=bj H
 refine dy 3 [(18,.bool o)] [] ?_ fun junk=>?_
 ·by_cases b : m = true
  ·refine bf b ar (h:=bf b (gG rfl rfl) (h:=cd b (h:=ah ?_)))
   have x_:=fD j b;exact bK []
  refine cu 2 (aM b) (ck (aM b) (h:=ah ?_))
  have x_:=fC j ((aM b));exact bK []
 refine ad aW (h:=cC ?_)
 have h:=aN H;subst h
 exact dX [] ⟨rfl,rfl⟩


def pK.f (a0 : Int) : Option (Bool):=lt ((decide (a0 ≥ (-1))) && (decide (a0 ≤ 255))) fun a=>some (a)
theorem pK.ok {a0 : Int} {r : Bool} (H : pK.f a0 = some r) : fS Tryz.prog 113 #[ae a0] [] (.bool r):=by
 refine aj Tryz.func113 rfl rfl ?_
 unfold pK.f at H
 refine aR (ad aW (h:=cP (ad ar (h:=ad (dT rfl rfl) (h:=S' ar ?_)))))
 obtain⟨b,a,H⟩:=bj H
 refine dy 3 [(8,.bool b)] [] ?_ fun junk=>?_
 ·by_cases h2 : a0 ≥ (-1)
  ·refine bf (ai h2) ar (h:=bf (ai h2) (gG rfl rfl) (h:=cd (ai h2) (h:=ah ?_)))
   have x_:=fD a ((ai h2));exact bK []
  refine cu 2 (am h2) (ck (am h2) (h:=ah ?_))
  have x_:=fC a ((am h2));exact bK []
 refine ad aW (h:=cC ?_)
 have h:=aN H;subst h
 exact dX [] ⟨rfl,rfl⟩


def qb.f (a0 : cM) : Option (Bool):=(pK.f a0.f0).bind (fun b=>(if b = true then ((pK.f a0.f1).bind (fun c=>some c)) else (some false) : Option Bool).bind (fun a=>some (a)))
theorem qb.ok {a0 : cM} {r : Bool} (H : qb.f a0 = some r) : fS Tryz.prog 58 #[.agg (bF a0).toArray] [] (.bool r):=by
 refine aj Tryz.func58 rfl rfl ?_
 unfold qb.f at H
 refine aR (o' (bO (h:=fun l=>ad aW (h:=cP (ad aA (h:=l' (aP 0) ?_))))))
 obtain⟨m,d,H⟩:=ac H
 refine o' (dc [] [0] (pK.ok d) ?_)
 refine S' ar ?_
 obtain⟨j,H,b⟩:=ac H
 refine dy 4 [(10,.bool j)] [] ?_ fun junk=>?_
 ·rcases bE H with⟨a,H⟩|⟨a,H⟩
  ·refine bf a aA (h:=z' a (aP 0) ?_)
   obtain⟨o,c,H⟩:=ac H
   refine fT a (dc [] [0] (pK.ok c) ?_)
   refine gN a ?_
   have h:=aN H;subst h
   exact dL []
  refine cu 3 (aM a) (fZ (aM a) ?_)
  have h:=aN H;subst h
  exact dL []
 replace H:=b
 refine ad aW (h:=cC ?_)
 have h:=aN H;subst h
 exact dX [] ⟨rfl,rfl⟩


def nA.f (a0 : cM) : Option (aY):=(su.f ).bind (fun a=>some ((aY.mk 32 (fX.mk 0 0 0) 1 ({ a with f1:=a0.f1 }))))
theorem nA.ok {a0 : cM} {r : aY} (H : nA.f a0 = some r) : fS Tryz.prog 147 #[.agg (bF a0).toArray] [] (.agg (bV r).toArray):=by
 refine aj Tryz.func147 rfl rfl ?_
 unfold nA.f at H
 refine aR (o' (bO (h:=fun j=>o' (cw (h:=fun c=>cP ?_)))))
 obtain⟨a,b,H⟩:=ac H
 refine o' (dc [] [0,1] (su.ok b) ?_)
 refine o' (cw (h:=fun d=>o' (bi d 0 2 (bF a) (h:=cP (ad aA (h:=bp (aP 0) (h:=ad aA (h:=o' (cF 2 [ae a0.f1] (h:=(cP (bp (cm 2) (h:=s' (.agg (bV (aY.mk 32 (fX.mk 0 0 0) 1 ({ a with f1:=a0.f1 }))).toArray) dP ?_)))))))))))))
 refine o' (bi c 0 1 (bV (aY.mk 32 (fX.mk 0 0 0) 1 ({ a with f1:=a0.f1 }))) (h:=cC ?_))
 have h:=aN H;subst h
 exact gi (rs:=[.cell 2 55]) (vs:=[.agg (bV (aY.mk 32 (fX.mk 0 0 0) 1 ({ a with f1:=a0.f1 }))).toArray]) [] rfl ⟨RV.cell (k:=1) rfl rfl Tryz.underlying55 rfl cl,trivial⟩ rfl (eZ []) ⟨rfl,rfl⟩


def gP.l0 (l0 : (List aY)) (r4 : aY) : Nat → Int → (List aY) → Option ((List aY))
  | 0,_,_=>none
  | k + 1,b,a=>if a.length = l0.length then (if b < (l0.length : Int) then (if 0 ≤ b∧b < (a.length : Int) then (lt (a.set b.toNat r4) fun n13=>(gP.l0 l0 r4 k (i64.wrap (b + 1)) n13)) else none) else (some a)) else none
def gP.f (k : Nat) (l0 : (List aY)) (a1 : cM) : Option ((List aY)):=(nA.f a1).bind (fun b=>(gP.l0 l0 b k 0 l0 : Option ((List aY))).bind (fun a=>if a.length = l0.length then (some (a)) else none))
theorem gP.ok {l0 : (List aY)} {a1 : cM} {A0 : Option Addr} {c0 : Nat} {r : (List aY)} (H : gP.f k l0 a1 = some r) : dk Tryz.prog 116 #[.slice A0 l0.length c0,.agg (bF a1).toArray] [Buf bD 55 A0 c0 l0] (fun v B=>v = .tuple #[]∧B = [Buf bD 55 A0 c0 r]):=by
 refine aj Tryz.func116 rfl rfl ?_
 unfold gP.f at H
 refine aR (o' (bO (h:=fun J=>cP (l' (cm 1) ?_))))
 obtain⟨l,E,H⟩:=ac H
 refine o' (dc [] [0,1] (nA.ok E) ?_)
 refine o' (cw (h:=fun u=>o' (bi u 0 2 (bV l) (h:=cP (ad ar (h:=bP (ae (l0.length : Int)) (cO Tryz.underlying24 rfl) (h:=ad ar (h:=bA ?_))))))))
 obtain⟨D,H,p⟩:=ac H
 refine bI (St [] [Buf bD 55 A0 c0 D]) ?_ ?_
 ·refine aQ (cj (fun k_ e ds As=>∃ (b : Int) (a : (List aY)),gP.l0 l0 l k_ b a = some D∧St [(0,.slice A0 a.length c0),(4,aH u),(9,ae (l0.length : Int)),(10,ae b)] [Buf bD 55 A0 c0 a,aK u 55 (bV l)] e ds As) (k:=k) ⟨_,_,H,jV [0,2]⟩ ?_)
  clear H
  rintro z e ds As ⟨b,a,H,y⟩
  obtain _ | z:=z
  ·cases H
  rw [gP.l0] at H
  obtain⟨F,H⟩:=aO H
  refine SA.of_St y fun junk=>aR (ad (ce rfl rfl) (h:=bA (ao ?_)))
  rcases bE H with⟨c,H⟩|⟨c,H⟩
  ·refine aC rfl c (ap (aa (ao (aQ (aR (ad ar (h:=ad aW (h:=bA (ak (ad ar (h:=ad ar (h:=l' (cm 1) ?_))))))))))))
   obtain⟨⟨q,s⟩,H⟩:=aO H
   refine l' (bu (i:=b) Tryz.underlying24 cl rfl rfl (Src.buf (k:=0) rfl) q s) ?_
   obtain⟨n13,d,H⟩:=bj H
   have hl_n13 : n13.length = a.length:=by rw [d]; exact List.length_set
   refine o' (fW (k:=0) (i:=b) (j:=b.toNat * 15) (m:=0) (sz:=15) (xs:=a) (vs:=(bV l)) l rfl rfl rfl rfl rfl rfl rfl rfl cl q s rfl (fun _ _ h_=>by subst h_; rfl) ?_)
   rewrite [← d]
   try unfold bF
   try rewrite [← hl_n13]
   refine ah (aF (aa (ak (ad (bW rfl rfl) (h:=ad ar (h:=ah ?_))))))
   exact aa ⟨z,Nat.lt_succ_self _,_,_,H,dZ [0,1]⟩
  refine aB rfl c (cf (aX (aX (cg ?_))))
  have h:=aN H;subst h
  exact bK [0]
 rintro e ds As o
 clear H
 have H:=p
 clear p
 obtain⟨I,H⟩:=aO H
 have h:=aN H;subst h
 exact nz o [Buf bD 55 A0 c0 D] rfl (eZ [0]) ⟨rfl,rfl⟩


def ta.f (k : Nat) (a0 : Int) (a1 : Int) (a2 : cM) : Option (bH):=if 0 ≤ (i64.wrap (a0 * a1))∧(i64.wrap (a0 * a1)) ≤ 2932031007402 then lt (List.replicate (i64.wrap (a0 * a1)).toNat (aY.mk 0 (fX.mk 0 0 0) 0 (cM.mk 0 0 false false false false false false false false))) fun n9=>((gP.f k n9 a2).bind (fun a=>if a.length = n9.length then (some ((bH.mk a0 a1 a))) else none)) else none
theorem ta.ok {a0 : Int} {a1 : Int} {a2 : cM} {r : bH} (H : ta.f k a0 a1 a2 = some r) : dk Tryz.prog 69 #[ae a0,ae a1,.agg (bF a2).toArray] [] (fun v B=>∃ aS aT,v = .agg #[ae r.f0,ae r.f1,.slice aS r.f2.length aT]∧B = [Buf bD 55 aS aT r.f2]):=by
 refine aj Tryz.func69 rfl rfl ?_
 unfold ta.f at H
 refine aR (o' (bO (h:=fun s=>o' (cw (h:=fun o=>cP (ad ar (h:=ad ar (h:=ad ar (h:=ad ar (h:=S' (jt rfl rfl) ?_))))))))))
 obtain⟨⟨p,u⟩,H⟩:=aO H
 obtain⟨n9,m,H⟩:=bj H
 refine o' (vD (kd:=bD) (sz:=15) (l:=i64.wrap (a0 * a1)) lC n9 m rfl Tryz.underlying24 mC rfl rfl p (by omega) (by omega) rfl rfl (fun _=>rfl) fun a=>bP (.agg #[ae a0,ae a1,.slice (some ⟨a,0,none⟩) n9.length ((i64.wrap (a0 * a1)).toNat)]) dP (h:=o' (cw (h:=fun c=>o' (bi c 0 3 [ae a0,ae a1,.slice (some ⟨a,0,none⟩) n9.length ((i64.wrap (a0 * a1)).toNat)] (h:=bA (ao (bM 2 fun q=>ak (ad aA (h:=bp (aP 3) (h:=l' (cm 0) ?_)))))))))))
 obtain⟨b,j,H⟩:=ac H
 obtain⟨d,H⟩:=aO H
 refine o' (dc [2] [0,1,3] (gP.ok (A0:=some ⟨a,0,none⟩) (c0:=(i64.wrap (a0 * a1)).toNat) j) ?_)
 try unfold bF
 try rewrite [← d]
 refine cP (bp (cz c 0 3 [ae a0,ae a1,.slice (some ⟨a,0,none⟩) b.length ((i64.wrap (a0 * a1)).toNat)]) (h:=o' (bi o 0 2 [ae a0,ae a1,.slice (some ⟨a,0,none⟩) b.length ((i64.wrap (a0 * a1)).toNat)] (h:=cC ?_))))
 have h:=aN H;subst h
 exact gi (rs:=[.cell 6 26]) (vs:=[.agg #[ae a0,ae a1,.slice (some ⟨a,0,none⟩) b.length ((i64.wrap (a0 * a1)).toNat)]]) [Buf bD 55 (some ⟨a,0,none⟩) ((i64.wrap (a0 * a1)).toNat) b] rfl ⟨RV.cell (k:=2) rfl rfl Tryz.underlying26 rfl uw,trivial⟩ rfl (eZ [0]) ⟨some ⟨a,0,none⟩,(i64.wrap (a0 * a1)).toNat,rfl,rfl⟩


def wc.f (k : Nat) (a0 : Int) (a1 : Int) (a2 : cM) : Option (bH × Int):=(qF.f a0 a1).bind (fun c=>(if (!c) = true then (some true) else ((qb.f a2).bind (fun d=>some (!d))) : Option Bool).bind (fun b=>if b = true then (some (((bH.mk 0 0 ([] : (List aY))),2))) else ((ta.f k a0 a1 a2).bind (fun a=>some ((a,0))))))
theorem wc.ok {a0 : Int} {a1 : Int} {a2 : cM} {r : bH × Int} (H : wc.f k a0 a1 a2 = some r) : dk Tryz.prog 21 #[ae a0,ae a1,.agg (bF a2).toArray] [] (fun v B=>∃ aS aT,v = .tuple #[.agg #[ae r.1.f0,ae r.1.f1,.slice aS r.1.f2.length aT],ae r.2]∧B = [Buf bD 55 aS aT r.1.f2]):=by
 refine aj Tryz.func21 rfl rfl ?_
 unfold wc.f at H
 refine aR (o' (bO (h:=fun s=>o' (cw (h:=fun d=>ad aW (h:=eD (ad ar (h:=S' ar ?_))))))))
 obtain⟨z,q,H⟩:=ac H
 refine o' (dc [] [0,1] (qF.ok q) ?_)
 refine ad (bX rfl) (h:=S' ar ?_)
 obtain⟨y,H,m⟩:=ac H
 refine cK 4 (St [(0,ae a0),(1,ae a1),(5,aH s),(6,aH d),(16,.bool y)] [aK s 28 (bF a2),aK d 26 [ae 0,ae 0,.slice none 0 0]]) ?_ ?_
 ·rcases bE H with⟨a,H⟩|⟨a,H⟩
  ·refine cu 3 a (gN a ?_)
   have h:=aN H;subst h
   exact dL [0,1]
  refine z' (aM a) (cm 0) ?_
  obtain⟨D,u,H⟩:=ac H
  refine fT (aM a) (dc [] [0,1] (qb.ok u) ?_)
  refine bf (aM a) (bX rfl) (h:=fZ (aM a) ?_)
  have h:=aN H;subst h
  exact dL [0,1]
 rintro e ds As j
 clear H
 have H:=m
 clear m
 refine bA (SA.of_St j fun junk=>?_)
 rcases bE H with⟨b,H⟩|⟨b,H⟩
 ·refine aD rfl b (aR (bP (.agg #[ae 0,ae 0,.slice none 0 0]) dP (h:=o' (bi d 0 1 [ae 0,ae 0,.slice none 0 0] (h:=ad aW (h:=cD ?_))))))
  have h:=aN H;subst h
  exact ma [.cell 6 26,.tmp 7] ((Gh.nilBuf bD 55).trans (eZ [2])) ⟨none,0,rfl,rfl⟩ ⟨cV 1,cW,trivial⟩
 refine aE rfl b (ap (aa (aR (ad ar (h:=ad ar (h:=l' (cm 0) ?_))))))
 obtain⟨c,p,H⟩:=ac H
 refine o' (gy [] [0,1] (ta.ok p) fun l o=>?_)
 refine o' (bi d 0 2 [ae c.f0,ae c.f1,.slice l c.f2.length o] (h:=ad aW (h:=cC ?_)))
 have h:=aN H;subst h
 exact du [.cell 6 26,.tmp 7] [0] ⟨l,o,rfl,rfl⟩ ⟨cV 2,cW,trivial⟩


def oA.l0 (a0 : Int) : Nat → (List Int) → Int → Option ((List Int))
  | 0,_,_=>none
  | k + 1,b,a=>if a < a0 then (if b.length + ([a] : (List Int)).length ≤ 17592186044416 then lt (b ++ ([a] : (List Int))) fun n18=>(lt (i64.wrap (a + 8)) fun n19=>oA.l0 a0 k n18 n19) else none) else (some b)
def oA.f (k : Nat) (a0 : Int) : Option ((List Int)):=(oA.l0 a0 k ([]) 8 : Option ((List Int))).bind (fun a=>some (a))
theorem oA.ok {a0 : Int} {r : (List Int)} (H : oA.f k a0 = some r) : dk Tryz.prog 23 #[ae a0] [] (fun v B=>∃ aS aT,v = .slice aS r.length aT∧B = [gf 3 aS aT r]):=by
 refine aj Tryz.func23 rfl rfl ?_
 unfold oA.f at H
 refine aR (ad aW (h:=cP (ad aW (h:=eD (ad aW (h:=bA ?_))))))
 obtain⟨z,H,q⟩:=ac H
 refine bI (fun e ds As=>∃ (m : Option Addr) (c3 : Nat),St [(3,.slice m z.length c3)] [gf 3 m c3 z] e ds As) ?_ ?_
 ·refine aQ (cj (fun k_ e ds As=>∃ (b : (List Int)) (a : Int),∃ (d : Option Addr) (j : Nat),oA.l0 a0 k_ b a = some z∧St [(0,ae a0),(3,.slice d b.length j),(4,ae a)] [gf 3 d j b] e ds As) (k:=k) ⟨_,_,none,0,H,St.mk1 (cB rfl (cB rfl (cB rfl dS))) ((Gh.nilBuf (Kd.int .i64) 3).trans (eZ [0]))⟩ ?_)
  clear H
  rintro y e ds As ⟨b,a,d,j,H,o⟩
  obtain _ | y:=y
  ·cases H
  rw [oA.l0] at H
  refine SA.of_St o fun junk=>ao (aR (ad ar (h:=ad ar (h:=ad (ce rfl rfl) (h:=bA ?_)))))
  rcases bE H with⟨l,H⟩|⟨l,H⟩
  ·refine aC rfl l (ap (aa (ao (aQ (ak (ad ar (h:=ad ar (h:=o' (gE (kd:=(Kd.int .i64)) (zv:=(ae 0)) (sz:=1) (cells:=[ae a]) (xs:=([a] : (List Int))) rfl Tryz.underlying29 np jl rfl rfl rfl (by kernel_rfl) rfl rfl (dO (fun x_ : Int=>[Value.int .i64 x_]) (fun _ _=>rfl) (by kernel_rfl)) fun F=>?_)))))))))
   obtain⟨I,H⟩:=aO H
   obtain⟨n18,s,H⟩:=bj H
   refine o' (gl (k:=0) (A:=d) (c:=j) (xs:=b) (ys:=([a] : (List Int))) n18 s rfl Tryz.underlying29 pf rfl rfl rfl rfl rfl (ng.slice Tryz.underlying29 (Src.buf (k:=1) rfl)) (by omega) (by omega) fun D E=>ad aW (h:=ah (aF (aa (ak (ad ar (h:=S' (bW rfl rfl) ?_)))))))
   obtain⟨n19,u,H⟩:=bj H
   refine bP (ae n19) (bo (v:=ae n19) (congrArg (Value.int .i64) u.symm)) (h:=ah ?_)
   exact aa ⟨y,Nat.lt_succ_self _,_,_,D,E,H,dZ [0]⟩
  refine aB rfl l (cf (aX (aX (cg ?_))))
  have h:=aN H;subst h
  exact aa ⟨d,j,dZ [0]⟩
 rintro e ds As ⟨m,c3,p⟩
 clear H
 have H:=q
 clear q
 refine aa (SA.of_St p fun junk=>aR (ad ar (h:=ad aW (h:=cC ?_))))
 have h:=aN H;subst h
 exact dX [0] ⟨m,c3,rfl,rfl⟩


def F8.f (k : Nat) (a0 : Int) (a1 : Int) : Option (aJ × Int):=(su.f ).bind (fun j=>(wc.f k a0 a1 j).bind (fun c=>if c.2 ≠ 0 then (some (((aJ.mk (bH.mk 0 0 ([] : (List aY))) 0 0 false (cM.mk 0 0 false false false false false false false false) 0 0 ([] : (List Int)) false false false false false false (dz.mk 0 0 false false (cM.mk 0 0 false false false false false false false false)) false (bH.mk 0 0 ([] : (List aY))) ([] : (List Int))),c.2))) else (((su.f ).bind (fun h=>(oA.f k a0).bind (fun b=>some (aJ.mk c.1 0 0 false h 0 (i64.wrap (a1 - 1)) b true false false false false true (dz.mk 0 0 false false (cM.mk 0 0 false false false false false false false false)) false (bH.mk 0 0 ([] : (List aY))) ([] : (List Int))))) : Option (aJ)).bind (fun a=>(su.f ).bind (fun d=>some ((({ a with f14:=(dz.mk a.f14.f0 a.f14.f1 a.f14.f2 a.f14.f3 d) }),0)))))))
theorem F8.ok {a0 : Int} {a1 : Int} {r : aJ × Int} (H : F8.f k a0 a1 = some r) : dk Tryz.prog 8 #[ae a0,ae a1] [] (fun v B=>∃ aS aT bv bx bq br bw bz,v = .tuple #[.agg (al r.1 aS aT bv bx bq br bw bz).toArray,ae r.2]∧B = (bn r.1 aS aT bv bx bq br bw bz)):=by
 refine aj Tryz.func8 rfl rfl ?_
 unfold F8.f at H
 refine aR (o' (cw (h:=fun O=>ad aW (h:=cP (ad ar (h:=S' ar ?_))))))
 obtain⟨r3,Y,H⟩:=ac H
 refine o' (dc [] [0] (su.ok Y) ?_)
 obtain⟨j,U,H⟩:=ac H
 refine o' (gy [] [0] (wc.ok U) fun l m=>?_)
 refine ad ar (h:=ad cr (h:=ad cr (h:=o' (cw (h:=fun Z=>o' (bi Z 0 2 [ae j.1.f0,ae j.1.f1,.slice l j.1.f2.length m] (h:=ad aW (h:=eD (ad ar (h:=ad (dK rfl rfl) (h:=bA ?_)))))))))))
 rcases bE H with⟨L,H⟩|⟨L,H⟩
 ·refine aC rfl L (aR (bP (.agg (al cy none 0 none 0 none 0 none 0).toArray) dP (h:=ad ar (h:=o' (bi O 0 1 (al cy none 0 none 0 none 0 none 0) (h:=ad aW (h:=cD ?_)))))))
  have h:=aN H;subst h
  exact ma [.cell 4 34,.tmp 5] ((Gh.nilBuf bD 55).trans ((Gh.nilBuf (Kd.int .i64) 3).trans ((Gh.nilBuf bD 55).trans ((Gh.nilBuf (Kd.int .i32) 21).trans (eZ [3,4,5,6]))))) ⟨none,0,none,0,none,0,none,0,rfl,rfl⟩ ⟨cV 1,cW,trivial⟩
 refine aB rfl L (ap (aa (ao ?_)))
 obtain⟨o,H,J⟩:=ac H
 refine bI (fun e ds As=>∃ (K : Nat),∃ (q : Option Addr) (z : Nat),∃ (s : Option Addr) (D : Nat),∃ (u : Option Addr) (E : Nat),∃ (y : Option Addr) (F : Nat),St [(4,aH O),(8,aH K)] (aK K 34 (al o q z s D u E y F)::(bn o q z s D u E y F++[aK O 34 (al cy none 0 none 0 none 0 none 0)])) e ds As) ?_ ?_
 ·refine fj [0,2,3,4,6] [2] [0,1] fun _ _ _ _ _ sH dd pk=>?_
  refine bQ 0 rfl sH (cz Z 0 0 [ae j.1.f0,ae j.1.f1,.slice l j.1.f2.length m]) (h:=bc 2 rfl sH ar (h:=bc 3 rfl sH (cT rfl rfl) (h:=T' 4 rfl sH ar ?_)))
  obtain⟨p,R,H⟩:=ac H
  obtain⟨d,I,H⟩:=ac H
  refine iE (rs:=[1,7]) dd (by kernel_rfl) (by decide) (bG ⟨_,rfl,(.no rfl),?_⟩ (bG ⟨_,rfl,(.no rfl),?_⟩ df))
  ·refine id (dc [] [0,1] (su.ok R) ?_)
   refine iE (rs:=[5,7]) dd (by kernel_rfl) (by decide) (bG ⟨_,rfl,(.no rfl),?_⟩ (bG ⟨_,rfl,(.no rfl),?_⟩ df))
   ·refine id (gy [] [0,1] (oA.ok I) fun a b=>?_)
    refine kV (.agg (al (aJ.mk j.1 0 0 false p 0 (i64.wrap (a1 - 1)) d true false false false false true sV false pz ([] : (List Int))) l m a b none 0 none 0).toArray) 6 rfl sH dP (h:=dU 7 rfl dd (mm rfl pC fun c=>dU 8 rfl dd (bi c 0 3 (al (aJ.mk j.1 0 0 false p 0 (i64.wrap (a1 - 1)) d true false false false false true sV false pz ([] : (List Int))) l m a b none 0 none 0) (h:=aV dd sH (aI (by kernel_rfl) ?_)))))
    have h:=aN H;subst h
    exact aa ⟨c,l,m,a,b,none,0,none,0,St.mk1 (cB rfl (cB rfl dS)) ((Gh.nilBuf bD 55).trans ((Gh.nilBuf (Kd.int .i32) 21).trans (eZ [4,2,1,5,6,3])))⟩
   refine id (mm rfl pC fun c=>dU 5 rfl dd (gy [] [0,1,2] (oA.ok I) fun a b=>?_))
   refine kV (.agg (al (aJ.mk j.1 0 0 false p 0 (i64.wrap (a1 - 1)) d true false false false false true sV false pz ([] : (List Int))) l m a b none 0 none 0).toArray) 6 rfl sH dP (h:=dU 8 rfl dd (bi c 0 3 (al (aJ.mk j.1 0 0 false p 0 (i64.wrap (a1 - 1)) d true false false false false true sV false pz ([] : (List Int))) l m a b none 0 none 0) (h:=aV dd sH (aI (by kernel_rfl) ?_))))
   have h:=aN H;subst h
   exact aa ⟨c,l,m,a,b,none,0,none,0,St.mk1 (cB rfl (cB rfl dS)) ((Gh.nilBuf bD 55).trans ((Gh.nilBuf (Kd.int .i32) 21).trans (eZ [4,2,1,5,6,3])))⟩
  refine id (mm rfl pC fun c=>dU 1 rfl dd (dc [] [0,1,2] (su.ok R) ?_))
  refine dU 5 rfl dd (gy [] [0,1,2] (oA.ok I) fun a b=>?_)
  refine kV (.agg (al (aJ.mk j.1 0 0 false p 0 (i64.wrap (a1 - 1)) d true false false false false true sV false pz ([] : (List Int))) l m a b none 0 none 0).toArray) 6 rfl sH dP (h:=dU 8 rfl dd (bi c 0 3 (al (aJ.mk j.1 0 0 false p 0 (i64.wrap (a1 - 1)) d true false false false false true sV false pz ([] : (List Int))) l m a b none 0 none 0) (h:=aV dd sH (aI (by kernel_rfl) ?_))))
  have h:=aN H;subst h
  exact aa ⟨c,l,m,a,b,none,0,none,0,St.mk1 (cB rfl (cB rfl dS)) ((Gh.nilBuf bD 55).trans ((Gh.nilBuf (Kd.int .i32) 21).trans (eZ [4,2,1,5,6,3])))⟩
 rintro e ds As ⟨K,q,z,s,D,u,E,y,F,M⟩
 clear H
 have H:=J
 clear J
 refine aa (SA.of_St M fun junk=>aR ?_)
 obtain⟨N,S,H⟩:=ac H
 refine o' (dc [] [0,1,2,3,4,5] (su.ok S) ?_)
 refine ad aA (h:=ad aA (h:=o' (cF 0 (bF N) (h:=(cP (bp (cm 0) (h:=o' (bi O 0 5 (al ({ o with f14:=(dz.mk o.f14.f0 o.f14.f1 o.f14.f2 o.f14.f3 N) }) q z s D u E y F) (h:=ad aW (h:=cC ?_))))))))))
 have h:=aN H;subst h
 exact du [.cell 4 34,.tmp 5] [1,2,3,4] ⟨q,z,s,D,u,E,y,F,rfl,rfl⟩ ⟨cV 5,cW,trivial⟩


def xH.f  : Option (cM):=some ((cM.mk (-1) (-1) false false false false false false false false))
theorem xH.ok  {r : cM} (H : xH.f  = some r) : fS Tryz.prog 25 #[] [] (.agg (bF r).toArray):=by
 refine aj Tryz.func25 rfl rfl ?_
 unfold xH.f at H
 refine aR (o' (cw (h:=fun a=>cP (bP (.agg (bF (cM.mk (-1) (-1) false false false false false false false false)).toArray) dP (h:=o' (bi a 0 0 (bF (cM.mk (-1) (-1) false false false false false false false false)) (h:=cC ?_)))))))
 have h:=aN H;subst h
 exact gi (rs:=[.cell 0 28]) (vs:=[.agg (bF (cM.mk (-1) (-1) false false false false false false false false)).toArray]) [] rfl ⟨RV.cell (k:=0) rfl rfl Tryz.underlying28 rfl mf,trivial⟩ rfl (eZ []) ⟨rfl,rfl⟩


def oU.f (a0 : Int) : Option (Bool):=lt ((decide (a0 ≥ 1)) && (decide (a0 ≤ 512))) fun a=>some (a)
theorem oU.ok {a0 : Int} {r : Bool} (H : oU.f a0 = some r) : fS Tryz.prog 70 #[ae a0] [] (.bool r):=by
 refine aj Tryz.func70 rfl rfl ?_
 unfold oU.f at H
 refine aR (ad aW (h:=cP (ad ar (h:=ad (dT rfl rfl) (h:=S' ar ?_)))))
 obtain⟨b,a,H⟩:=bj H
 refine dy 3 [(8,.bool b)] [] ?_ fun junk=>?_
 ·by_cases h2 : a0 ≥ 1
  ·refine bf (ai h2) ar (h:=bf (ai h2) (gG rfl rfl) (h:=cd (ai h2) (h:=ah ?_)))
   have x_:=fD a ((ai h2));exact bK []
  refine cu 2 (am h2) (ck (am h2) (h:=ah ?_))
  have x_:=fC a ((am h2));exact bK []
 refine ad aW (h:=cC ?_)
 have h:=aN H;subst h
 exact dX [] ⟨rfl,rfl⟩


def pJ.f (a0 : Int) : Option (Bool):=lt ((decide (a0 ≥ (-1))) && (decide (a0 ≤ 255))) fun a=>some (a)
theorem pJ.ok {a0 : Int} {r : Bool} (H : pJ.f a0 = some r) : fS Tryz.prog 111 #[ae a0] [] (.bool r):=by
 refine aj Tryz.func111 rfl rfl ?_
 unfold pJ.f at H
 refine aR (ad aW (h:=cP (ad ar (h:=ad (dT rfl rfl) (h:=S' ar ?_)))))
 obtain⟨b,a,H⟩:=bj H
 refine dy 3 [(8,.bool b)] [] ?_ fun junk=>?_
 ·by_cases h2 : a0 ≥ (-1)
  ·refine bf (ai h2) ar (h:=bf (ai h2) (gG rfl rfl) (h:=cd (ai h2) (h:=ah ?_)))
   have x_:=fD a ((ai h2));exact bK []
  refine cu 2 (am h2) (ck (am h2) (h:=ah ?_))
  have x_:=fC a ((am h2));exact bK []
 refine ad aW (h:=cC ?_)
 have h:=aN H;subst h
 exact dX [] ⟨rfl,rfl⟩


def qa.f (a0 : cM) : Option (Bool):=(pJ.f a0.f0).bind (fun b=>(if b = true then ((pJ.f a0.f1).bind (fun c=>some c)) else (some false) : Option Bool).bind (fun a=>some (a)))
theorem qa.ok {a0 : cM} {r : Bool} (H : qa.f a0 = some r) : fS Tryz.prog 56 #[.agg (bF a0).toArray] [] (.bool r):=by
 refine aj Tryz.func56 rfl rfl ?_
 unfold qa.f at H
 refine aR (o' (bO (h:=fun l=>ad aW (h:=cP (ad aA (h:=l' (aP 0) ?_))))))
 obtain⟨m,d,H⟩:=ac H
 refine o' (dc [] [0] (pJ.ok d) ?_)
 refine S' ar ?_
 obtain⟨j,H,b⟩:=ac H
 refine dy 4 [(10,.bool j)] [] ?_ fun junk=>?_
 ·rcases bE H with⟨a,H⟩|⟨a,H⟩
  ·refine bf a aA (h:=z' a (aP 0) ?_)
   obtain⟨o,c,H⟩:=ac H
   refine fT a (dc [] [0] (pJ.ok c) ?_)
   refine gN a ?_
   have h:=aN H;subst h
   exact dL []
  refine cu 3 (aM a) (fZ (aM a) ?_)
  have h:=aN H;subst h
  exact dL []
 replace H:=b
 refine ad aW (h:=cC ?_)
 have h:=aN H;subst h
 exact dX [] ⟨rfl,rfl⟩


def pE.f (a0 : cM) : Option (aY):=(xH.f ).bind (fun a=>some ((aY.mk 32 (fX.mk 0 0 0) 1 ({ a with f1:=a0.f1 }))))
theorem pE.ok {a0 : cM} {r : aY} (H : pE.f a0 = some r) : fS Tryz.prog 71 #[.agg (bF a0).toArray] [] (.agg (bV r).toArray):=by
 refine aj Tryz.func71 rfl rfl ?_
 unfold pE.f at H
 refine aR (o' (bO (h:=fun j=>o' (cw (h:=fun c=>cP ?_)))))
 obtain⟨a,b,H⟩:=ac H
 refine o' (dc [] [0,1] (xH.ok b) ?_)
 refine o' (cw (h:=fun d=>o' (bi d 0 2 (bF a) (h:=cP (ad aA (h:=bp (aP 0) (h:=ad aA (h:=o' (cF 2 [ae a0.f1] (h:=(cP (bp (cm 2) (h:=s' (.agg (bV (aY.mk 32 (fX.mk 0 0 0) 1 ({ a with f1:=a0.f1 }))).toArray) dP ?_)))))))))))))
 refine o' (bi c 0 1 (bV (aY.mk 32 (fX.mk 0 0 0) 1 ({ a with f1:=a0.f1 }))) (h:=cC ?_))
 have h:=aN H;subst h
 exact gi (rs:=[.cell 2 55]) (vs:=[.agg (bV (aY.mk 32 (fX.mk 0 0 0) 1 ({ a with f1:=a0.f1 }))).toArray]) [] rfl ⟨RV.cell (k:=1) rfl rfl Tryz.underlying55 rfl cl,trivial⟩ rfl (eZ []) ⟨rfl,rfl⟩


def pQ.l0 (a0 : Int) (a1 : Int) (a2 : cM) : Nat → bH → Int → Option (bH)
  | 0,_,_=>none
  | k + 1,a,b=>if b < (i64.wrap (a0 * a1)) then ((pE.f a2).bind (fun c=>if a.f2.length + ([c] : (List aY)).length ≤ 2932031007402 then lt (a.f2 ++ ([c] : (List aY))) fun d=>(lt (i64.wrap (b + 1)) fun h=>pQ.l0 a0 a1 a2 k (bH.mk a.f0 a.f1 d) h) else none)) else (some a)
def pQ.f (k : Nat) (a0 : Int) (a1 : Int) (a2 : cM) : Option (bH × Int):=(oU.f a0).bind (fun h=>(if (!h) = true then (some true) else ((oU.f a1).bind (fun j=>some (!j))) : Option Bool).bind (fun d=>(if d = true then (some true) else ((qa.f a2).bind (fun b=>some (!b))) : Option Bool).bind (fun a=>if a = true then (some (((bH.mk 0 0 ([] : (List aY))),2))) else ((pQ.l0 a0 a1 a2 k (bH.mk a0 a1 ([] : (List aY))) 0 : Option (bH)).bind (fun c=>some ((c,0)))))))
theorem pQ.ok {a0 : Int} {a1 : Int} {a2 : cM} {r : bH × Int} (H : pQ.f k a0 a1 a2 = some r) : dk Tryz.prog 24 #[ae a0,ae a1,.agg (bF a2).toArray] [] (fun v B=>∃ aS aT,v = .tuple #[.agg #[ae r.1.f0,ae r.1.f1,.slice aS r.1.f2.length aT],ae r.2]∧B = [Buf bD 55 aS aT r.1.f2]):=by
 refine aj Tryz.func24 rfl rfl ?_
 unfold pQ.f at H
 refine aR (o' (bO (h:=fun D=>o' (cw (h:=fun j=>ad aW (h:=eD (S' ar ?_)))))))
 obtain⟨r5,a5,H⟩:=ac H
 refine o' (dc [] [0,1] (oU.ok a5) ?_)
 refine ad (bX rfl) (h:=S' ar ?_)
 obtain⟨q6,H,a6⟩:=ac H
 refine dy 4 [(0,ae a0),(1,ae a1),(5,aH D),(6,aH j),(17,.bool q6)] [aK D 28 (bF a2),aK j 26 [ae 0,ae 0,.slice none 0 0]] ?_ fun junk=>?_
 ·rcases bE H with⟨u,H⟩|⟨u,H⟩
  ·refine cu 3 u (gN u ?_)
   have h:=aN H;subst h
   exact dL [0,1]
  refine Y' (aM u) ar ?_
  obtain⟨r8,C9,H⟩:=ac H
  refine fT (aM u) (dc [] [0,1] (oU.ok C9) ?_)
  refine bf (aM u) (bX rfl) (h:=fZ (aM u) ?_)
  have h:=aN H;subst h
  exact dL [0,1]
 replace H:=a6
 refine S' ar ?_
 obtain⟨a8,H,F⟩:=ac H
 refine cK 4 (St [(0,ae a0),(1,ae a1),(5,aH D),(6,aH j),(22,.bool a8)] [aK D 28 (bF a2),aK j 26 [ae 0,ae 0,.slice none 0 0]]) ?_ ?_
 ·rcases bE H with⟨d,H⟩|⟨d,H⟩
  ·refine cu 3 d (gN d ?_)
   have h:=aN H;subst h
   exact dL [0,1]
  refine z' (aM d) (cm 0) ?_
  obtain⟨b2,a7,H⟩:=ac H
  refine fT (aM d) (dc [] [0,1] (qa.ok a7) ?_)
  refine bf (aM d) (bX rfl) (h:=fZ (aM d) ?_)
  have h:=aN H;subst h
  exact dL [0,1]
 rintro e ds As Y
 clear H
 have H:=F
 clear F
 refine bA (SA.of_St Y fun junk=>?_)
 rcases bE H with⟨K,H⟩|⟨K,H⟩
 ·refine aD rfl K (aR (bP (.agg #[ae 0,ae 0,.slice none 0 0]) dP (h:=o' (bi j 0 1 [ae 0,ae 0,.slice none 0 0] (h:=ad aW (h:=cD ?_))))))
  have h:=aN H;subst h
  exact ma [.cell 6 26,.tmp 7] ((Gh.nilBuf bD 55).trans (eZ [2])) ⟨none,0,rfl,rfl⟩ ⟨cV 1,cW,trivial⟩
 refine aE rfl K (ap (aa (aR (ad ar (h:=ad ar (h:=bP (.agg #[ae a0,ae a1,.slice none 0 0]) dP (h:=o' (cw (h:=fun a3=>o' (bi a3 0 2 [ae a0,ae a1,.slice none 0 0] (h:=eD (ad aW (h:=bA ?_)))))))))))))
 obtain⟨b,H,I⟩:=ac H
 refine bI (fun e ds As=>∃ (z : Nat),∃ (l : Option Addr) (m : Nat),St [(6,aH j),(8,aH z)] [aK z 26 [ae b.f0,ae b.f1,.slice l b.f2.length m],Buf bD 55 l m b.f2,aK j 26 [ae 0,ae 0,.slice none 0 0]] e ds As) ?_ ?_
 ·refine aQ (cj (fun k_ e ds As=>∃ (a : bH) (o : Int),∃ (q : Nat),∃ (p : Option Addr) (s : Nat),pQ.l0 a0 a1 a2 k_ a o = some b∧St [(0,ae a0),(1,ae a1),(5,aH D),(6,aH j),(8,aH q),(9,ae o)] [aK D 28 (bF a2),aK j 26 [ae 0,ae 0,.slice none 0 0],aK q 26 [ae a.f0,ae a.f1,.slice p a.f2.length s],Buf bD 55 p s a.f2] e ds As) (k:=k) ⟨_,_,a3,none,0,H,St.mk1 (cB rfl (cB rfl (cB rfl (cB rfl (cB rfl (cB rfl dS)))))) ((Gh.nilBuf bD 55).trans (eZ [0,1,2,3]))⟩ ?_)
  clear H
  rintro N e ds As ⟨a,o,q,p,s,H,Z⟩
  obtain _ | N:=N
  ·cases H
  rw [pQ.l0] at H
  refine SA.of_St Z fun junk=>ao (aR (ad ar (h:=ad ar (h:=ad ar (h:=ad (jt rfl rfl) (h:=ad (ce rfl rfl) (h:=bA ?_)))))))
  rcases bE H with⟨L,H⟩|⟨L,H⟩
  ·refine aC rfl L (ap (aa (ao (aQ ?_))))
   refine fj [0,1,2,6] [0,2] [1,3] fun _ _ _ _ _ sH dd pk=>?_
   refine bc 0 rfl sH aA (h:=bQ 1 rfl sH (aP 1) (h:=r' 2 rfl sH (cm 0) ?_))
   obtain⟨y,a4,H⟩:=ac H
   refine dU 3 rfl dd (dc [] [0,1] (pE.ok a4) ?_)
   refine dU 4 rfl dd (gE (kd:=bD) (zv:=(.agg (bV lC).toArray)) (sz:=15) (cells:=(bV y)) (xs:=([y] : (List aY))) rfl Tryz.underlying24 jD cl rfl rfl rfl (by kernel_rfl) rfl rfl (dO cZ (fun _ _=>rfl) (by kernel_rfl)) fun a9=>?_)
   obtain⟨b0,H⟩:=aO H
   obtain⟨O,S,H⟩:=bj H
   refine dU 5 rfl dd (gl (k:=1) (A:=p) (c:=s) (xs:=a.f2) (ys:=([y] : (List aY))) O S rfl Tryz.underlying24 mC rfl rfl rfl rfl rfl (ng.slice Tryz.underlying24 (Src.buf (k:=2) rfl)) (by omega) (by omega) fun E J=>bc 6 rfl sH aA (h:=aV dd sH (eC 7 rfl (cF 1 [.slice E O.length J] (h:=(aI (by kernel_rfl) (aF (aa (ak (ad ar (h:=S' (bW rfl rfl) ?_)))))))))))
   obtain⟨R,U,H⟩:=bj H
   refine bP (ae R) (bo (v:=ae R) (congrArg (Value.int .i64) U.symm)) (h:=ah ?_)
   exact aa ⟨N,Nat.lt_succ_self _,_,_,q,E,J,H,dZ [0,2,1,3]⟩
  refine aB rfl L (cf (aX (aX (cg ?_))))
  have h:=aN H;subst h
  exact aa ⟨q,p,s,dZ [2,3,1]⟩
 rintro e ds As ⟨z,l,m,M⟩
 clear H
 have H:=I
 clear I
 refine aa (SA.of_St M fun junk=>aR (bp (cz z 0 0 [ae b.f0,ae b.f1,.slice l b.f2.length m]) (h:=o' (bi j 0 2 [ae b.f0,ae b.f1,.slice l b.f2.length m] (h:=ad aW (h:=cC ?_))))))
 have h:=aN H;subst h
 exact du [.cell 6 26,.tmp 7] [1] ⟨l,m,rfl,rfl⟩ ⟨cV 2,cW,trivial⟩


def qE.l0 (a0 : Int) : Nat → (List Int) → Int → Option ((List Int))
  | 0,_,_=>none
  | k + 1,b,a=>if a < a0 then (if b.length + ([a] : (List Int)).length ≤ 17592186044416 then lt (b ++ ([a] : (List Int))) fun n18=>(lt (i64.wrap (a + 8)) fun n19=>qE.l0 a0 k n18 n19) else none) else (some b)
def qE.f (k : Nat) (a0 : Int) : Option ((List Int)):=(qE.l0 a0 k ([]) 8 : Option ((List Int))).bind (fun a=>some (a))
theorem qE.ok {a0 : Int} {r : (List Int)} (H : qE.f k a0 = some r) : dk Tryz.prog 26 #[ae a0] [] (fun v B=>∃ aS aT,v = .slice aS r.length aT∧B = [gf 3 aS aT r]):=by
 refine aj Tryz.func26 rfl rfl ?_
 unfold qE.f at H
 refine aR (ad aW (h:=cP (ad aW (h:=eD (ad aW (h:=bA ?_))))))
 obtain⟨z,H,q⟩:=ac H
 refine bI (fun e ds As=>∃ (m : Option Addr) (c3 : Nat),St [(3,.slice m z.length c3)] [gf 3 m c3 z] e ds As) ?_ ?_
 ·refine aQ (cj (fun k_ e ds As=>∃ (b : (List Int)) (a : Int),∃ (d : Option Addr) (j : Nat),qE.l0 a0 k_ b a = some z∧St [(0,ae a0),(3,.slice d b.length j),(4,ae a)] [gf 3 d j b] e ds As) (k:=k) ⟨_,_,none,0,H,St.mk1 (cB rfl (cB rfl (cB rfl dS))) ((Gh.nilBuf (Kd.int .i64) 3).trans (eZ [0]))⟩ ?_)
  clear H
  rintro y e ds As ⟨b,a,d,j,H,o⟩
  obtain _ | y:=y
  ·cases H
  rw [qE.l0] at H
  refine SA.of_St o fun junk=>ao (aR (ad ar (h:=ad ar (h:=ad (ce rfl rfl) (h:=bA ?_)))))
  rcases bE H with⟨l,H⟩|⟨l,H⟩
  ·refine aC rfl l (ap (aa (ao (aQ (ak (ad ar (h:=ad ar (h:=o' (gE (kd:=(Kd.int .i64)) (zv:=(ae 0)) (sz:=1) (cells:=[ae a]) (xs:=([a] : (List Int))) rfl Tryz.underlying29 np jl rfl rfl rfl (by kernel_rfl) rfl rfl (dO (fun x_ : Int=>[Value.int .i64 x_]) (fun _ _=>rfl) (by kernel_rfl)) fun F=>?_)))))))))
   obtain⟨I,H⟩:=aO H
   obtain⟨n18,s,H⟩:=bj H
   refine o' (gl (k:=0) (A:=d) (c:=j) (xs:=b) (ys:=([a] : (List Int))) n18 s rfl Tryz.underlying29 pf rfl rfl rfl rfl rfl (ng.slice Tryz.underlying29 (Src.buf (k:=1) rfl)) (by omega) (by omega) fun D E=>ad aW (h:=ah (aF (aa (ak (ad ar (h:=S' (bW rfl rfl) ?_)))))))
   obtain⟨n19,u,H⟩:=bj H
   refine bP (ae n19) (bo (v:=ae n19) (congrArg (Value.int .i64) u.symm)) (h:=ah ?_)
   exact aa ⟨y,Nat.lt_succ_self _,_,_,D,E,H,dZ [0]⟩
  refine aB rfl l (cf (aX (aX (cg ?_))))
  have h:=aN H;subst h
  exact aa ⟨d,j,dZ [0]⟩
 rintro e ds As ⟨m,c3,p⟩
 clear H
 have H:=q
 clear q
 refine aa (SA.of_St p fun junk=>aR (ad ar (h:=ad aW (h:=cC ?_))))
 have h:=aN H;subst h
 exact dX [0] ⟨m,c3,rfl,rfl⟩


def en.l0 (a0 : bH) (a1 : bH) : Nat → Int → Option (Out (Bool) (Unit))
  | 0,_=>none
  | k + 1,a=>if a < (a0.f2.length : Int) then (if 0 ≤ a∧a < (a0.f2.length : Int) then (if 0 ≤ a∧a < (a1.f2.length : Int) then (if (rd a0.f2 a) ≠ (rd a1.f2 a) then (some (Out.ret (false))) else (lt (i64.wrap (a + 1)) fun b=>en.l0 a0 a1 k b)) else none) else none) else (some (Out.go ()))
def en.f (k : Nat) (a0 : bH) (a1 : bH) : Option (Bool):=lt ((decide (a0.f0 ≠ a1.f0)) || (decide (a0.f1 ≠ a1.f1))) fun c=>lt (c || (decide ((a0.f2.length : Int) ≠ (a1.f2.length : Int)))) fun a=>if a = true then (some (false)) else ((en.l0 a0 a1 k 0 : Option (Out (Bool) (Unit))).bind (fun b=>Out.el b (fun r_=>some r_) (fun d=>some (true))))
theorem en.ok {a0 : bH} {a1 : bH} {r : Bool} (H : en.f k a0 a1 = some r) : fS Tryz.prog 18 #[.agg #[ae a0.f0,ae a0.f1,.slice af a0.f2.length ag],.agg #[ae a1.f0,ae a1.f1,.slice cQ a1.f2.length cR]] [Buf bD 55 af ag a0.f2,Buf bD 55 cQ cR a1.f2] (.bool r):=by
 refine aj Tryz.func18 rfl rfl ?_
 unfold en.f at H
 refine aR (o' (bO (h:=fun o=>o' (bO (h:=fun q=>ad aW (h:=eD (ad aA (h:=bp (aP 2) (h:=ad aA (h:=bp (aP 3) (h:=S' (dK rfl rfl) ?_)))))))))))
 refine S' ar ?_
 obtain⟨Y,O,H⟩:=bj H
 refine dy 6 [(2,aH o),(3,aH q),(17,.bool Y)] [Buf bD 55 cQ cR a1.f2,Buf bD 55 af ag a0.f2,aK o 26 [ae a0.f0,ae a0.f1,.slice af a0.f2.length ag],aK q 26 [ae a1.f0,ae a1.f1,.slice cQ a1.f2.length cR]] ?_ fun junk=>?_
 ·by_cases d : a0.f0 ≠ a1.f0
  ·refine cu 5 (ai d) (cd (ai d) (h:=ah ?_))
   have x_:=ji O ((ai d));exact bK [1,0,2,3]
  refine bf (am d) aA (h:=cE (am d) (aP 2) (h:=bf (am d) aA (h:=cE (am d) (aP 3) (h:=bf (am d) (dK rfl rfl) (h:=ck (am d) (h:=ah ?_))))))
  have x_:=jh O ((am d));exact bK [1,0,2,3]
 refine S' ar ?_
 obtain⟨U,F,H⟩:=bj H
 refine cK 8 (St [(2,aH o),(3,aH q),(26,.bool U)] [Buf bD 55 cQ cR a1.f2,Buf bD 55 af ag a0.f2,aK o 26 [ae a0.f0,ae a0.f1,.slice af a0.f2.length ag],aK q 26 [ae a1.f0,ae a1.f1,.slice cQ a1.f2.length cR]]) ?_ ?_
 ·by_cases b : Y = true
  ·refine cu 7 b (cd b (h:=ah ?_))
   have x_:=ji F b;exact bK [0,1,2,3]
  refine bf (aM b) aA (h:=cE (aM b) (aP 2) (h:=iI (aM b) (ae (a0.f2.length : Int)) (cO Tryz.underlying24 rfl) (h:=bf (aM b) aA (h:=cE (aM b) (aP 3) (h:=iI (aM b) (ae (a1.f2.length : Int)) (cO Tryz.underlying24 rfl) (h:=bf (aM b) (dK rfl rfl) (h:=ck (aM b) (h:=ah ?_))))))))
  have x_:=jh F ((aM b));exact bK [0,1,2,3]
 rintro e ds As M
 refine bA (SA.of_St M fun junk=>?_)
 rcases bE H with⟨D,H⟩|⟨D,H⟩
 ·refine aD rfl D (aR (ad aW (h:=cD ?_)))
  have h:=aN H;subst h
  exact dX [1,0] ⟨rfl,rfl⟩
 refine aE rfl D (ap (aa (ao (aR (ad aW (h:=bA ?_))))))
 obtain⟨S,H,c⟩:=ac H
 refine bI (fun e ds As=>∃ (R : Unit),S = Out.go R∧St [] [Buf bD 55 cQ cR a1.f2,Buf bD 55 af ag a0.f2] e ds As) ?_ ?_
 ·refine aQ (cj (fun k_ e ds As=>∃ (a : Int),en.l0 a0 a1 k_ a = some S∧St [(2,aH o),(3,aH q),(5,ae a)] [Buf bD 55 cQ cR a1.f2,Buf bD 55 af ag a0.f2,aK o 26 [ae a0.f0,ae a0.f1,.slice af a0.f2.length ag],aK q 26 [ae a1.f0,ae a1.f1,.slice cQ a1.f2.length cR]] e ds As) (k:=k) ⟨_,H,jV [0,1,2,3]⟩ ?_)
  clear H
  rintro J e ds As ⟨a,H,N⟩
  obtain _ | J:=J
  ·cases H
  rw [en.l0] at H
  refine SA.of_St N fun junk=>ao (aR (ad ar (h:=ad aA (h:=bp (aP 2) (h:=bP (ae (a0.f2.length : Int)) (cO Tryz.underlying24 rfl) (h:=ad (ce rfl rfl) (h:=bA ?_)))))))
  rcases bE H with⟨E,H⟩|⟨E,H⟩
  ·refine aC rfl E (ap (aa (ao (aQ (ao ?_)))))
   refine fj (dt 0 11) (dt 0 4) [] fun _ _ _ _ _ sH dd pk=>?_
   refine bc 0 rfl sH aA (h:=bQ 1 rfl sH (aP 2) (h:=T' 2 rfl sH ar ?_))
   obtain⟨⟨s,u⟩,H⟩:=aO H
   refine bQ 3 rfl sH (bu (i:=a) Tryz.underlying24 cl rfl rfl (Src.buf (k:=1) rfl) s u) (h:=bQ 4 rfl sH (ci (enc:=cZ) (i:=a) (j:=a.toNat * 15) (m:=0) (sz:=15) (vs:=(bV (aY.mk ((rd a0.f2 a).f0) ((rd a0.f2 a).f1) ((rd a0.f2 a).f2) ((rd a0.f2 a).f3)))) Tryz.underlying55 rfl cl rfl rfl rfl (Src.buf (k:=1) rfl) s u (fun _ _ h=>h) rfl) (h:=bc 5 rfl sH aA (h:=bQ 6 rfl sH (aP 3) (h:=T' 7 rfl sH ar ?_))))
   obtain⟨⟨z,B⟩,H⟩:=aO H
   refine bQ 8 rfl sH (bu (i:=a) Tryz.underlying24 cl rfl rfl (Src.buf (k:=0) rfl) z B) (h:=bQ 9 rfl sH (ci (enc:=cZ) (i:=a) (j:=a.toNat * 15) (m:=0) (sz:=15) (vs:=(bV (aY.mk ((rd a1.f2 a).f0) ((rd a1.f2 a).f1) ((rd a1.f2 a).f2) ((rd a1.f2 a).f3)))) Tryz.underlying55 rfl cl rfl rfl rfl (Src.buf (k:=0) rfl) z B (fun _ _ h=>h) rfl) (h:=kV (.bool (decide ((rd a0.f2 a) ≠ (rd a1.f2 a)))) 10 rfl sH (lg (xs:=(bV (aY.mk ((rd a0.f2 a).f0) ((rd a0.f2 a).f1) ((rd a0.f2 a).f2) ((rd a0.f2 a).f3)))) (ys:=(bV (aY.mk ((rd a1.f2 a).f0) ((rd a1.f2 a).f1) ((rd a1.f2 a).f2) ((rd a1.f2 a).f3)))) (r:=((((rd a0.f2 a).f0) == ((rd a1.f2 a).f0)) && ((((((rd a0.f2 a).f1).f0) == (((rd a1.f2 a).f1).f0)) && (((((rd a0.f2 a).f1).f1) == (((rd a1.f2 a).f1).f1)) && (((((rd a0.f2 a).f1).f2) == (((rd a1.f2 a).f1).f2)) && true))) && ((((rd a0.f2 a).f2) == ((rd a1.f2 a).f2)) && ((((((rd a0.f2 a).f3).f0) == (((rd a1.f2 a).f3).f0)) && (((((rd a0.f2 a).f3).f1) == (((rd a1.f2 a).f3).f1)) && (((((rd a0.f2 a).f3).f2) == (((rd a1.f2 a).f3).f2)) && (((((rd a0.f2 a).f3).f3) == (((rd a1.f2 a).f3).f3)) && (((((rd a0.f2 a).f3).f4) == (((rd a1.f2 a).f3).f4)) && (((((rd a0.f2 a).f3).f5) == (((rd a1.f2 a).f3).f5)) && (((((rd a0.f2 a).f3).f6) == (((rd a1.f2 a).f3).f6)) && (((((rd a0.f2 a).f3).f7) == (((rd a1.f2 a).f3).f7)) && (((((rd a0.f2 a).f3).f8) == (((rd a1.f2 a).f3).f8)) && (((((rd a0.f2 a).f3).f9) == (((rd a1.f2 a).f3).f9)) && true)))))))))) && true))))) (p:=(rd a0.f2 a) = (rd a1.f2 a)) tw rfl rfl (by kernel_rfl) (tz (x:=rd a0.f2 a) (y:=rd a1.f2 a))) (h:=aV dd sH (aI (by kernel_rfl) (aa ?_)))))
   rcases bE H with⟨l,H⟩|⟨l,H⟩
   ·refine aC rfl l (aR (ad aW (h:=cC (ba (aG (aG (ba (aG (aG ?_)))))))))
    have h:=aN H;subst h
    have hb_:=dw c
    have hr_:=Option.some.inj hb_
    clear hb_
    subst hr_
    exact dX [1,0] ⟨rfl,rfl⟩
   refine aB rfl l (ap (aF (aa (ak (ad ar (h:=S' (bW rfl rfl) ?_))))))
   obtain⟨K,L,H⟩:=bj H
   refine bP (ae K) (bo (v:=ae K) (congrArg (Value.int .i64) L.symm)) (h:=ah ?_)
   exact aa ⟨J,Nat.lt_succ_self _,_,H,dZ [0,1,2,3]⟩
  refine aB rfl E (cf (aX (aX (cg ?_))))
  have h:=aN H;subst h
  exact aa ⟨(),rfl,dZ [0,1]⟩
 rintro e ds As ⟨R,ht,I⟩
 clear H
 subst ht
 replace c:=fw c
 have H:=c
 clear c
 refine aa (SA.of_St I fun junk=>aR (ad aW (h:=cC ?_)))
 have h:=aN H;subst h
 exact dX [1,0] ⟨rfl,rfl⟩


def db.l1 (a0 : aJ) (a1 : aJ) : Nat → Int → Option (Out (Bool) (Unit))
  | 0,_=>none
  | k + 1,a=>if a < (a0.f17.length : Int) then (if 0 ≤ a∧a < (a0.f17.length : Int) then (if 0 ≤ a∧a < (a1.f17.length : Int) then (if (rd a0.f17 a) ≠ (rd a1.f17 a) then (some (Out.ret (false))) else (lt (i64.wrap (a + 1)) fun b=>db.l1 a0 a1 k b)) else none) else none) else (some (Out.go ()))
def db.l0 (a0 : aJ) (a1 : aJ) : Nat → Int → Option (Out (Bool) (Unit))
  | 0,_=>none
  | k + 1,a=>if a < (a0.f7.length : Int) then (if 0 ≤ a∧a < (a0.f7.length : Int) then (if 0 ≤ a∧a < (a1.f7.length : Int) then (if (rd a0.f7 a) ≠ (rd a1.f7 a) then (some (Out.ret (false))) else (lt (i64.wrap (a + 1)) fun b=>db.l0 a0 a1 k b)) else none) else none) else (some (Out.go ()))
def db.f (k : Nat) (a0 : aJ) (a1 : aJ) : Option (Bool):=(en.f k a0.f0 a1.f0).bind (fun gB=>(if (!gB) = true then (some true) else ((en.f k a0.f16 a1.f16).bind (fun D=>some (!D))) : Option Bool).bind (fun y=>lt (y || (decide ((a0.f7.length : Int) ≠ (a1.f7.length : Int)))) fun z=>lt (z || (decide ((a0.f17.length : Int) ≠ (a1.f17.length : Int)))) fun B=>if B = true then (some (false)) else ((db.l0 a0 a1 k 0 : Option (Out (Bool) (Unit))).bind (fun E=>Out.el E (fun r_=>some r_) (fun I=>(db.l1 a0 a1 k 0 : Option (Out (Bool) (Unit))).bind (fun u=>Out.el u (fun r_=>some r_) (fun F=>lt ((decide (a0.f1 = a1.f1)) && (decide (a0.f2 = a1.f2))) fun a=>lt (a && (decide (a0.f3 = a1.f3))) fun b=>lt (b && (decide (a0.f4 = a1.f4))) fun c=>lt (c && (decide (a0.f5 = a1.f5))) fun d=>lt (d && (decide (a0.f6 = a1.f6))) fun h=>lt (h && (decide (a0.f8 = a1.f8))) fun j=>lt (j && (decide (a0.f9 = a1.f9))) fun l=>lt (l && (decide (a0.f10 = a1.f10))) fun m=>lt (m && (decide (a0.f11 = a1.f11))) fun o=>lt (o && (decide (a0.f12 = a1.f12))) fun p=>lt (p && (decide (a0.f13 = a1.f13))) fun q=>lt (q && (decide (a0.f14 = a1.f14))) fun r=>lt (r && (decide (a0.f15 = a1.f15))) fun s=>some (s))))))))
theorem db.ok {a0 : aJ} {a1 : aJ} {r : Bool} (H : db.f k a0 a1 = some r) : fS Tryz.prog 10 #[.agg (al a0 af ag ay az au av aw ax).toArray,.agg (al a1 cQ cR dM dQ dF dG dN dR).toArray] (bn a0 af ag ay az au av aw ax++bn a1 cQ cR dM dQ dF dG dN dR) (.bool r):=by
 refine aj Tryz.func10 rfl rfl ?_
 unfold db.f at H
 refine aR (o' (bO (h:=fun b=>o' (bO (h:=fun a=>ad aW (h:=bA (ao (ao (bM 0 fun h7=>bM 1 fun h8=>bM 2 fun h9=>bM 3 fun i0=>bM 4 fun i1=>?_)))))))))
 refine bM 5 fun i2=>bM 6 fun i3=>bM 7 fun i4=>ak (ad aA (h:=bp (cz b 0 8 [ae a0.f0.f0,ae a0.f0.f1,.slice af a0.f0.f2.length ag]) (h:=ad aA (h:=l' (cz a 0 9 [ae a1.f0.f0,ae a1.f0.f1,.slice cQ a1.f0.f2.length cR]) ?_))))
 obtain⟨gB,g4,H⟩:=ac H
 refine o' (dc [0,4] [1,2,3,5,6,7,8,9] (en.ok g4) ?_)
 refine ad (bX rfl) (h:=S' ar ?_)
 obtain⟨g9,H,h4⟩:=ac H
 refine dy 7 [(2,aH b),(3,aH a),(20,.bool g9)] (bn a1 cQ cR dM dQ dF dG dN dR++(bn a0 af ag ay az au av aw ax++[aK b 34 (al a0 af ag ay az au av aw ax),aK a 34 (al a1 cQ cR dM dQ dF dG dN dR)])) ?_ fun junk=>?_
 ·rcases bE H with⟨N,H⟩|⟨N,H⟩
  ·refine cu 6 N (gN N ?_)
   have h:=aN H;subst h
   exact dL [1,5,6,7,0,2,3,4,8,9]
  refine bf (aM N) aA (h:=cE (aM N) (cz b 40 8 [ae a0.f16.f0,ae a0.f16.f1,.slice au a0.f16.f2.length av]) (h:=bf (aM N) aA (h:=z' (aM N) (cz a 40 9 [ae a1.f16.f0,ae a1.f16.f1,.slice dF a1.f16.f2.length dG]) ?_)))
  obtain⟨i5,h5,H⟩:=ac H
  refine fT (aM N) (dc [3,6] [0,1,2,4,5,7,8,9] (en.ok h5) ?_)
  refine bf (aM N) (bX rfl) (h:=fZ (aM N) ?_)
  have h:=aN H;subst h
  exact dL [3,6,1,7,2,4,0,5,8,9]
 replace H:=h4
 refine S' ar ?_
 obtain⟨h0,e6,H⟩:=bj H
 refine dy 8 [(2,aH b),(3,aH a),(29,.bool h0)] (bn a1 cQ cR dM dQ dF dG dN dR++(bn a0 af ag ay az au av aw ax++[aK b 34 (al a0 af ag ay az au av aw ax),aK a 34 (al a1 cQ cR dM dQ dF dG dN dR)])) ?_ fun junk=>?_
 ·by_cases L : g9 = true
  ·refine cu 7 L (cd L (h:=ah ?_))
   have x_:=ji e6 L;exact bK [0,1,2,3,4,5,6,7,8,9]
  refine bf (aM L) aA (h:=cE (aM L) (aP 8) (h:=iI (aM L) (ae (a0.f7.length : Int)) (cO Tryz.underlying29 rfl) (h:=bf (aM L) aA (h:=cE (aM L) (aP 9) (h:=iI (aM L) (ae (a1.f7.length : Int)) (cO Tryz.underlying29 rfl) (h:=bf (aM L) (dK rfl rfl) (h:=ck (aM L) (h:=ah ?_))))))))
  have x_:=jh e6 ((aM L));exact bK [0,1,2,3,4,5,6,7,8,9]
 refine S' ar ?_
 obtain⟨h6,e7,H⟩:=bj H
 refine cK 8 (St [(2,aH b),(3,aH a),(38,.bool h6)] (bn a1 cQ cR dM dQ dF dG dN dR++(bn a0 af ag ay az au av aw ax++[aK b 34 (al a0 af ag ay az au av aw ax),aK a 34 (al a1 cQ cR dM dQ dF dG dN dR)]))) ?_ ?_
 ·by_cases M : h0 = true
  ·refine cu 7 M (cd M (h:=ah ?_))
   have x_:=ji e7 M;exact bK [0,1,2,3,4,5,6,7,8,9]
  refine bf (aM M) aA (h:=cE (aM M) (aP 8) (h:=iI (aM M) (ae (a0.f17.length : Int)) (cO Tryz.underlying32 rfl) (h:=bf (aM M) aA (h:=cE (aM M) (aP 9) (h:=iI (aM M) (ae (a1.f17.length : Int)) (cO Tryz.underlying32 rfl) (h:=bf (aM M) (dK rfl rfl) (h:=ck (aM M) (h:=ah ?_))))))))
  have x_:=jh e7 ((aM M));exact bK [0,1,2,3,4,5,6,7,8,9]
 rintro e ds As g6
 refine bA (SA.of_St g6 fun junk=>?_)
 rcases bE H with⟨e3,H⟩|⟨e3,H⟩
 ·refine aD rfl e3 (aR (ad aW (h:=cD ?_)))
  have h:=aN H;subst h
  exact dX [4,5,6,7,0,1,2,3] ⟨rfl,rfl⟩
 refine aE rfl e3 (ap (aa (ao (aR (ad aW (h:=bA ?_))))))
 obtain⟨h3,H,R⟩:=ac H
 refine bI (fun e ds As=>∃ (h1 : Unit),h3 = Out.go h1∧St [(2,aH b),(3,aH a)] (bn a1 cQ cR dM dQ dF dG dN dR++(bn a0 af ag ay az au av aw ax++[aK b 34 (al a0 af ag ay az au av aw ax),aK a 34 (al a1 cQ cR dM dQ dF dG dN dR)])) e ds As) ?_ ?_
 ·refine aQ (cj (fun k_ e ds As=>∃ (K : Int),db.l0 a0 a1 k_ K = some h3∧St [(2,aH b),(3,aH a),(5,ae K)] (bn a1 cQ cR dM dQ dF dG dN dR++(bn a0 af ag ay az au av aw ax++[aK b 34 (al a0 af ag ay az au av aw ax),aK a 34 (al a1 cQ cR dM dQ dF dG dN dR)])) e ds As) (k:=k) ⟨_,H,jV [0,1,2,3,4,5,6,7,8,9]⟩ ?_)
  clear H
  rintro g0 e ds As ⟨K,H,g7⟩
  obtain _ | g0:=g0
  ·cases H
  rw [db.l0] at H
  refine SA.of_St g7 fun junk=>ao (aR (ad ar (h:=ad aA (h:=bp (aP 8) (h:=bP (ae (a0.f7.length : Int)) (cO Tryz.underlying29 rfl) (h:=ad (ce rfl rfl) (h:=bA ?_)))))))
  rcases bE H with⟨e4,H⟩|⟨e4,H⟩
  ·refine aC rfl e4 (ap (aa (ao (aQ (ao ?_)))))
   refine fj (dt 0 11) [1,5,8,9] [0,2,3,4,6,7] fun _ _ _ _ _ sH dd pk=>?_
   refine bc 0 rfl sH aA (h:=bQ 1 rfl sH (aP 2) (h:=T' 2 rfl sH ar ?_))
   obtain⟨⟨d7,d8⟩,H⟩:=aO H
   refine bQ 3 rfl sH (bu (i:=K) Tryz.underlying29 jl rfl rfl (Src.buf (k:=1) rfl) d7 d8) (h:=bQ 4 rfl sH (bJ (enc:=(fun x_ : Int=>[Value.int .i64 x_])) (i:=K) (j:=K.toNat * 1) (m:=0) (sz:=1) Tryz.underlying3 rfl rfl rfl rfl (Src.buf (k:=1) rfl) d7 d8 (fun _ _ h=>h) rfl) (h:=bc 5 rfl sH aA (h:=bQ 6 rfl sH (aP 3) (h:=T' 7 rfl sH ar ?_))))
   obtain⟨⟨d9,e0⟩,H⟩:=aO H
   refine bQ 8 rfl sH (bu (i:=K) Tryz.underlying29 jl rfl rfl (Src.buf (k:=0) rfl) d9 e0) (h:=bQ 9 rfl sH (bJ (enc:=(fun x_ : Int=>[Value.int .i64 x_])) (i:=K) (j:=K.toNat * 1) (m:=0) (sz:=1) Tryz.underlying3 rfl rfl rfl rfl (Src.buf (k:=0) rfl) d9 e0 (fun _ _ h=>h) rfl) (h:=bc 10 rfl sH (dK rfl rfl) (h:=aV dd sH (aI (by kernel_rfl) (aa ?_)))))
   rcases bE H with⟨b2,H⟩|⟨b2,H⟩
   ·refine aC rfl b2 (aR (ad aW (h:=cC (ba (aG (aG (ba (aG (aG ?_)))))))))
    have h:=aN H;subst h
    have hb_:=dw R
    have hr_:=Option.some.inj hb_
    clear hb_
    subst hr_
    exact dX [7,1,8,9,4,0,5,6] ⟨rfl,rfl⟩
   refine aB rfl b2 (ap (aF (aa (ak (ad ar (h:=S' (bW rfl rfl) ?_))))))
   obtain⟨g1,g5,H⟩:=bj H
   refine bP (ae g1) (bo (v:=ae g1) (congrArg (Value.int .i64) g5.symm)) (h:=ah ?_)
   exact aa ⟨g0,Nat.lt_succ_self _,_,H,dZ [4,0,5,6,7,1,8,9,2,3]⟩
  refine aB rfl e4 (cf (aX (aX (cg ?_))))
  have h:=aN H;subst h
  exact aa ⟨(),rfl,dZ [0,1,2,3,4,5,6,7,8,9]⟩
 rintro e ds As ⟨h1,ht,e8⟩
 clear H
 subst ht
 replace R:=fw R
 have H:=R
 clear R
 refine aa (SA.of_St e8 fun junk=>ao (aR (ad aW (h:=bA ?_))))
 obtain⟨g3,H,O⟩:=ac H
 refine bI (fun e ds As=>∃ (g2 : Unit),g3 = Out.go g2∧St [(2,aH b),(3,aH a)] (bn a1 cQ cR dM dQ dF dG dN dR++(bn a0 af ag ay az au av aw ax++[aK b 34 (al a0 af ag ay az au av aw ax),aK a 34 (al a1 cQ cR dM dQ dF dG dN dR)])) e ds As) ?_ ?_
 ·refine aQ (cj (fun k_ e ds As=>∃ (c : Int),db.l1 a0 a1 k_ c = some g3∧St [(2,aH b),(3,aH a),(6,ae c)] (bn a1 cQ cR dM dQ dF dG dN dR++(bn a0 af ag ay az au av aw ax++[aK b 34 (al a0 af ag ay az au av aw ax),aK a 34 (al a1 cQ cR dM dQ dF dG dN dR)])) e ds As) (k:=k) ⟨_,H,jV [0,1,2,3,4,5,6,7,8,9]⟩ ?_)
  clear H
  rintro b4 e ds As ⟨c,H,e9⟩
  obtain _ | b4:=b4
  ·cases H
  rw [db.l1] at H
  refine SA.of_St e9 fun junk=>ao (aR (ad ar (h:=ad aA (h:=bp (aP 8) (h:=bP (ae (a0.f17.length : Int)) (cO Tryz.underlying32 rfl) (h:=ad (ce rfl rfl) (h:=bA ?_)))))))
  rcases bE H with⟨b3,H⟩|⟨b3,H⟩
  ·refine aC rfl b3 (ap (aa (ao (aQ (ao ?_)))))
   refine fj (dt 0 11) [3,7,8,9] [0,1,2,4,5,6] fun _ _ _ _ _ sH dd pk=>?_
   refine bc 0 rfl sH aA (h:=bQ 1 rfl sH (aP 2) (h:=T' 2 rfl sH ar ?_))
   obtain⟨⟨e1,e2⟩,H⟩:=aO H
   refine bQ 3 rfl sH (bu (i:=c) Tryz.underlying32 iB rfl rfl (Src.buf (k:=1) rfl) e1 e2) (h:=bQ 4 rfl sH (bJ (enc:=(fun x_ : Int=>[Value.int .i32 x_])) (i:=c) (j:=c.toNat * 1) (m:=0) (sz:=1) Tryz.underlying21 rfl rfl rfl rfl (Src.buf (k:=1) rfl) e1 e2 (fun _ _ h=>h) rfl) (h:=bc 5 rfl sH aA (h:=bQ 6 rfl sH (aP 3) (h:=T' 7 rfl sH ar ?_))))
   obtain⟨⟨b5,b6⟩,H⟩:=aO H
   refine bQ 8 rfl sH (bu (i:=c) Tryz.underlying32 iB rfl rfl (Src.buf (k:=0) rfl) b5 b6) (h:=bQ 9 rfl sH (bJ (enc:=(fun x_ : Int=>[Value.int .i32 x_])) (i:=c) (j:=c.toNat * 1) (m:=0) (sz:=1) Tryz.underlying21 rfl rfl rfl rfl (Src.buf (k:=0) rfl) b5 b6 (fun _ _ h=>h) rfl) (h:=bc 10 rfl sH (dK rfl rfl) (h:=aV dd sH (aI (by kernel_rfl) (aa ?_)))))
   rcases bE H with⟨S,H⟩|⟨S,H⟩
   ·refine aC rfl S (aR (ad aW (h:=cC (ba (aG (aG (ba (aG (aG ?_)))))))))
    have h:=aN H;subst h
    have hb_:=dw O
    have hr_:=Option.some.inj hb_
    clear hb_
    subst hr_
    exact dX [7,8,9,1,4,5,6,0] ⟨rfl,rfl⟩
   refine aB rfl S (ap (aF (aa (ak (ad ar (h:=S' (bW rfl rfl) ?_))))))
   obtain⟨b7,e5,H⟩:=bj H
   refine bP (ae b7) (bo (v:=ae b7) (congrArg (Value.int .i64) e5.symm)) (h:=ah ?_)
   exact aa ⟨b4,Nat.lt_succ_self _,_,H,dZ [4,5,6,0,7,8,9,1,2,3]⟩
  refine aB rfl b3 (cf (aX (aX (cg ?_))))
  have h:=aN H;subst h
  exact aa ⟨(),rfl,dZ [0,1,2,3,4,5,6,7,8,9]⟩
 rintro e ds As ⟨g2,ht,d6⟩
 clear H
 subst ht
 replace O:=fw O
 have H:=O
 clear O
 refine aa (SA.of_St d6 fun junk=>aR (ad aA (h:=bp (aP 8) (h:=ad aA (h:=bp (aP 9) (h:=ad (bk rfl rfl) (h:=S' ar ?_)))))))
 obtain⟨b8,U,H⟩:=bj H
 refine dy 6 [(2,aH b),(3,aH a),(86,.bool b8)] (bn a1 cQ cR dM dQ dF dG dN dR++(bn a0 af ag ay az au av aw ax++[aK b 34 (al a0 af ag ay az au av aw ax),aK a 34 (al a1 cQ cR dM dQ dF dG dN dR)])) ?_ fun junk=>?_
 ·by_cases d : a0.f1 = a1.f1
  ·refine bf (ai d) aA (h:=cE (ai d) (aP 8) (h:=bf (ai d) aA (h:=cE (ai d) (aP 9) (h:=bf (ai d) (bk rfl rfl) (h:=cd (ai d) (h:=ah ?_))))))
   have x_:=fD U ((ai d));exact bK [0,1,2,3,4,5,6,7,8,9]
  refine cu 5 (am d) (ck (am d) (h:=ah ?_))
  have x_:=fC U ((am d));exact bK [0,1,2,3,4,5,6,7,8,9]
 refine S' ar ?_
 obtain⟨c5,Y,H⟩:=bj H
 refine dy 6 [(2,aH b),(3,aH a),(93,.bool c5)] (bn a1 cQ cR dM dQ dF dG dN dR++(bn a0 af ag ay az au av aw ax++[aK b 34 (al a0 af ag ay az au av aw ax),aK a 34 (al a1 cQ cR dM dQ dF dG dN dR)])) ?_ fun junk=>?_
 ·by_cases l : b8 = true
  ·refine bf l aA (h:=cE l (aP 8) (h:=bf l aA (h:=cE l (aP 9) (h:=iI l (.bool (decide (a0.f3 = a1.f3))) (gJ Tryz.underlying4 rfl rfl) (h:=cd l (h:=ah ?_))))))
   have x_:=fD Y l;exact bK [0,1,2,3,4,5,6,7,8,9]
  refine cu 5 (aM l) (ck (aM l) (h:=ah ?_))
  have x_:=fC Y ((aM l));exact bK [0,1,2,3,4,5,6,7,8,9]
 refine S' ar ?_
 obtain⟨c6,Z,H⟩:=bj H
 refine dy 6 [(2,aH b),(3,aH a),(100,.bool c6)] (bn a1 cQ cR dM dQ dF dG dN dR++(bn a0 af ag ay az au av aw ax++[aK b 34 (al a0 af ag ay az au av aw ax),aK a 34 (al a1 cQ cR dM dQ dF dG dN dR)])) ?_ fun junk=>?_
 ·by_cases o : c5 = true
  ·refine bf o aA (h:=cE o (cz b 6 8 (bF a0.f4)) (h:=bf o aA (h:=cE o (cz a 6 9 (bF a1.f4)) (h:=iI o (.bool (decide (a0.f4 = a1.f4))) (kC (xs:=(bF a0.f4)) (ys:=(bF a1.f4)) (r:=((a0.f4.f0 == a1.f4.f0) && ((a0.f4.f1 == a1.f4.f1) && ((a0.f4.f2 == a1.f4.f2) && ((a0.f4.f3 == a1.f4.f3) && ((a0.f4.f4 == a1.f4.f4) && ((a0.f4.f5 == a1.f4.f5) && ((a0.f4.f6 == a1.f4.f6) && ((a0.f4.f7 == a1.f4.f7) && ((a0.f4.f8 == a1.f4.f8) && ((a0.f4.f9 == a1.f4.f9) && true))))))))))) (p:=a0.f4 = a1.f4) lR rfl rfl (by kernel_rfl) (lS (x:=a0.f4) (y:=a1.f4))) (h:=cd o (h:=ah ?_))))))
   have x_:=fD Z o;exact bK [0,1,2,3,4,5,6,7,8,9]
  refine cu 5 (aM o) (ck (aM o) (h:=ah ?_))
  have x_:=fC Z ((aM o));exact bK [0,1,2,3,4,5,6,7,8,9]
 refine S' ar ?_
 obtain⟨c7,a2,H⟩:=bj H
 refine dy 6 [(2,aH b),(3,aH a),(107,.bool c7)] (bn a1 cQ cR dM dQ dF dG dN dR++(bn a0 af ag ay az au av aw ax++[aK b 34 (al a0 af ag ay az au av aw ax),aK a 34 (al a1 cQ cR dM dQ dF dG dN dR)])) ?_ fun junk=>?_
 ·by_cases q : c6 = true
  ·refine bf q aA (h:=cE q (aP 8) (h:=bf q aA (h:=cE q (aP 9) (h:=bf q (bk rfl rfl) (h:=cd q (h:=ah ?_))))))
   have x_:=fD a2 q;exact bK [0,1,2,3,4,5,6,7,8,9]
  refine cu 5 (aM q) (ck (aM q) (h:=ah ?_))
  have x_:=fC a2 ((aM q));exact bK [0,1,2,3,4,5,6,7,8,9]
 refine S' ar ?_
 obtain⟨c8,a3,H⟩:=bj H
 refine dy 6 [(2,aH b),(3,aH a),(114,.bool c8)] (bn a1 cQ cR dM dQ dF dG dN dR++(bn a0 af ag ay az au av aw ax++[aK b 34 (al a0 af ag ay az au av aw ax),aK a 34 (al a1 cQ cR dM dQ dF dG dN dR)])) ?_ fun junk=>?_
 ·by_cases s : c7 = true
  ·refine bf s aA (h:=cE s (aP 8) (h:=bf s aA (h:=cE s (aP 9) (h:=bf s (bk rfl rfl) (h:=cd s (h:=ah ?_))))))
   have x_:=fD a3 s;exact bK [0,1,2,3,4,5,6,7,8,9]
  refine cu 5 (aM s) (ck (aM s) (h:=ah ?_))
  have x_:=fC a3 ((aM s));exact bK [0,1,2,3,4,5,6,7,8,9]
 refine S' ar ?_
 obtain⟨c9,a4,H⟩:=bj H
 refine dy 6 [(2,aH b),(3,aH a),(121,.bool c9)] (bn a1 cQ cR dM dQ dF dG dN dR++(bn a0 af ag ay az au av aw ax++[aK b 34 (al a0 af ag ay az au av aw ax),aK a 34 (al a1 cQ cR dM dQ dF dG dN dR)])) ?_ fun junk=>?_
 ·by_cases u : c8 = true
  ·refine bf u aA (h:=cE u (aP 8) (h:=bf u aA (h:=cE u (aP 9) (h:=iI u (.bool (decide (a0.f8 = a1.f8))) (gJ Tryz.underlying4 rfl rfl) (h:=cd u (h:=ah ?_))))))
   have x_:=fD a4 u;exact bK [0,1,2,3,4,5,6,7,8,9]
  refine cu 5 (aM u) (ck (aM u) (h:=ah ?_))
  have x_:=fC a4 ((aM u));exact bK [0,1,2,3,4,5,6,7,8,9]
 refine S' ar ?_
 obtain⟨d0,a5,H⟩:=bj H
 refine dy 6 [(2,aH b),(3,aH a),(128,.bool d0)] (bn a1 cQ cR dM dQ dF dG dN dR++(bn a0 af ag ay az au av aw ax++[aK b 34 (al a0 af ag ay az au av aw ax),aK a 34 (al a1 cQ cR dM dQ dF dG dN dR)])) ?_ fun junk=>?_
 ·by_cases z : c9 = true
  ·refine bf z aA (h:=cE z (aP 8) (h:=bf z aA (h:=cE z (aP 9) (h:=iI z (.bool (decide (a0.f9 = a1.f9))) (gJ Tryz.underlying4 rfl rfl) (h:=cd z (h:=ah ?_))))))
   have x_:=fD a5 z;exact bK [0,1,2,3,4,5,6,7,8,9]
  refine cu 5 (aM z) (ck (aM z) (h:=ah ?_))
  have x_:=fC a5 ((aM z));exact bK [0,1,2,3,4,5,6,7,8,9]
 refine S' ar ?_
 obtain⟨d1,a6,H⟩:=bj H
 refine dy 6 [(2,aH b),(3,aH a),(135,.bool d1)] (bn a1 cQ cR dM dQ dF dG dN dR++(bn a0 af ag ay az au av aw ax++[aK b 34 (al a0 af ag ay az au av aw ax),aK a 34 (al a1 cQ cR dM dQ dF dG dN dR)])) ?_ fun junk=>?_
 ·by_cases B : d0 = true
  ·refine bf B aA (h:=cE B (aP 8) (h:=bf B aA (h:=cE B (aP 9) (h:=iI B (.bool (decide (a0.f10 = a1.f10))) (gJ Tryz.underlying4 rfl rfl) (h:=cd B (h:=ah ?_))))))
   have x_:=fD a6 B;exact bK [0,1,2,3,4,5,6,7,8,9]
  refine cu 5 (aM B) (ck (aM B) (h:=ah ?_))
  have x_:=fC a6 ((aM B));exact bK [0,1,2,3,4,5,6,7,8,9]
 refine S' ar ?_
 obtain⟨d2,a7,H⟩:=bj H
 refine dy 6 [(2,aH b),(3,aH a),(142,.bool d2)] (bn a1 cQ cR dM dQ dF dG dN dR++(bn a0 af ag ay az au av aw ax++[aK b 34 (al a0 af ag ay az au av aw ax),aK a 34 (al a1 cQ cR dM dQ dF dG dN dR)])) ?_ fun junk=>?_
 ·by_cases D : d1 = true
  ·refine bf D aA (h:=cE D (aP 8) (h:=bf D aA (h:=cE D (aP 9) (h:=iI D (.bool (decide (a0.f11 = a1.f11))) (gJ Tryz.underlying4 rfl rfl) (h:=cd D (h:=ah ?_))))))
   have x_:=fD a7 D;exact bK [0,1,2,3,4,5,6,7,8,9]
  refine cu 5 (aM D) (ck (aM D) (h:=ah ?_))
  have x_:=fC a7 ((aM D));exact bK [0,1,2,3,4,5,6,7,8,9]
 refine S' ar ?_
 obtain⟨d3,a8,H⟩:=bj H
 refine dy 6 [(2,aH b),(3,aH a),(149,.bool d3)] (bn a1 cQ cR dM dQ dF dG dN dR++(bn a0 af ag ay az au av aw ax++[aK b 34 (al a0 af ag ay az au av aw ax),aK a 34 (al a1 cQ cR dM dQ dF dG dN dR)])) ?_ fun junk=>?_
 ·by_cases E : d2 = true
  ·refine bf E aA (h:=cE E (aP 8) (h:=bf E aA (h:=cE E (aP 9) (h:=iI E (.bool (decide (a0.f12 = a1.f12))) (gJ Tryz.underlying4 rfl rfl) (h:=cd E (h:=ah ?_))))))
   have x_:=fD a8 E;exact bK [0,1,2,3,4,5,6,7,8,9]
  refine cu 5 (aM E) (ck (aM E) (h:=ah ?_))
  have x_:=fC a8 ((aM E));exact bK [0,1,2,3,4,5,6,7,8,9]
 refine S' ar ?_
 obtain⟨d4,a9,H⟩:=bj H
 refine dy 6 [(2,aH b),(3,aH a),(156,.bool d4)] (bn a1 cQ cR dM dQ dF dG dN dR++(bn a0 af ag ay az au av aw ax++[aK b 34 (al a0 af ag ay az au av aw ax),aK a 34 (al a1 cQ cR dM dQ dF dG dN dR)])) ?_ fun junk=>?_
 ·by_cases F : d3 = true
  ·refine bf F aA (h:=cE F (aP 8) (h:=bf F aA (h:=cE F (aP 9) (h:=iI F (.bool (decide (a0.f13 = a1.f13))) (gJ Tryz.underlying4 rfl rfl) (h:=cd F (h:=ah ?_))))))
   have x_:=fD a9 F;exact bK [0,1,2,3,4,5,6,7,8,9]
  refine cu 5 (aM F) (ck (aM F) (h:=ah ?_))
  have x_:=fC a9 ((aM F));exact bK [0,1,2,3,4,5,6,7,8,9]
 refine S' ar ?_
 obtain⟨d5,b0,H⟩:=bj H
 refine dy 6 [(2,aH b),(3,aH a),(163,.bool d5)] (bn a1 cQ cR dM dQ dF dG dN dR++(bn a0 af ag ay az au av aw ax++[aK b 34 (al a0 af ag ay az au av aw ax),aK a 34 (al a1 cQ cR dM dQ dF dG dN dR)])) ?_ fun junk=>?_
 ·by_cases I : d4 = true
  ·refine bf I aA (h:=cE I (cz b 25 8 (ii a0.f14)) (h:=bf I aA (h:=cE I (cz a 25 9 (ii a1.f14)) (h:=iI I (.bool (decide (a0.f14 = a1.f14))) (kC (xs:=(ii a0.f14)) (ys:=(ii a1.f14)) (r:=((a0.f14.f0 == a1.f14.f0) && ((a0.f14.f1 == a1.f14.f1) && ((a0.f14.f2 == a1.f14.f2) && ((a0.f14.f3 == a1.f14.f3) && (((a0.f14.f4.f0 == a1.f14.f4.f0) && ((a0.f14.f4.f1 == a1.f14.f4.f1) && ((a0.f14.f4.f2 == a1.f14.f4.f2) && ((a0.f14.f4.f3 == a1.f14.f4.f3) && ((a0.f14.f4.f4 == a1.f14.f4.f4) && ((a0.f14.f4.f5 == a1.f14.f4.f5) && ((a0.f14.f4.f6 == a1.f14.f4.f6) && ((a0.f14.f4.f7 == a1.f14.f4.f7) && ((a0.f14.f4.f8 == a1.f14.f4.f8) && ((a0.f14.f4.f9 == a1.f14.f4.f9) && true)))))))))) && true)))))) (p:=a0.f14 = a1.f14) vN rfl rfl (by kernel_rfl) (vP (x:=a0.f14) (y:=a1.f14))) (h:=cd I (h:=ah ?_))))))
   have x_:=fD b0 I;exact bK [0,1,2,3,4,5,6,7,8,9]
  refine cu 5 (aM I) (ck (aM I) (h:=ah ?_))
  have x_:=fC b0 ((aM I));exact bK [0,1,2,3,4,5,6,7,8,9]
 refine S' ar ?_
 obtain⟨g8,b1,H⟩:=bj H
 refine dy 6 [(170,.bool g8)] (bn a1 cQ cR dM dQ dF dG dN dR++bn a0 af ag ay az au av aw ax) ?_ fun junk=>?_
 ·by_cases J : d5 = true
  ·refine bf J aA (h:=cE J (aP 8) (h:=bf J aA (h:=cE J (aP 9) (h:=iI J (.bool (decide (a0.f15 = a1.f15))) (gJ Tryz.underlying4 rfl rfl) (h:=cd J (h:=ah ?_))))))
   have x_:=fD b1 J;exact bK [0,1,2,3,4,5,6,7]
  refine cu 5 (aM J) (ck (aM J) (h:=ah ?_))
  have x_:=fC b1 ((aM J));exact bK [0,1,2,3,4,5,6,7]
 refine ad aW (h:=cC ?_)
 have h:=aN H;subst h
 exact dX [4,5,6,7,0,1,2,3] ⟨rfl,rfl⟩


def qL.f  : Option ((List aZ)):=some ((((aZ.mk 4352 4447)::(aZ.mk 8986 8987)::(aZ.mk 9001 9002)::(aZ.mk 9193 9196)::(aZ.mk 9725 9726)::(aZ.mk 9748 9749)::(aZ.mk 9800 9811)::(aZ.mk 9889 9889)::(aZ.mk 9917 9918)::(aZ.mk 9989 9989)::(aZ.mk 10024 10024)::(aZ.mk 10060 10060)::(aZ.mk 10067 10069)::(aZ.mk 10133 10135)::(aZ.mk 11035 11036)::(aZ.mk 11088 11088)::(aZ.mk 11904 12350)::(aZ.mk 12353 13311)::(aZ.mk 13312 19903)::(aZ.mk 19968 40959)::(aZ.mk 40960 42191)::(aZ.mk 44032 55203)::(aZ.mk 63744 64255)::(aZ.mk 65072 65135)::(aZ.mk 65281 65376)::(aZ.mk 65504 65510)::(aZ.mk 127744 127776)::(aZ.mk 127789 127797)::(aZ.mk 127799 127868)::(aZ.mk 128000 128062)::(aZ.mk 128064 128064)::(aZ.mk 128066 128252)::(aZ.mk 128512 128591)::(aZ.mk 128640 128709)::(aZ.mk 129280 129535)::(aZ.mk 131072 196605)::(aZ.mk 196608 262141)::[]) : (List aZ)))
theorem qL.ok  {r : (List aZ)} (H : qL.f  = some r) : fS Tryz.prog 148 #[] [] (.agg (List.flatMap eT ((rd r 0)::(rd r 1)::(rd r 2)::(rd r 3)::(rd r 4)::(rd r 5)::(rd r 6)::(rd r 7)::(rd r 8)::(rd r 9)::(rd r 10)::(rd r 11)::(rd r 12)::(rd r 13)::(rd r 14)::(rd r 15)::(rd r 16)::(rd r 17)::(rd r 18)::(rd r 19)::(rd r 20)::(rd r 21)::(rd r 22)::(rd r 23)::(rd r 24)::(rd r 25)::(rd r 26)::(rd r 27)::(rd r 28)::(rd r 29)::(rd r 30)::(rd r 31)::(rd r 32)::(rd r 33)::(rd r 34)::(rd r 35)::(rd r 36)::[])).toArray):=by
 refine aj Tryz.func148 rfl rfl ?_
 unfold qL.f at H
 refine aR (o' (cw (h:=fun a=>cP (bP (.agg #[aL 4352,aL 4447]) gH (h:=bP (.agg #[aL 8986,aL 8987]) gH (h:=bP (.agg #[aL 9001,aL 9002]) gH (h:=bP (.agg #[aL 9193,aL 9196]) gH (h:=bP (.agg #[aL 9725,aL 9726]) gH (h:=bP (.agg #[aL 9748,aL 9749]) gH (h:=s' (.agg #[aL 9800,aL 9811]) gH ?_))))))))))
 refine bP (.agg #[aL 9889,aL 9889]) gH (h:=bP (.agg #[aL 9917,aL 9918]) gH (h:=bP (.agg #[aL 9989,aL 9989]) gH (h:=bP (.agg #[aL 10024,aL 10024]) gH (h:=bP (.agg #[aL 10060,aL 10060]) gH (h:=bP (.agg #[aL 10067,aL 10069]) gH (h:=bP (.agg #[aL 10133,aL 10135]) gH (h:=bP (.agg #[aL 11035,aL 11036]) gH (h:=bP (.agg #[aL 11088,aL 11088]) gH (h:=s' (.agg #[aL 11904,aL 12350]) gH ?_)))))))))
 refine bP (.agg #[aL 12353,aL 13311]) gH (h:=bP (.agg #[aL 13312,aL 19903]) gH (h:=bP (.agg #[aL 19968,aL 40959]) gH (h:=bP (.agg #[aL 40960,aL 42191]) gH (h:=bP (.agg #[aL 44032,aL 55203]) gH (h:=bP (.agg #[aL 63744,aL 64255]) gH (h:=bP (.agg #[aL 65072,aL 65135]) gH (h:=bP (.agg #[aL 65281,aL 65376]) gH (h:=bP (.agg #[aL 65504,aL 65510]) gH (h:=s' (.agg #[aL 127744,aL 127776]) gH ?_)))))))))
 refine bP (.agg #[aL 127789,aL 127797]) gH (h:=bP (.agg #[aL 127799,aL 127868]) gH (h:=bP (.agg #[aL 128000,aL 128062]) gH (h:=bP (.agg #[aL 128064,aL 128064]) gH (h:=bP (.agg #[aL 128066,aL 128252]) gH (h:=bP (.agg #[aL 128512,aL 128591]) gH (h:=bP (.agg #[aL 128640,aL 128709]) gH (h:=bP (.agg #[aL 129280,aL 129535]) gH (h:=bP (.agg #[aL 131072,aL 196605]) gH (h:=s' (.agg #[aL 196608,aL 262141]) gH ?_)))))))))
 refine bP (.agg (List.toArray (aL 4352::aL 4447::aL 8986::aL 8987::aL 9001::aL 9002::aL 9193::aL 9196::aL 9725::aL 9726::aL 9748::aL 9749::aL 9800::aL 9811::aL 9889::aL 9889::aL 9917::aL 9918::aL 9989::aL 9989::aL 10024::aL 10024::aL 10060::aL 10060::aL 10067::aL 10069::aL 10133::aL 10135::aL 11035::aL 11036::aL 11088::aL 11088::aL 11904::aL 12350::aL 12353::aL 13311::aL 13312::aL 19903::aL 19968::aL 40959::aL 40960::aL 42191::aL 44032::aL 55203::aL 63744::aL 64255::aL 65072::aL 65135::aL 65281::aL 65376::aL 65504::aL 65510::aL 127744::aL 127776::aL 127789::aL 127797::aL 127799::aL 127868::aL 128000::aL 128062::aL 128064::aL 128064::aL 128066::aL 128252::aL 128512::aL 128591::aL 128640::aL 128709::aL 129280::aL 129535::aL 131072::aL 196605::aL 196608::aL 262141::[]))) gH (h:=o' (oB (b:=a) (m:=0) (k:=0) (vs:=(List.flatMap eT ((aZ.mk 4352 4447)::(aZ.mk 8986 8987)::(aZ.mk 9001 9002)::(aZ.mk 9193 9196)::(aZ.mk 9725 9726)::(aZ.mk 9748 9749)::(aZ.mk 9800 9811)::(aZ.mk 9889 9889)::(aZ.mk 9917 9918)::(aZ.mk 9989 9989)::(aZ.mk 10024 10024)::(aZ.mk 10060 10060)::(aZ.mk 10067 10069)::(aZ.mk 10133 10135)::(aZ.mk 11035 11036)::(aZ.mk 11088 11088)::(aZ.mk 11904 12350)::(aZ.mk 12353 13311)::(aZ.mk 13312 19903)::(aZ.mk 19968 40959)::(aZ.mk 40960 42191)::(aZ.mk 44032 55203)::(aZ.mk 63744 64255)::(aZ.mk 65072 65135)::(aZ.mk 65281 65376)::(aZ.mk 65504 65510)::(aZ.mk 127744 127776)::(aZ.mk 127789 127797)::(aZ.mk 127799 127868)::(aZ.mk 128000 128062)::(aZ.mk 128064 128064)::(aZ.mk 128066 128252)::(aZ.mk 128512 128591)::(aZ.mk 128640 128709)::(aZ.mk 129280 129535)::(aZ.mk 131072 196605)::(aZ.mk 196608 262141)::[]))) (cs':=(List.flatMap eT ((aZ.mk 4352 4447)::(aZ.mk 8986 8987)::(aZ.mk 9001 9002)::(aZ.mk 9193 9196)::(aZ.mk 9725 9726)::(aZ.mk 9748 9749)::(aZ.mk 9800 9811)::(aZ.mk 9889 9889)::(aZ.mk 9917 9918)::(aZ.mk 9989 9989)::(aZ.mk 10024 10024)::(aZ.mk 10060 10060)::(aZ.mk 10067 10069)::(aZ.mk 10133 10135)::(aZ.mk 11035 11036)::(aZ.mk 11088 11088)::(aZ.mk 11904 12350)::(aZ.mk 12353 13311)::(aZ.mk 13312 19903)::(aZ.mk 19968 40959)::(aZ.mk 40960 42191)::(aZ.mk 44032 55203)::(aZ.mk 63744 64255)::(aZ.mk 65072 65135)::(aZ.mk 65281 65376)::(aZ.mk 65504 65510)::(aZ.mk 127744 127776)::(aZ.mk 127789 127797)::(aZ.mk 127799 127868)::(aZ.mk 128000 128062)::(aZ.mk 128064 128064)::(aZ.mk 128066 128252)::(aZ.mk 128512 128591)::(aZ.mk 128640 128709)::(aZ.mk 129280 129535)::(aZ.mk 131072 196605)::(aZ.mk 196608 262141)::[]))) rfl rfl rfl rfl rfl (by kernel_rfl) uu rfl (by kernel_rfl) (cC ?_)))
 have h:=aN H;subst h
 exact gi (rs:=[.cell 0 139]) (vs:=[.agg (List.toArray (aL 4352::aL 4447::aL 8986::aL 8987::aL 9001::aL 9002::aL 9193::aL 9196::aL 9725::aL 9726::aL 9748::aL 9749::aL 9800::aL 9811::aL 9889::aL 9889::aL 9917::aL 9918::aL 9989::aL 9989::aL 10024::aL 10024::aL 10060::aL 10060::aL 10067::aL 10069::aL 10133::aL 10135::aL 11035::aL 11036::aL 11088::aL 11088::aL 11904::aL 12350::aL 12353::aL 13311::aL 13312::aL 19903::aL 19968::aL 40959::aL 40960::aL 42191::aL 44032::aL 55203::aL 63744::aL 64255::aL 65072::aL 65135::aL 65281::aL 65376::aL 65504::aL 65510::aL 127744::aL 127776::aL 127789::aL 127797::aL 127799::aL 127868::aL 128000::aL 128062::aL 128064::aL 128064::aL 128066::aL 128252::aL 128512::aL 128591::aL 128640::aL 128709::aL 129280::aL 129535::aL 131072::aL 196605::aL 196608::aL 262141::[]))]) [] rfl ⟨RV.cell (k:=0) rfl rfl Tryz.underlying139 rfl uu,trivial⟩ rfl (eZ []) ⟨(by kernel_rfl),rfl⟩

end Go.Proofs.YtckilbegmbaeeaaGreat.Z6

/- Walks. -/
import Derived.Test.YtckilbegmbaeeaaGreatZ70
namespace Go.Proofs.YtckilbegmbaeeaaGreat.Z7
open Go Go.RowKit Go.Proofs.YtckilbegmbaeeaaGreat.SL
open Go.IntKind (i64)
set_option linter.unusedVariables false
set_option maxHeartbeats 20000000
set_option maxRecDepth 100000
set_option linter.unusedSimpArgs false
attribute [local irreducible] IntKind.wrap dm fE iD md lW rn lM fG ma rd sub bytesOf jD dv
variable {ag az av ax cF di dc dj k : Nat}
variable {af ay au aw cE df db dh : Option Addr}
def sx.f  : Option (cN):=some ((cN.mk (-1) (-1) false false false false false false false false))
theorem sx.ok  {r : cN} (H : sx.f  = some r) : fU Tryz.prog 22 #[] [] (.agg (bF r).toArray):=by
 refine aj Tryz.func22 rfl rfl ?_
 unfold sx.f at H
 refine aP (o' (cC (h:=fun a=>cR (bT (.agg (bF (cN.mk (-1) (-1) false false false false false false false false)).toArray) dS (h:=o' (bj a 0 0 (bF (cN.mk (-1) (-1) false false false false false false false false)) (h:=cD ?_)))))))
 have h:=aN H;subst h
 exact gi (rs:=[.cell 0 28]) (vs:=[.agg (bF (cN.mk (-1) (-1) false false false false false false false false)).toArray]) [] rfl ⟨RV.cell (k:=0) rfl rfl Tryz.underlying28 rfl mf,trivial⟩ rfl (fk []) ⟨rfl,rfl⟩


def qH.f (a0 : Int) (a1 : Int) : Option (Bool):=lt ((decide (a0 ≥ 1)) && (decide (a0 ≤ 512))) fun a=>lt (a && (decide (a1 ≥ 1))) fun b=>lt (b && (decide (a1 ≤ 512))) fun c=>some (c)
theorem qH.ok {a0 : Int} {a1 : Int} {r : Bool} (H : qH.f a0 a1 = some r) : fU Tryz.prog 68 #[ae a0,ae a1] [] (.bool r):=by
 refine aj Tryz.func68 rfl rfl ?_
 unfold qH.f at H
 refine aP (ad aW (h:=cR (ad ar (h:=ad (dU rfl rfl) (h:=S' ar ?_)))))
 obtain⟨l,c,H⟩:=bi H
 refine dy 3 [(1,ae a1),(10,.bool l)] [] ?_ fun junk=>?_
 ·by_cases h2 : a0 ≥ 1
  ·refine aZ (ai h2) ar (h:=aZ (ai h2) (gF rfl rfl) (h:=bY (ai h2) (h:=ah ?_)))
   have x_:=fq c ((ai h2));exact bH []
  refine ct 2 (al h2) (ca (al h2) (h:=ah ?_))
  have x_:=fp c ((al h2));exact bH []
 refine S' ar ?_
 obtain⟨m,d,H⟩:=bi H
 refine dy 3 [(1,ae a1),(14,.bool m)] [] ?_ fun junk=>?_
 ·by_cases a : l = true
  ·refine aZ a ar (h:=aZ a (dU rfl rfl) (h:=bY a (h:=ah ?_)))
   have x_:=fq d a;exact bH []
  refine ct 2 (aK a) (ca (aK a) (h:=ah ?_))
  have x_:=fp d ((aK a));exact bH []
 refine S' ar ?_
 obtain⟨o,j,H⟩:=bi H
 refine dy 3 [(18,.bool o)] [] ?_ fun junk=>?_
 ·by_cases b : m = true
  ·refine aZ b ar (h:=aZ b (gF rfl rfl) (h:=bY b (h:=ah ?_)))
   have x_:=fq j b;exact bH []
  refine ct 2 (aK b) (ca (aK b) (h:=ah ?_))
  have x_:=fp j ((aK b));exact bH []
 refine ad aW (h:=cD ?_)
 have h:=aN H;subst h
 exact dJ [] ⟨rfl,rfl⟩


def pK.f (a0 : Int) : Option (Bool):=lt ((decide (a0 ≥ (-1))) && (decide (a0 ≤ 255))) fun a=>some (a)
theorem pK.ok {a0 : Int} {r : Bool} (H : pK.f a0 = some r) : fU Tryz.prog 113 #[ae a0] [] (.bool r):=by
 refine aj Tryz.func113 rfl rfl ?_
 unfold pK.f at H
 refine aP (ad aW (h:=cR (ad ar (h:=ad (dU rfl rfl) (h:=S' ar ?_)))))
 obtain⟨b,a,H⟩:=bi H
 refine dy 3 [(8,.bool b)] [] ?_ fun junk=>?_
 ·by_cases h2 : a0 ≥ (-1)
  ·refine aZ (ai h2) ar (h:=aZ (ai h2) (gF rfl rfl) (h:=bY (ai h2) (h:=ah ?_)))
   have x_:=fq a ((ai h2));exact bH []
  refine ct 2 (al h2) (ca (al h2) (h:=ah ?_))
  have x_:=fp a ((al h2));exact bH []
 refine ad aW (h:=cD ?_)
 have h:=aN H;subst h
 exact dJ [] ⟨rfl,rfl⟩


def qb.f (a0 : cN) : Option (Bool):=(pK.f a0.f0).bind (fun b=>(if b = true then ((pK.f a0.f1).bind (fun c=>some c)) else (some false) : Option Bool).bind (fun a=>some (a)))
theorem qb.ok {a0 : cN} {r : Bool} (H : qb.f a0 = some r) : fU Tryz.prog 58 #[.agg (bF a0).toArray] [] (.bool r):=by
 refine aj Tryz.func58 rfl rfl ?_
 unfold qb.f at H
 refine aP (o' (bO (h:=fun l=>ad aW (h:=cR (ad aA (h:=l' (aO 0) ?_))))))
 obtain⟨m,d,H⟩:=ac H
 refine o' (da [] [0] (pK.ok d) ?_)
 refine S' ar ?_
 obtain⟨j,H,b⟩:=ac H
 refine dy 4 [(10,.bool j)] [] ?_ fun junk=>?_
 ·rcases bD H with⟨a,H⟩|⟨a,H⟩
  ·refine aZ a aA (h:=z' a (aO 0) ?_)
   obtain⟨o,c,H⟩:=ac H
   refine fR a (da [] [0] (pK.ok c) ?_)
   refine gJ a ?_
   have h:=aN H;subst h
   exact dQ []
  refine ct 3 (aK a) (fZ (aK a) ?_)
  have h:=aN H;subst h
  exact dQ []
 replace H:=b
 refine ad aW (h:=cD ?_)
 have h:=aN H;subst h
 exact dJ [] ⟨rfl,rfl⟩


def nE.f (a0 : cN) : Option (ba):=(sx.f ).bind (fun a=>some ((ba.mk 32 (fX.mk 0 0 0) 1 ({ a with f1:=a0.f1 }))))
theorem nE.ok {a0 : cN} {r : ba} (H : nE.f a0 = some r) : fU Tryz.prog 147 #[.agg (bF a0).toArray] [] (.agg (bW r).toArray):=by
 refine aj Tryz.func147 rfl rfl ?_
 unfold nE.f at H
 refine aP (o' (bO (h:=fun j=>o' (cC (h:=fun c=>cR ?_)))))
 obtain⟨a,b,H⟩:=ac H
 refine o' (da [] [0,1] (sx.ok b) ?_)
 refine o' (cC (h:=fun d=>o' (bj d 0 2 (bF a) (h:=cR (ad aA (h:=bq (aO 0) (h:=ad aA (h:=o' (cJ 2 [ae a0.f1] (h:=(cR (bq (cm 2) (h:=s' (.agg (bW (ba.mk 32 (fX.mk 0 0 0) 1 ({ a with f1:=a0.f1 }))).toArray) dS ?_)))))))))))))
 refine o' (bj c 0 1 (bW (ba.mk 32 (fX.mk 0 0 0) 1 ({ a with f1:=a0.f1 }))) (h:=cD ?_))
 have h:=aN H;subst h
 exact gi (rs:=[.cell 2 55]) (vs:=[.agg (bW (ba.mk 32 (fX.mk 0 0 0) 1 ({ a with f1:=a0.f1 }))).toArray]) [] rfl ⟨RV.cell (k:=1) rfl rfl Tryz.underlying55 rfl ck,trivial⟩ rfl (fk []) ⟨rfl,rfl⟩


def gQ.l0 (l0 : (List ba)) (r4 : ba) : Nat → Int → (List ba) → Option ((List ba))
  | 0,_,_=>none
  | k + 1,b,a=>if a.length = l0.length then (if b < (l0.length : Int) then (if 0 ≤ b∧b < (a.length : Int) then (lt (a.set b.toNat r4) fun n13=>(gQ.l0 l0 r4 k (i64.wrap (b + 1)) n13)) else none) else (some a)) else none
def gQ.f (k : Nat) (l0 : (List ba)) (a1 : cN) : Option ((List ba)):=(nE.f a1).bind (fun b=>(gQ.l0 l0 b k 0 l0 : Option ((List ba))).bind (fun a=>if a.length = l0.length then (some (a)) else none))
theorem gQ.ok {l0 : (List ba)} {a1 : cN} {A0 : Option Addr} {c0 : Nat} {r : (List ba)} (H : gQ.f k l0 a1 = some r) : dp Tryz.prog 116 #[.slice A0 l0.length c0,.agg (bF a1).toArray] [Buf bI 55 A0 c0 l0] (fun v B=>v = .tuple #[]∧B = [Buf bI 55 A0 c0 r]):=by
 refine aj Tryz.func116 rfl rfl ?_
 unfold gQ.f at H
 refine aP (o' (bO (h:=fun J=>cR (l' (cm 1) ?_))))
 obtain⟨l,E,H⟩:=ac H
 refine o' (da [] [0,1] (nE.ok E) ?_)
 refine o' (cC (h:=fun u=>o' (bj u 0 2 (bW l) (h:=cR (ad ar (h:=bT (ae (l0.length : Int)) (cP Tryz.underlying24 rfl) (h:=ad ar (h:=bA ?_))))))))
 obtain⟨D,H,p⟩:=ac H
 refine bK (St [] [Buf bI 55 A0 c0 D]) ?_ ?_
 ·refine aT (cl (fun k_ e ds As=>∃ (b : Int) (a : (List ba)),gQ.l0 l0 l k_ b a = some D∧St [(0,.slice A0 a.length c0),(4,aI u),(9,ae (l0.length : Int)),(10,ae b)] [Buf bI 55 A0 c0 a,aL u 55 (bW l)] e ds As) (k:=k) ⟨_,_,H,jQ [0,2]⟩ ?_)
  clear H
  rintro z e ds As ⟨b,a,H,y⟩
  obtain _ | z:=z
  ·cases H
  rw [gQ.l0] at H
  obtain⟨F,H⟩:=aS H
  refine SA.of_St y fun junk=>aP (ad (cg rfl rfl) (h:=bA (ap ?_)))
  rcases bD H with⟨c,H⟩|⟨c,H⟩
  ·refine aC rfl c (ao (aa (ap (aT (aP (ad ar (h:=ad aW (h:=bA (ak (ad ar (h:=ad ar (h:=l' (cm 1) ?_))))))))))))
   obtain⟨⟨q,s⟩,H⟩:=aS H
   refine l' (br (i:=b) Tryz.underlying24 ck rfl rfl (Src.buf (k:=0) rfl) q s) ?_
   obtain⟨n13,d,H⟩:=bi H
   have hl_n13 : n13.length = a.length:=by rw [d]; exact List.length_set
   refine o' (iG (k:=0) (i:=b) (j:=b.toNat * 15) (m:=0) (sz:=15) (xs:=a) (vs:=(bW l)) l rfl rfl rfl rfl rfl rfl rfl rfl ck q s rfl (fun _ _ h_=>by subst h_; rfl) ?_)
   rewrite [← d]
   try unfold bF
   try rewrite [← hl_n13]
   refine ah (aG (aa (ak (ad (bX rfl rfl) (h:=ad ar (h:=ah ?_))))))
   exact aa ⟨z,Nat.lt_succ_self _,_,_,H,eb [0,1]⟩
  refine aB rfl c (ci (aX (aX (cj ?_))))
  have h:=aN H;subst h
  exact bH [0]
 rintro e ds As o
 clear H
 have H:=p
 clear p
 obtain⟨I,H⟩:=aS H
 have h:=aN H;subst h
 exact nD o [Buf bI 55 A0 c0 D] rfl (fk [0]) ⟨rfl,rfl⟩


def tg.f (k : Nat) (a0 : Int) (a1 : Int) (a2 : cN) : Option (bJ):=if 0 ≤ (i64.wrap (a0 * a1))∧(i64.wrap (a0 * a1)) ≤ 2932031007402 then lt (List.replicate (i64.wrap (a0 * a1)).toNat (ba.mk 0 (fX.mk 0 0 0) 0 (cN.mk 0 0 false false false false false false false false))) fun n9=>((gQ.f k n9 a2).bind (fun a=>if a.length = n9.length then (some ((bJ.mk a0 a1 a))) else none)) else none
theorem tg.ok {a0 : Int} {a1 : Int} {a2 : cN} {r : bJ} (H : tg.f k a0 a1 a2 = some r) : dp Tryz.prog 69 #[ae a0,ae a1,.agg (bF a2).toArray] [] (fun v B=>∃ aQ aR,v = .agg #[ae r.f0,ae r.f1,.slice aQ r.f2.length aR]∧B = [Buf bI 55 aQ aR r.f2]):=by
 refine aj Tryz.func69 rfl rfl ?_
 unfold tg.f at H
 refine aP (o' (bO (h:=fun s=>o' (cC (h:=fun o=>cR (ad ar (h:=ad ar (h:=ad ar (h:=ad ar (h:=S' (jt rfl rfl) ?_))))))))))
 obtain⟨⟨p,u⟩,H⟩:=aS H
 obtain⟨n9,m,H⟩:=bi H
 refine o' (vO (kd:=bI) (sz:=15) (l:=i64.wrap (a0 * a1)) lu n9 m rfl Tryz.underlying24 mD rfl rfl p (by omega) (by omega) rfl rfl (fun _=>rfl) fun a=>bT (.agg #[ae a0,ae a1,.slice (some ⟨a,0,none⟩) n9.length ((i64.wrap (a0 * a1)).toNat)]) dS (h:=o' (cC (h:=fun c=>o' (bj c 0 3 [ae a0,ae a1,.slice (some ⟨a,0,none⟩) n9.length ((i64.wrap (a0 * a1)).toNat)] (h:=bA (ap (bQ 2 fun q=>ak (ad aA (h:=bq (aO 3) (h:=l' (cm 0) ?_)))))))))))
 obtain⟨b,j,H⟩:=ac H
 obtain⟨d,H⟩:=aS H
 refine o' (da [2] [0,1,3] (gQ.ok (A0:=some ⟨a,0,none⟩) (c0:=(i64.wrap (a0 * a1)).toNat) j) ?_)
 try unfold bF
 try rewrite [← d]
 refine cR (bq (cx c 0 3 [ae a0,ae a1,.slice (some ⟨a,0,none⟩) b.length ((i64.wrap (a0 * a1)).toNat)]) (h:=o' (bj o 0 2 [ae a0,ae a1,.slice (some ⟨a,0,none⟩) b.length ((i64.wrap (a0 * a1)).toNat)] (h:=cD ?_))))
 have h:=aN H;subst h
 exact gi (rs:=[.cell 6 26]) (vs:=[.agg #[ae a0,ae a1,.slice (some ⟨a,0,none⟩) b.length ((i64.wrap (a0 * a1)).toNat)]]) [Buf bI 55 (some ⟨a,0,none⟩) ((i64.wrap (a0 * a1)).toNat) b] rfl ⟨RV.cell (k:=2) rfl rfl Tryz.underlying26 rfl uA,trivial⟩ rfl (fk [0]) ⟨some ⟨a,0,none⟩,(i64.wrap (a0 * a1)).toNat,rfl,rfl⟩


def wu.f (k : Nat) (a0 : Int) (a1 : Int) (a2 : cN) : Option (bJ × Int):=(qH.f a0 a1).bind (fun c=>(if (!c) = true then (some true) else ((qb.f a2).bind (fun d=>some (!d))) : Option Bool).bind (fun b=>if b = true then (some (((bJ.mk 0 0 ([] : (List ba))),2))) else ((tg.f k a0 a1 a2).bind (fun a=>some ((a,0))))))
theorem wu.ok {a0 : Int} {a1 : Int} {a2 : cN} {r : bJ × Int} (H : wu.f k a0 a1 a2 = some r) : dp Tryz.prog 21 #[ae a0,ae a1,.agg (bF a2).toArray] [] (fun v B=>∃ aQ aR,v = .tuple #[.agg #[ae r.1.f0,ae r.1.f1,.slice aQ r.1.f2.length aR],ae r.2]∧B = [Buf bI 55 aQ aR r.1.f2]):=by
 refine aj Tryz.func21 rfl rfl ?_
 unfold wu.f at H
 refine aP (o' (bO (h:=fun s=>o' (cC (h:=fun d=>ad aW (h:=eA (ad ar (h:=S' ar ?_))))))))
 obtain⟨z,q,H⟩:=ac H
 refine o' (da [] [0,1] (qH.ok q) ?_)
 refine ad (bU rfl) (h:=S' ar ?_)
 obtain⟨y,H,m⟩:=ac H
 refine cI 4 (St [(0,ae a0),(1,ae a1),(5,aI s),(6,aI d),(16,.bool y)] [aL s 28 (bF a2),aL d 26 [ae 0,ae 0,.slice none 0 0]]) ?_ ?_
 ·rcases bD H with⟨a,H⟩|⟨a,H⟩
  ·refine ct 3 a (gJ a ?_)
   have h:=aN H;subst h
   exact dQ [0,1]
  refine z' (aK a) (cm 0) ?_
  obtain⟨D,u,H⟩:=ac H
  refine fR (aK a) (da [] [0,1] (qb.ok u) ?_)
  refine aZ (aK a) (bU rfl) (h:=fZ (aK a) ?_)
  have h:=aN H;subst h
  exact dQ [0,1]
 rintro e ds As j
 clear H
 have H:=m
 clear m
 refine bA (SA.of_St j fun junk=>?_)
 rcases bD H with⟨b,H⟩|⟨b,H⟩
 ·refine aD rfl b (aP (bT (.agg #[ae 0,ae 0,.slice none 0 0]) dS (h:=o' (bj d 0 1 [ae 0,ae 0,.slice none 0 0] (h:=ad aW (h:=cA ?_))))))
  have h:=aN H;subst h
  exact lX [.cell 6 26,.tmp 7] ((Gh.nilBuf bI 55).trans (fk [2])) ⟨none,0,rfl,rfl⟩ ⟨cW 1,cX,trivial⟩
 refine aE rfl b (ao (aa (aP (ad ar (h:=ad ar (h:=l' (cm 0) ?_))))))
 obtain⟨c,p,H⟩:=ac H
 refine o' (gy [] [0,1] (tg.ok p) fun l o=>?_)
 refine o' (bj d 0 2 [ae c.f0,ae c.f1,.slice l c.f2.length o] (h:=ad aW (h:=cD ?_)))
 have h:=aN H;subst h
 exact dE [.cell 6 26,.tmp 7] [0] ⟨l,o,rfl,rfl⟩ ⟨cW 2,cX,trivial⟩


def oD.l0 (a0 : Int) : Nat → (List Int) → Int → Option ((List Int))
  | 0,_,_=>none
  | k + 1,b,a=>if a < a0 then (if b.length + ([a] : (List Int)).length ≤ 17592186044416 then lt (b ++ ([a] : (List Int))) fun n18=>(lt (i64.wrap (a + 8)) fun n19=>oD.l0 a0 k n18 n19) else none) else (some b)
def oD.f (k : Nat) (a0 : Int) : Option ((List Int)):=(oD.l0 a0 k ([]) 8 : Option ((List Int))).bind (fun a=>some (a))
theorem oD.ok {a0 : Int} {r : (List Int)} (H : oD.f k a0 = some r) : dp Tryz.prog 23 #[ae a0] [] (fun v B=>∃ aQ aR,v = .slice aQ r.length aR∧B = [gL 3 aQ aR r]):=by
 refine aj Tryz.func23 rfl rfl ?_
 unfold oD.f at H
 refine aP (ad aW (h:=cR (ad aW (h:=eA (ad aW (h:=bA ?_))))))
 obtain⟨z,H,q⟩:=ac H
 refine bK (fun e ds As=>∃ (m : Option Addr) (c3 : Nat),St [(3,.slice m z.length c3)] [gL 3 m c3 z] e ds As) ?_ ?_
 ·refine aT (cl (fun k_ e ds As=>∃ (b : (List Int)) (a : Int),∃ (d : Option Addr) (j : Nat),oD.l0 a0 k_ b a = some z∧St [(0,ae a0),(3,.slice d b.length j),(4,ae a)] [gL 3 d j b] e ds As) (k:=k) ⟨_,_,none,0,H,St.mk1 (cO rfl (cO rfl (cO rfl dY))) ((Gh.nilBuf (Kd.int .i64) 3).trans (fk [0]))⟩ ?_)
  clear H
  rintro y e ds As ⟨b,a,d,j,H,o⟩
  obtain _ | y:=y
  ·cases H
  rw [oD.l0] at H
  refine SA.of_St o fun junk=>ap (aP (ad ar (h:=ad ar (h:=ad (cg rfl rfl) (h:=bA ?_)))))
  rcases bD H with⟨l,H⟩|⟨l,H⟩
  ·refine aC rfl l (ao (aa (ap (aT (ak (ad ar (h:=ad ar (h:=o' (gD (kd:=(Kd.int .i64)) (zv:=(ae 0)) (sz:=1) (cells:=[ae a]) (xs:=([a] : (List Int))) rfl Tryz.underlying29 nu jm rfl rfl rfl (by kernel_rfl) rfl rfl (dR (fun x_ : Int=>[Value.int .i64 x_]) (fun _ _=>rfl) (by kernel_rfl)) fun F=>?_)))))))))
   obtain⟨I,H⟩:=aS H
   obtain⟨n18,s,H⟩:=bi H
   refine o' (gm (k:=0) (A:=d) (c:=j) (xs:=b) (ys:=([a] : (List Int))) n18 s rfl Tryz.underlying29 pg rfl rfl rfl rfl rfl (nk.slice Tryz.underlying29 (Src.buf (k:=1) rfl)) (by omega) (by omega) fun D E=>ad aW (h:=ah (aG (aa (ak (ad ar (h:=S' (bX rfl rfl) ?_)))))))
   obtain⟨n19,u,H⟩:=bi H
   refine bT (ae n19) (bu (v:=ae n19) (congrArg (Value.int .i64) u.symm)) (h:=ah ?_)
   exact aa ⟨y,Nat.lt_succ_self _,_,_,D,E,H,eb [0]⟩
  refine aB rfl l (ci (aX (aX (cj ?_))))
  have h:=aN H;subst h
  exact aa ⟨d,j,eb [0]⟩
 rintro e ds As ⟨m,c3,p⟩
 clear H
 have H:=q
 clear q
 refine aa (SA.of_St p fun junk=>aP (ad ar (h:=ad aW (h:=cD ?_))))
 have h:=aN H;subst h
 exact dJ [0] ⟨m,c3,rfl,rfl⟩


def F8.f (k : Nat) (a0 : Int) (a1 : Int) : Option (aJ × Int):=(sx.f ).bind (fun j=>(wu.f k a0 a1 j).bind (fun c=>if c.2 ≠ 0 then (some (((aJ.mk (bJ.mk 0 0 ([] : (List ba))) 0 0 false (cN.mk 0 0 false false false false false false false false) 0 0 ([] : (List Int)) false false false false false false (dH.mk 0 0 false false (cN.mk 0 0 false false false false false false false false)) false (bJ.mk 0 0 ([] : (List ba))) ([] : (List Int))),c.2))) else (((sx.f ).bind (fun h=>(oD.f k a0).bind (fun b=>some (aJ.mk c.1 0 0 false h 0 (i64.wrap (a1 - 1)) b true false false false false true (dH.mk 0 0 false false (cN.mk 0 0 false false false false false false false false)) false (bJ.mk 0 0 ([] : (List ba))) ([] : (List Int))))) : Option (aJ)).bind (fun a=>(sx.f ).bind (fun d=>some ((({ a with f14:=(dH.mk a.f14.f0 a.f14.f1 a.f14.f2 a.f14.f3 d) }),0)))))))
theorem F8.ok {a0 : Int} {a1 : Int} {r : aJ × Int} (H : F8.f k a0 a1 = some r) : dp Tryz.prog 8 #[ae a0,ae a1] [] (fun v B=>∃ aQ aR bv bx bo bp bw bz,v = .tuple #[.agg (am r.1 aQ aR bv bx bo bp bw bz).toArray,ae r.2]∧B = (bn r.1 aQ aR bv bx bo bp bw bz)):=by
 refine aj Tryz.func8 rfl rfl ?_
 unfold F8.f at H
 refine aP (o' (cC (h:=fun O=>ad aW (h:=cR (ad ar (h:=S' ar ?_))))))
 obtain⟨r3,Y,H⟩:=ac H
 refine o' (da [] [0] (sx.ok Y) ?_)
 obtain⟨j,U,H⟩:=ac H
 refine o' (gy [] [0] (wu.ok U) fun l m=>?_)
 refine ad ar (h:=ad cw (h:=ad cw (h:=o' (cC (h:=fun Z=>o' (bj Z 0 2 [ae j.1.f0,ae j.1.f1,.slice l j.1.f2.length m] (h:=ad aW (h:=eA (ad ar (h:=ad (dt rfl rfl) (h:=bA ?_)))))))))))
 rcases bD H with⟨L,H⟩|⟨L,H⟩
 ·refine aC rfl L (aP (bT (.agg (am cB none 0 none 0 none 0 none 0).toArray) dS (h:=ad ar (h:=o' (bj O 0 1 (am cB none 0 none 0 none 0 none 0) (h:=ad aW (h:=cA ?_)))))))
  have h:=aN H;subst h
  exact lX [.cell 4 34,.tmp 5] ((Gh.nilBuf bI 55).trans ((Gh.nilBuf (Kd.int .i64) 3).trans ((Gh.nilBuf bI 55).trans ((Gh.nilBuf (Kd.int .i32) 21).trans (fk [3,4,5,6]))))) ⟨none,0,none,0,none,0,none,0,rfl,rfl⟩ ⟨cW 1,cX,trivial⟩
 refine aB rfl L (ao (aa (ap ?_)))
 obtain⟨o,H,J⟩:=ac H
 refine bK (fun e ds As=>∃ (K : Nat),∃ (q : Option Addr) (z : Nat),∃ (s : Option Addr) (D : Nat),∃ (u : Option Addr) (E : Nat),∃ (y : Option Addr) (F : Nat),St [(4,aI O),(8,aI K)] (aL K 34 (am o q z s D u E y F)::(bn o q z s D u E y F++[aL O 34 (am cB none 0 none 0 none 0 none 0)])) e ds As) ?_ ?_
 ·refine fg [0,2,3,4,6] [2] [0,1] fun _ _ _ _ _ sH dd pk=>?_
  refine bN 0 rfl sH (cx Z 0 0 [ae j.1.f0,ae j.1.f1,.slice l j.1.f2.length m]) (h:=bf 2 rfl sH ar (h:=bf 3 rfl sH (cV rfl rfl) (h:=T' 4 rfl sH ar ?_)))
  obtain⟨p,R,H⟩:=ac H
  obtain⟨d,I,H⟩:=ac H
  refine iF (rs:=[1,7]) dd (by kernel_rfl) (by decide) (bG ⟨_,rfl,(.no rfl),?_⟩ (bG ⟨_,rfl,(.no rfl),?_⟩ dl))
  ·refine id (da [] [0,1] (sx.ok R) ?_)
   refine iF (rs:=[5,7]) dd (by kernel_rfl) (by decide) (bG ⟨_,rfl,(.no rfl),?_⟩ (bG ⟨_,rfl,(.no rfl),?_⟩ dl))
   ·refine id (gy [] [0,1] (oD.ok I) fun a b=>?_)
    refine kQ (.agg (am (aJ.mk j.1 0 0 false p 0 (i64.wrap (a1 - 1)) d true false false false false true sZ false pB ([] : (List Int))) l m a b none 0 none 0).toArray) 6 rfl sH dS (h:=dT 7 rfl dd (mn rfl pD fun c=>dT 8 rfl dd (bj c 0 3 (am (aJ.mk j.1 0 0 false p 0 (i64.wrap (a1 - 1)) d true false false false false true sZ false pB ([] : (List Int))) l m a b none 0 none 0) (h:=aV dd sH (aH (by kernel_rfl) ?_)))))
    have h:=aN H;subst h
    exact aa ⟨c,l,m,a,b,none,0,none,0,St.mk1 (cO rfl (cO rfl dY)) ((Gh.nilBuf bI 55).trans ((Gh.nilBuf (Kd.int .i32) 21).trans (fk [4,2,1,5,6,3])))⟩
   refine id (mn rfl pD fun c=>dT 5 rfl dd (gy [] [0,1,2] (oD.ok I) fun a b=>?_))
   refine kQ (.agg (am (aJ.mk j.1 0 0 false p 0 (i64.wrap (a1 - 1)) d true false false false false true sZ false pB ([] : (List Int))) l m a b none 0 none 0).toArray) 6 rfl sH dS (h:=dT 8 rfl dd (bj c 0 3 (am (aJ.mk j.1 0 0 false p 0 (i64.wrap (a1 - 1)) d true false false false false true sZ false pB ([] : (List Int))) l m a b none 0 none 0) (h:=aV dd sH (aH (by kernel_rfl) ?_))))
   have h:=aN H;subst h
   exact aa ⟨c,l,m,a,b,none,0,none,0,St.mk1 (cO rfl (cO rfl dY)) ((Gh.nilBuf bI 55).trans ((Gh.nilBuf (Kd.int .i32) 21).trans (fk [4,2,1,5,6,3])))⟩
  refine id (mn rfl pD fun c=>dT 1 rfl dd (da [] [0,1,2] (sx.ok R) ?_))
  refine dT 5 rfl dd (gy [] [0,1,2] (oD.ok I) fun a b=>?_)
  refine kQ (.agg (am (aJ.mk j.1 0 0 false p 0 (i64.wrap (a1 - 1)) d true false false false false true sZ false pB ([] : (List Int))) l m a b none 0 none 0).toArray) 6 rfl sH dS (h:=dT 8 rfl dd (bj c 0 3 (am (aJ.mk j.1 0 0 false p 0 (i64.wrap (a1 - 1)) d true false false false false true sZ false pB ([] : (List Int))) l m a b none 0 none 0) (h:=aV dd sH (aH (by kernel_rfl) ?_))))
  have h:=aN H;subst h
  exact aa ⟨c,l,m,a,b,none,0,none,0,St.mk1 (cO rfl (cO rfl dY)) ((Gh.nilBuf bI 55).trans ((Gh.nilBuf (Kd.int .i32) 21).trans (fk [4,2,1,5,6,3])))⟩
 rintro e ds As ⟨K,q,z,s,D,u,E,y,F,M⟩
 clear H
 have H:=J
 clear J
 refine aa (SA.of_St M fun junk=>aP ?_)
 obtain⟨N,S,H⟩:=ac H
 refine o' (da [] [0,1,2,3,4,5] (sx.ok S) ?_)
 refine ad aA (h:=ad aA (h:=o' (cJ 0 (bF N) (h:=(cR (bq (cm 0) (h:=o' (bj O 0 5 (am ({ o with f14:=(dH.mk o.f14.f0 o.f14.f1 o.f14.f2 o.f14.f3 N) }) q z s D u E y F) (h:=ad aW (h:=cD ?_))))))))))
 have h:=aN H;subst h
 exact dE [.cell 4 34,.tmp 5] [1,2,3,4] ⟨q,z,s,D,u,E,y,F,rfl,rfl⟩ ⟨cW 5,cX,trivial⟩


def xW.f  : Option (cN):=some ((cN.mk (-1) (-1) false false false false false false false false))
theorem xW.ok  {r : cN} (H : xW.f  = some r) : fU Tryz.prog 25 #[] [] (.agg (bF r).toArray):=by
 refine aj Tryz.func25 rfl rfl ?_
 unfold xW.f at H
 refine aP (o' (cC (h:=fun a=>cR (bT (.agg (bF (cN.mk (-1) (-1) false false false false false false false false)).toArray) dS (h:=o' (bj a 0 0 (bF (cN.mk (-1) (-1) false false false false false false false false)) (h:=cD ?_)))))))
 have h:=aN H;subst h
 exact gi (rs:=[.cell 0 28]) (vs:=[.agg (bF (cN.mk (-1) (-1) false false false false false false false false)).toArray]) [] rfl ⟨RV.cell (k:=0) rfl rfl Tryz.underlying28 rfl mf,trivial⟩ rfl (fk []) ⟨rfl,rfl⟩


def oW.f (a0 : Int) : Option (Bool):=lt ((decide (a0 ≥ 1)) && (decide (a0 ≤ 512))) fun a=>some (a)
theorem oW.ok {a0 : Int} {r : Bool} (H : oW.f a0 = some r) : fU Tryz.prog 70 #[ae a0] [] (.bool r):=by
 refine aj Tryz.func70 rfl rfl ?_
 unfold oW.f at H
 refine aP (ad aW (h:=cR (ad ar (h:=ad (dU rfl rfl) (h:=S' ar ?_)))))
 obtain⟨b,a,H⟩:=bi H
 refine dy 3 [(8,.bool b)] [] ?_ fun junk=>?_
 ·by_cases h2 : a0 ≥ 1
  ·refine aZ (ai h2) ar (h:=aZ (ai h2) (gF rfl rfl) (h:=bY (ai h2) (h:=ah ?_)))
   have x_:=fq a ((ai h2));exact bH []
  refine ct 2 (al h2) (ca (al h2) (h:=ah ?_))
  have x_:=fp a ((al h2));exact bH []
 refine ad aW (h:=cD ?_)
 have h:=aN H;subst h
 exact dJ [] ⟨rfl,rfl⟩


def pJ.f (a0 : Int) : Option (Bool):=lt ((decide (a0 ≥ (-1))) && (decide (a0 ≤ 255))) fun a=>some (a)
theorem pJ.ok {a0 : Int} {r : Bool} (H : pJ.f a0 = some r) : fU Tryz.prog 111 #[ae a0] [] (.bool r):=by
 refine aj Tryz.func111 rfl rfl ?_
 unfold pJ.f at H
 refine aP (ad aW (h:=cR (ad ar (h:=ad (dU rfl rfl) (h:=S' ar ?_)))))
 obtain⟨b,a,H⟩:=bi H
 refine dy 3 [(8,.bool b)] [] ?_ fun junk=>?_
 ·by_cases h2 : a0 ≥ (-1)
  ·refine aZ (ai h2) ar (h:=aZ (ai h2) (gF rfl rfl) (h:=bY (ai h2) (h:=ah ?_)))
   have x_:=fq a ((ai h2));exact bH []
  refine ct 2 (al h2) (ca (al h2) (h:=ah ?_))
  have x_:=fp a ((al h2));exact bH []
 refine ad aW (h:=cD ?_)
 have h:=aN H;subst h
 exact dJ [] ⟨rfl,rfl⟩


def qa.f (a0 : cN) : Option (Bool):=(pJ.f a0.f0).bind (fun b=>(if b = true then ((pJ.f a0.f1).bind (fun c=>some c)) else (some false) : Option Bool).bind (fun a=>some (a)))
theorem qa.ok {a0 : cN} {r : Bool} (H : qa.f a0 = some r) : fU Tryz.prog 56 #[.agg (bF a0).toArray] [] (.bool r):=by
 refine aj Tryz.func56 rfl rfl ?_
 unfold qa.f at H
 refine aP (o' (bO (h:=fun l=>ad aW (h:=cR (ad aA (h:=l' (aO 0) ?_))))))
 obtain⟨m,d,H⟩:=ac H
 refine o' (da [] [0] (pJ.ok d) ?_)
 refine S' ar ?_
 obtain⟨j,H,b⟩:=ac H
 refine dy 4 [(10,.bool j)] [] ?_ fun junk=>?_
 ·rcases bD H with⟨a,H⟩|⟨a,H⟩
  ·refine aZ a aA (h:=z' a (aO 0) ?_)
   obtain⟨o,c,H⟩:=ac H
   refine fR a (da [] [0] (pJ.ok c) ?_)
   refine gJ a ?_
   have h:=aN H;subst h
   exact dQ []
  refine ct 3 (aK a) (fZ (aK a) ?_)
  have h:=aN H;subst h
  exact dQ []
 replace H:=b
 refine ad aW (h:=cD ?_)
 have h:=aN H;subst h
 exact dJ [] ⟨rfl,rfl⟩


def pF.f (a0 : cN) : Option (ba):=(xW.f ).bind (fun a=>some ((ba.mk 32 (fX.mk 0 0 0) 1 ({ a with f1:=a0.f1 }))))
theorem pF.ok {a0 : cN} {r : ba} (H : pF.f a0 = some r) : fU Tryz.prog 71 #[.agg (bF a0).toArray] [] (.agg (bW r).toArray):=by
 refine aj Tryz.func71 rfl rfl ?_
 unfold pF.f at H
 refine aP (o' (bO (h:=fun j=>o' (cC (h:=fun c=>cR ?_)))))
 obtain⟨a,b,H⟩:=ac H
 refine o' (da [] [0,1] (xW.ok b) ?_)
 refine o' (cC (h:=fun d=>o' (bj d 0 2 (bF a) (h:=cR (ad aA (h:=bq (aO 0) (h:=ad aA (h:=o' (cJ 2 [ae a0.f1] (h:=(cR (bq (cm 2) (h:=s' (.agg (bW (ba.mk 32 (fX.mk 0 0 0) 1 ({ a with f1:=a0.f1 }))).toArray) dS ?_)))))))))))))
 refine o' (bj c 0 1 (bW (ba.mk 32 (fX.mk 0 0 0) 1 ({ a with f1:=a0.f1 }))) (h:=cD ?_))
 have h:=aN H;subst h
 exact gi (rs:=[.cell 2 55]) (vs:=[.agg (bW (ba.mk 32 (fX.mk 0 0 0) 1 ({ a with f1:=a0.f1 }))).toArray]) [] rfl ⟨RV.cell (k:=1) rfl rfl Tryz.underlying55 rfl ck,trivial⟩ rfl (fk []) ⟨rfl,rfl⟩


def pQ.l0 (a0 : Int) (a1 : Int) (a2 : cN) : Nat → bJ → Int → Option (bJ)
  | 0,_,_=>none
  | k + 1,a,b=>if b < (i64.wrap (a0 * a1)) then ((pF.f a2).bind (fun c=>if a.f2.length + ([c] : (List ba)).length ≤ 2932031007402 then lt (a.f2 ++ ([c] : (List ba))) fun d=>(lt (i64.wrap (b + 1)) fun h=>pQ.l0 a0 a1 a2 k (bJ.mk a.f0 a.f1 d) h) else none)) else (some a)
def pQ.f (k : Nat) (a0 : Int) (a1 : Int) (a2 : cN) : Option (bJ × Int):=(oW.f a0).bind (fun h=>(if (!h) = true then (some true) else ((oW.f a1).bind (fun j=>some (!j))) : Option Bool).bind (fun d=>(if d = true then (some true) else ((qa.f a2).bind (fun b=>some (!b))) : Option Bool).bind (fun a=>if a = true then (some (((bJ.mk 0 0 ([] : (List ba))),2))) else ((pQ.l0 a0 a1 a2 k (bJ.mk a0 a1 ([] : (List ba))) 0 : Option (bJ)).bind (fun c=>some ((c,0)))))))
theorem pQ.ok {a0 : Int} {a1 : Int} {a2 : cN} {r : bJ × Int} (H : pQ.f k a0 a1 a2 = some r) : dp Tryz.prog 24 #[ae a0,ae a1,.agg (bF a2).toArray] [] (fun v B=>∃ aQ aR,v = .tuple #[.agg #[ae r.1.f0,ae r.1.f1,.slice aQ r.1.f2.length aR],ae r.2]∧B = [Buf bI 55 aQ aR r.1.f2]):=by
 refine aj Tryz.func24 rfl rfl ?_
 unfold pQ.f at H
 refine aP (o' (bO (h:=fun D=>o' (cC (h:=fun j=>ad aW (h:=eA (S' ar ?_)))))))
 obtain⟨r5,a5,H⟩:=ac H
 refine o' (da [] [0,1] (oW.ok a5) ?_)
 refine ad (bU rfl) (h:=S' ar ?_)
 obtain⟨q6,H,a6⟩:=ac H
 refine dy 4 [(0,ae a0),(1,ae a1),(5,aI D),(6,aI j),(17,.bool q6)] [aL D 28 (bF a2),aL j 26 [ae 0,ae 0,.slice none 0 0]] ?_ fun junk=>?_
 ·rcases bD H with⟨u,H⟩|⟨u,H⟩
  ·refine ct 3 u (gJ u ?_)
   have h:=aN H;subst h
   exact dQ [0,1]
  refine Y' (aK u) ar ?_
  obtain⟨r8,C9,H⟩:=ac H
  refine fR (aK u) (da [] [0,1] (oW.ok C9) ?_)
  refine aZ (aK u) (bU rfl) (h:=fZ (aK u) ?_)
  have h:=aN H;subst h
  exact dQ [0,1]
 replace H:=a6
 refine S' ar ?_
 obtain⟨a8,H,F⟩:=ac H
 refine cI 4 (St [(0,ae a0),(1,ae a1),(5,aI D),(6,aI j),(22,.bool a8)] [aL D 28 (bF a2),aL j 26 [ae 0,ae 0,.slice none 0 0]]) ?_ ?_
 ·rcases bD H with⟨d,H⟩|⟨d,H⟩
  ·refine ct 3 d (gJ d ?_)
   have h:=aN H;subst h
   exact dQ [0,1]
  refine z' (aK d) (cm 0) ?_
  obtain⟨b2,a7,H⟩:=ac H
  refine fR (aK d) (da [] [0,1] (qa.ok a7) ?_)
  refine aZ (aK d) (bU rfl) (h:=fZ (aK d) ?_)
  have h:=aN H;subst h
  exact dQ [0,1]
 rintro e ds As Y
 clear H
 have H:=F
 clear F
 refine bA (SA.of_St Y fun junk=>?_)
 rcases bD H with⟨K,H⟩|⟨K,H⟩
 ·refine aD rfl K (aP (bT (.agg #[ae 0,ae 0,.slice none 0 0]) dS (h:=o' (bj j 0 1 [ae 0,ae 0,.slice none 0 0] (h:=ad aW (h:=cA ?_))))))
  have h:=aN H;subst h
  exact lX [.cell 6 26,.tmp 7] ((Gh.nilBuf bI 55).trans (fk [2])) ⟨none,0,rfl,rfl⟩ ⟨cW 1,cX,trivial⟩
 refine aE rfl K (ao (aa (aP (ad ar (h:=ad ar (h:=bT (.agg #[ae a0,ae a1,.slice none 0 0]) dS (h:=o' (cC (h:=fun a3=>o' (bj a3 0 2 [ae a0,ae a1,.slice none 0 0] (h:=eA (ad aW (h:=bA ?_)))))))))))))
 obtain⟨b,H,I⟩:=ac H
 refine bK (fun e ds As=>∃ (z : Nat),∃ (l : Option Addr) (m : Nat),St [(6,aI j),(8,aI z)] [aL z 26 [ae b.f0,ae b.f1,.slice l b.f2.length m],Buf bI 55 l m b.f2,aL j 26 [ae 0,ae 0,.slice none 0 0]] e ds As) ?_ ?_
 ·refine aT (cl (fun k_ e ds As=>∃ (a : bJ) (o : Int),∃ (q : Nat),∃ (p : Option Addr) (s : Nat),pQ.l0 a0 a1 a2 k_ a o = some b∧St [(0,ae a0),(1,ae a1),(5,aI D),(6,aI j),(8,aI q),(9,ae o)] [aL D 28 (bF a2),aL j 26 [ae 0,ae 0,.slice none 0 0],aL q 26 [ae a.f0,ae a.f1,.slice p a.f2.length s],Buf bI 55 p s a.f2] e ds As) (k:=k) ⟨_,_,a3,none,0,H,St.mk1 (cO rfl (cO rfl (cO rfl (cO rfl (cO rfl (cO rfl dY)))))) ((Gh.nilBuf bI 55).trans (fk [0,1,2,3]))⟩ ?_)
  clear H
  rintro N e ds As ⟨a,o,q,p,s,H,Z⟩
  obtain _ | N:=N
  ·cases H
  rw [pQ.l0] at H
  refine SA.of_St Z fun junk=>ap (aP (ad ar (h:=ad ar (h:=ad ar (h:=ad (jt rfl rfl) (h:=ad (cg rfl rfl) (h:=bA ?_)))))))
  rcases bD H with⟨L,H⟩|⟨L,H⟩
  ·refine aC rfl L (ao (aa (ap (aT ?_))))
   refine fg [0,1,2,6] [0,2] [1,3] fun _ _ _ _ _ sH dd pk=>?_
   refine bf 0 rfl sH aA (h:=bN 1 rfl sH (aO 1) (h:=r' 2 rfl sH (cm 0) ?_))
   obtain⟨y,a4,H⟩:=ac H
   refine dT 3 rfl dd (da [] [0,1] (pF.ok a4) ?_)
   refine dT 4 rfl dd (gD (kd:=bI) (zv:=(.agg (bW lu).toArray)) (sz:=15) (cells:=(bW y)) (xs:=([y] : (List ba))) rfl Tryz.underlying24 jF ck rfl rfl rfl (by kernel_rfl) rfl rfl (dR cZ (fun _ _=>rfl) (by kernel_rfl)) fun a9=>?_)
   obtain⟨b0,H⟩:=aS H
   obtain⟨O,S,H⟩:=bi H
   refine dT 5 rfl dd (gm (k:=1) (A:=p) (c:=s) (xs:=a.f2) (ys:=([y] : (List ba))) O S rfl Tryz.underlying24 mD rfl rfl rfl rfl rfl (nk.slice Tryz.underlying24 (Src.buf (k:=2) rfl)) (by omega) (by omega) fun E J=>bf 6 rfl sH aA (h:=aV dd sH (eG 7 rfl (cJ 1 [.slice E O.length J] (h:=(aH (by kernel_rfl) (aG (aa (ak (ad ar (h:=S' (bX rfl rfl) ?_)))))))))))
   obtain⟨R,U,H⟩:=bi H
   refine bT (ae R) (bu (v:=ae R) (congrArg (Value.int .i64) U.symm)) (h:=ah ?_)
   exact aa ⟨N,Nat.lt_succ_self _,_,_,q,E,J,H,eb [0,2,1,3]⟩
  refine aB rfl L (ci (aX (aX (cj ?_))))
  have h:=aN H;subst h
  exact aa ⟨q,p,s,eb [2,3,1]⟩
 rintro e ds As ⟨z,l,m,M⟩
 clear H
 have H:=I
 clear I
 refine aa (SA.of_St M fun junk=>aP (bq (cx z 0 0 [ae b.f0,ae b.f1,.slice l b.f2.length m]) (h:=o' (bj j 0 2 [ae b.f0,ae b.f1,.slice l b.f2.length m] (h:=ad aW (h:=cD ?_))))))
 have h:=aN H;subst h
 exact dE [.cell 6 26,.tmp 7] [1] ⟨l,m,rfl,rfl⟩ ⟨cW 2,cX,trivial⟩


def qE.l0 (a0 : Int) : Nat → (List Int) → Int → Option ((List Int))
  | 0,_,_=>none
  | k + 1,b,a=>if a < a0 then (if b.length + ([a] : (List Int)).length ≤ 17592186044416 then lt (b ++ ([a] : (List Int))) fun n18=>(lt (i64.wrap (a + 8)) fun n19=>qE.l0 a0 k n18 n19) else none) else (some b)
def qE.f (k : Nat) (a0 : Int) : Option ((List Int)):=(qE.l0 a0 k ([]) 8 : Option ((List Int))).bind (fun a=>some (a))
theorem qE.ok {a0 : Int} {r : (List Int)} (H : qE.f k a0 = some r) : dp Tryz.prog 26 #[ae a0] [] (fun v B=>∃ aQ aR,v = .slice aQ r.length aR∧B = [gL 3 aQ aR r]):=by
 refine aj Tryz.func26 rfl rfl ?_
 unfold qE.f at H
 refine aP (ad aW (h:=cR (ad aW (h:=eA (ad aW (h:=bA ?_))))))
 obtain⟨z,H,q⟩:=ac H
 refine bK (fun e ds As=>∃ (m : Option Addr) (c3 : Nat),St [(3,.slice m z.length c3)] [gL 3 m c3 z] e ds As) ?_ ?_
 ·refine aT (cl (fun k_ e ds As=>∃ (b : (List Int)) (a : Int),∃ (d : Option Addr) (j : Nat),qE.l0 a0 k_ b a = some z∧St [(0,ae a0),(3,.slice d b.length j),(4,ae a)] [gL 3 d j b] e ds As) (k:=k) ⟨_,_,none,0,H,St.mk1 (cO rfl (cO rfl (cO rfl dY))) ((Gh.nilBuf (Kd.int .i64) 3).trans (fk [0]))⟩ ?_)
  clear H
  rintro y e ds As ⟨b,a,d,j,H,o⟩
  obtain _ | y:=y
  ·cases H
  rw [qE.l0] at H
  refine SA.of_St o fun junk=>ap (aP (ad ar (h:=ad ar (h:=ad (cg rfl rfl) (h:=bA ?_)))))
  rcases bD H with⟨l,H⟩|⟨l,H⟩
  ·refine aC rfl l (ao (aa (ap (aT (ak (ad ar (h:=ad ar (h:=o' (gD (kd:=(Kd.int .i64)) (zv:=(ae 0)) (sz:=1) (cells:=[ae a]) (xs:=([a] : (List Int))) rfl Tryz.underlying29 nu jm rfl rfl rfl (by kernel_rfl) rfl rfl (dR (fun x_ : Int=>[Value.int .i64 x_]) (fun _ _=>rfl) (by kernel_rfl)) fun F=>?_)))))))))
   obtain⟨I,H⟩:=aS H
   obtain⟨n18,s,H⟩:=bi H
   refine o' (gm (k:=0) (A:=d) (c:=j) (xs:=b) (ys:=([a] : (List Int))) n18 s rfl Tryz.underlying29 pg rfl rfl rfl rfl rfl (nk.slice Tryz.underlying29 (Src.buf (k:=1) rfl)) (by omega) (by omega) fun D E=>ad aW (h:=ah (aG (aa (ak (ad ar (h:=S' (bX rfl rfl) ?_)))))))
   obtain⟨n19,u,H⟩:=bi H
   refine bT (ae n19) (bu (v:=ae n19) (congrArg (Value.int .i64) u.symm)) (h:=ah ?_)
   exact aa ⟨y,Nat.lt_succ_self _,_,_,D,E,H,eb [0]⟩
  refine aB rfl l (ci (aX (aX (cj ?_))))
  have h:=aN H;subst h
  exact aa ⟨d,j,eb [0]⟩
 rintro e ds As ⟨m,c3,p⟩
 clear H
 have H:=q
 clear q
 refine aa (SA.of_St p fun junk=>aP (ad ar (h:=ad aW (h:=cD ?_))))
 have h:=aN H;subst h
 exact dJ [0] ⟨m,c3,rfl,rfl⟩


def en.l0 (a0 : bJ) (a1 : bJ) : Nat → Int → Option (Out (Bool) (Unit))
  | 0,_=>none
  | k + 1,a=>if a < (a0.f2.length : Int) then (if 0 ≤ a∧a < (a0.f2.length : Int) then (if 0 ≤ a∧a < (a1.f2.length : Int) then (if (rd a0.f2 a) ≠ (rd a1.f2 a) then (some (Out.ret (false))) else (lt (i64.wrap (a + 1)) fun b=>en.l0 a0 a1 k b)) else none) else none) else (some (Out.go ()))
def en.f (k : Nat) (a0 : bJ) (a1 : bJ) : Option (Bool):=lt ((decide (a0.f0 ≠ a1.f0)) || (decide (a0.f1 ≠ a1.f1))) fun c=>lt (c || (decide ((a0.f2.length : Int) ≠ (a1.f2.length : Int)))) fun a=>if a = true then (some (false)) else ((en.l0 a0 a1 k 0 : Option (Out (Bool) (Unit))).bind (fun b=>Out.el b (fun r_=>some r_) (fun d=>some (true))))
theorem en.ok {a0 : bJ} {a1 : bJ} {r : Bool} (H : en.f k a0 a1 = some r) : fU Tryz.prog 18 #[.agg #[ae a0.f0,ae a0.f1,.slice af a0.f2.length ag],.agg #[ae a1.f0,ae a1.f1,.slice cE a1.f2.length cF]] [Buf bI 55 af ag a0.f2,Buf bI 55 cE cF a1.f2] (.bool r):=by
 refine aj Tryz.func18 rfl rfl ?_
 unfold en.f at H
 refine aP (o' (bO (h:=fun o=>o' (bO (h:=fun q=>ad aW (h:=eA (ad aA (h:=bq (aO 2) (h:=ad aA (h:=bq (aO 3) (h:=S' (dt rfl rfl) ?_)))))))))))
 refine S' ar ?_
 obtain⟨Y,O,H⟩:=bi H
 refine dy 6 [(2,aI o),(3,aI q),(17,.bool Y)] [Buf bI 55 cE cF a1.f2,Buf bI 55 af ag a0.f2,aL o 26 [ae a0.f0,ae a0.f1,.slice af a0.f2.length ag],aL q 26 [ae a1.f0,ae a1.f1,.slice cE a1.f2.length cF]] ?_ fun junk=>?_
 ·by_cases d : a0.f0 ≠ a1.f0
  ·refine ct 5 (ai d) (bY (ai d) (h:=ah ?_))
   have x_:=ik O ((ai d));exact bH [1,0,2,3]
  refine aZ (al d) aA (h:=cn (al d) (aO 2) (h:=aZ (al d) aA (h:=cn (al d) (aO 3) (h:=aZ (al d) (dt rfl rfl) (h:=ca (al d) (h:=ah ?_))))))
  have x_:=ij O ((al d));exact bH [1,0,2,3]
 refine S' ar ?_
 obtain⟨U,F,H⟩:=bi H
 refine cI 8 (St [(2,aI o),(3,aI q),(26,.bool U)] [Buf bI 55 cE cF a1.f2,Buf bI 55 af ag a0.f2,aL o 26 [ae a0.f0,ae a0.f1,.slice af a0.f2.length ag],aL q 26 [ae a1.f0,ae a1.f1,.slice cE a1.f2.length cF]]) ?_ ?_
 ·by_cases b : Y = true
  ·refine ct 7 b (bY b (h:=ah ?_))
   have x_:=ik F b;exact bH [0,1,2,3]
  refine aZ (aK b) aA (h:=cn (aK b) (aO 2) (h:=gS (aK b) (ae (a0.f2.length : Int)) (cP Tryz.underlying24 rfl) (h:=aZ (aK b) aA (h:=cn (aK b) (aO 3) (h:=gS (aK b) (ae (a1.f2.length : Int)) (cP Tryz.underlying24 rfl) (h:=aZ (aK b) (dt rfl rfl) (h:=ca (aK b) (h:=ah ?_))))))))
  have x_:=ij F ((aK b));exact bH [0,1,2,3]
 rintro e ds As M
 refine bA (SA.of_St M fun junk=>?_)
 rcases bD H with⟨D,H⟩|⟨D,H⟩
 ·refine aD rfl D (aP (ad aW (h:=cA ?_)))
  have h:=aN H;subst h
  exact dJ [1,0] ⟨rfl,rfl⟩
 refine aE rfl D (ao (aa (ap (aP (ad aW (h:=bA ?_))))))
 obtain⟨S,H,c⟩:=ac H
 refine bK (fun e ds As=>∃ (R : Unit),S = Out.go R∧St [] [Buf bI 55 cE cF a1.f2,Buf bI 55 af ag a0.f2] e ds As) ?_ ?_
 ·refine aT (cl (fun k_ e ds As=>∃ (a : Int),en.l0 a0 a1 k_ a = some S∧St [(2,aI o),(3,aI q),(5,ae a)] [Buf bI 55 cE cF a1.f2,Buf bI 55 af ag a0.f2,aL o 26 [ae a0.f0,ae a0.f1,.slice af a0.f2.length ag],aL q 26 [ae a1.f0,ae a1.f1,.slice cE a1.f2.length cF]] e ds As) (k:=k) ⟨_,H,jQ [0,1,2,3]⟩ ?_)
  clear H
  rintro J e ds As ⟨a,H,N⟩
  obtain _ | J:=J
  ·cases H
  rw [en.l0] at H
  refine SA.of_St N fun junk=>ap (aP (ad ar (h:=ad aA (h:=bq (aO 2) (h:=bT (ae (a0.f2.length : Int)) (cP Tryz.underlying24 rfl) (h:=ad (cg rfl rfl) (h:=bA ?_)))))))
  rcases bD H with⟨E,H⟩|⟨E,H⟩
  ·refine aC rfl E (ao (aa (ap (aT (ap ?_)))))
   refine fg (dC 0 11) (dC 0 4) [] fun _ _ _ _ _ sH dd pk=>?_
   refine bf 0 rfl sH aA (h:=bN 1 rfl sH (aO 2) (h:=T' 2 rfl sH ar ?_))
   obtain⟨⟨s,u⟩,H⟩:=aS H
   refine bN 3 rfl sH (br (i:=a) Tryz.underlying24 ck rfl rfl (Src.buf (k:=1) rfl) s u) (h:=bN 4 rfl sH (cf (enc:=cZ) (i:=a) (j:=a.toNat * 15) (m:=0) (sz:=15) (vs:=(bW (ba.mk ((rd a0.f2 a).f0) ((rd a0.f2 a).f1) ((rd a0.f2 a).f2) ((rd a0.f2 a).f3)))) Tryz.underlying55 rfl ck rfl rfl rfl (Src.buf (k:=1) rfl) s u (fun _ _ h=>h) rfl) (h:=bf 5 rfl sH aA (h:=bN 6 rfl sH (aO 3) (h:=T' 7 rfl sH ar ?_))))
   obtain⟨⟨z,B⟩,H⟩:=aS H
   refine bN 8 rfl sH (br (i:=a) Tryz.underlying24 ck rfl rfl (Src.buf (k:=0) rfl) z B) (h:=bN 9 rfl sH (cf (enc:=cZ) (i:=a) (j:=a.toNat * 15) (m:=0) (sz:=15) (vs:=(bW (ba.mk ((rd a1.f2 a).f0) ((rd a1.f2 a).f1) ((rd a1.f2 a).f2) ((rd a1.f2 a).f3)))) Tryz.underlying55 rfl ck rfl rfl rfl (Src.buf (k:=0) rfl) z B (fun _ _ h=>h) rfl) (h:=kQ (.bool (decide ((rd a0.f2 a) ≠ (rd a1.f2 a)))) 10 rfl sH (jU (xs:=(bW (ba.mk ((rd a0.f2 a).f0) ((rd a0.f2 a).f1) ((rd a0.f2 a).f2) ((rd a0.f2 a).f3)))) (ys:=(bW (ba.mk ((rd a1.f2 a).f0) ((rd a1.f2 a).f1) ((rd a1.f2 a).f2) ((rd a1.f2 a).f3)))) (r:=((((rd a0.f2 a).f0) == ((rd a1.f2 a).f0)) && ((((((rd a0.f2 a).f1).f0) == (((rd a1.f2 a).f1).f0)) && (((((rd a0.f2 a).f1).f1) == (((rd a1.f2 a).f1).f1)) && (((((rd a0.f2 a).f1).f2) == (((rd a1.f2 a).f1).f2)) && true))) && ((((rd a0.f2 a).f2) == ((rd a1.f2 a).f2)) && ((((((rd a0.f2 a).f3).f0) == (((rd a1.f2 a).f3).f0)) && (((((rd a0.f2 a).f3).f1) == (((rd a1.f2 a).f3).f1)) && (((((rd a0.f2 a).f3).f2) == (((rd a1.f2 a).f3).f2)) && (((((rd a0.f2 a).f3).f3) == (((rd a1.f2 a).f3).f3)) && (((((rd a0.f2 a).f3).f4) == (((rd a1.f2 a).f3).f4)) && (((((rd a0.f2 a).f3).f5) == (((rd a1.f2 a).f3).f5)) && (((((rd a0.f2 a).f3).f6) == (((rd a1.f2 a).f3).f6)) && (((((rd a0.f2 a).f3).f7) == (((rd a1.f2 a).f3).f7)) && (((((rd a0.f2 a).f3).f8) == (((rd a1.f2 a).f3).f8)) && (((((rd a0.f2 a).f3).f9) == (((rd a1.f2 a).f3).f9)) && true)))))))))) && true))))) (p:=(rd a0.f2 a) = (rd a1.f2 a)) tC rfl rfl (by kernel_rfl) (tE (x:=rd a0.f2 a) (y:=rd a1.f2 a))) (h:=aV dd sH (aH (by kernel_rfl) (aa ?_)))))
   rcases bD H with⟨l,H⟩|⟨l,H⟩
   ·refine aC rfl l (aP (ad aW (h:=cD (aY (aF (aF (aY (aF (aF ?_)))))))))
    have h:=aN H;subst h
    have hb_:=dz c
    have hr_:=Option.some.inj hb_
    clear hb_
    subst hr_
    exact dJ [1,0] ⟨rfl,rfl⟩
   refine aB rfl l (ao (aG (aa (ak (ad ar (h:=S' (bX rfl rfl) ?_))))))
   obtain⟨K,L,H⟩:=bi H
   refine bT (ae K) (bu (v:=ae K) (congrArg (Value.int .i64) L.symm)) (h:=ah ?_)
   exact aa ⟨J,Nat.lt_succ_self _,_,H,eb [0,1,2,3]⟩
  refine aB rfl E (ci (aX (aX (cj ?_))))
  have h:=aN H;subst h
  exact aa ⟨(),rfl,eb [0,1]⟩
 rintro e ds As ⟨R,ht,I⟩
 clear H
 subst ht
 replace c:=fi c
 have H:=c
 clear c
 refine aa (SA.of_St I fun junk=>aP (ad aW (h:=cD ?_)))
 have h:=aN H;subst h
 exact dJ [1,0] ⟨rfl,rfl⟩


def de.l1 (a0 : aJ) (a1 : aJ) : Nat → Int → Option (Out (Bool) (Unit))
  | 0,_=>none
  | k + 1,a=>if a < (a0.f17.length : Int) then (if 0 ≤ a∧a < (a0.f17.length : Int) then (if 0 ≤ a∧a < (a1.f17.length : Int) then (if (rd a0.f17 a) ≠ (rd a1.f17 a) then (some (Out.ret (false))) else (lt (i64.wrap (a + 1)) fun b=>de.l1 a0 a1 k b)) else none) else none) else (some (Out.go ()))
def de.l0 (a0 : aJ) (a1 : aJ) : Nat → Int → Option (Out (Bool) (Unit))
  | 0,_=>none
  | k + 1,a=>if a < (a0.f7.length : Int) then (if 0 ≤ a∧a < (a0.f7.length : Int) then (if 0 ≤ a∧a < (a1.f7.length : Int) then (if (rd a0.f7 a) ≠ (rd a1.f7 a) then (some (Out.ret (false))) else (lt (i64.wrap (a + 1)) fun b=>de.l0 a0 a1 k b)) else none) else none) else (some (Out.go ()))
def de.f (k : Nat) (a0 : aJ) (a1 : aJ) : Option (Bool):=(en.f k a0.f0 a1.f0).bind (fun gf=>(if (!gf) = true then (some true) else ((en.f k a0.f16 a1.f16).bind (fun D=>some (!D))) : Option Bool).bind (fun y=>lt (y || (decide ((a0.f7.length : Int) ≠ (a1.f7.length : Int)))) fun z=>lt (z || (decide ((a0.f17.length : Int) ≠ (a1.f17.length : Int)))) fun B=>if B = true then (some (false)) else ((de.l0 a0 a1 k 0 : Option (Out (Bool) (Unit))).bind (fun E=>Out.el E (fun r_=>some r_) (fun I=>(de.l1 a0 a1 k 0 : Option (Out (Bool) (Unit))).bind (fun u=>Out.el u (fun r_=>some r_) (fun F=>lt ((decide (a0.f1 = a1.f1)) && (decide (a0.f2 = a1.f2))) fun a=>lt (a && (decide (a0.f3 = a1.f3))) fun b=>lt (b && (decide (a0.f4 = a1.f4))) fun c=>lt (c && (decide (a0.f5 = a1.f5))) fun d=>lt (d && (decide (a0.f6 = a1.f6))) fun h=>lt (h && (decide (a0.f8 = a1.f8))) fun j=>lt (j && (decide (a0.f9 = a1.f9))) fun l=>lt (l && (decide (a0.f10 = a1.f10))) fun m=>lt (m && (decide (a0.f11 = a1.f11))) fun o=>lt (o && (decide (a0.f12 = a1.f12))) fun p=>lt (p && (decide (a0.f13 = a1.f13))) fun q=>lt (q && (decide (a0.f14 = a1.f14))) fun r=>lt (r && (decide (a0.f15 = a1.f15))) fun s=>some (s))))))))
theorem de.ok {a0 : aJ} {a1 : aJ} {r : Bool} (H : de.f k a0 a1 = some r) : fU Tryz.prog 10 #[.agg (am a0 af ag ay az au av aw ax).toArray,.agg (am a1 cE cF df di db dc dh dj).toArray] (bn a0 af ag ay az au av aw ax++bn a1 cE cF df di db dc dh dj) (.bool r):=by
 refine aj Tryz.func10 rfl rfl ?_
 unfold de.f at H
 refine aP (o' (bO (h:=fun b=>o' (bO (h:=fun a=>ad aW (h:=bA (ap (ap (bQ 0 fun h7=>bQ 1 fun h8=>bQ 2 fun h9=>bQ 3 fun i0=>bQ 4 fun i1=>?_)))))))))
 refine bQ 5 fun i2=>bQ 6 fun i3=>bQ 7 fun i4=>ak (ad aA (h:=bq (cx b 0 8 [ae a0.f0.f0,ae a0.f0.f1,.slice af a0.f0.f2.length ag]) (h:=ad aA (h:=l' (cx a 0 9 [ae a1.f0.f0,ae a1.f0.f1,.slice cE a1.f0.f2.length cF]) ?_))))
 obtain⟨gf,g4,H⟩:=ac H
 refine o' (da [0,4] [1,2,3,5,6,7,8,9] (en.ok g4) ?_)
 refine ad (bU rfl) (h:=S' ar ?_)
 obtain⟨g9,H,h4⟩:=ac H
 refine dy 7 [(2,aI b),(3,aI a),(20,.bool g9)] (bn a1 cE cF df di db dc dh dj++(bn a0 af ag ay az au av aw ax++[aL b 34 (am a0 af ag ay az au av aw ax),aL a 34 (am a1 cE cF df di db dc dh dj)])) ?_ fun junk=>?_
 ·rcases bD H with⟨N,H⟩|⟨N,H⟩
  ·refine ct 6 N (gJ N ?_)
   have h:=aN H;subst h
   exact dQ [1,5,6,7,0,2,3,4,8,9]
  refine aZ (aK N) aA (h:=cn (aK N) (cx b 40 8 [ae a0.f16.f0,ae a0.f16.f1,.slice au a0.f16.f2.length av]) (h:=aZ (aK N) aA (h:=z' (aK N) (cx a 40 9 [ae a1.f16.f0,ae a1.f16.f1,.slice db a1.f16.f2.length dc]) ?_)))
  obtain⟨i5,h5,H⟩:=ac H
  refine fR (aK N) (da [3,6] [0,1,2,4,5,7,8,9] (en.ok h5) ?_)
  refine aZ (aK N) (bU rfl) (h:=fZ (aK N) ?_)
  have h:=aN H;subst h
  exact dQ [3,6,1,7,2,4,0,5,8,9]
 replace H:=h4
 refine S' ar ?_
 obtain⟨h0,e6,H⟩:=bi H
 refine dy 8 [(2,aI b),(3,aI a),(29,.bool h0)] (bn a1 cE cF df di db dc dh dj++(bn a0 af ag ay az au av aw ax++[aL b 34 (am a0 af ag ay az au av aw ax),aL a 34 (am a1 cE cF df di db dc dh dj)])) ?_ fun junk=>?_
 ·by_cases L : g9 = true
  ·refine ct 7 L (bY L (h:=ah ?_))
   have x_:=ik e6 L;exact bH [0,1,2,3,4,5,6,7,8,9]
  refine aZ (aK L) aA (h:=cn (aK L) (aO 8) (h:=gS (aK L) (ae (a0.f7.length : Int)) (cP Tryz.underlying29 rfl) (h:=aZ (aK L) aA (h:=cn (aK L) (aO 9) (h:=gS (aK L) (ae (a1.f7.length : Int)) (cP Tryz.underlying29 rfl) (h:=aZ (aK L) (dt rfl rfl) (h:=ca (aK L) (h:=ah ?_))))))))
  have x_:=ij e6 ((aK L));exact bH [0,1,2,3,4,5,6,7,8,9]
 refine S' ar ?_
 obtain⟨h6,e7,H⟩:=bi H
 refine cI 8 (St [(2,aI b),(3,aI a),(38,.bool h6)] (bn a1 cE cF df di db dc dh dj++(bn a0 af ag ay az au av aw ax++[aL b 34 (am a0 af ag ay az au av aw ax),aL a 34 (am a1 cE cF df di db dc dh dj)]))) ?_ ?_
 ·by_cases M : h0 = true
  ·refine ct 7 M (bY M (h:=ah ?_))
   have x_:=ik e7 M;exact bH [0,1,2,3,4,5,6,7,8,9]
  refine aZ (aK M) aA (h:=cn (aK M) (aO 8) (h:=gS (aK M) (ae (a0.f17.length : Int)) (cP Tryz.underlying32 rfl) (h:=aZ (aK M) aA (h:=cn (aK M) (aO 9) (h:=gS (aK M) (ae (a1.f17.length : Int)) (cP Tryz.underlying32 rfl) (h:=aZ (aK M) (dt rfl rfl) (h:=ca (aK M) (h:=ah ?_))))))))
  have x_:=ij e7 ((aK M));exact bH [0,1,2,3,4,5,6,7,8,9]
 rintro e ds As g6
 refine bA (SA.of_St g6 fun junk=>?_)
 rcases bD H with⟨e3,H⟩|⟨e3,H⟩
 ·refine aD rfl e3 (aP (ad aW (h:=cA ?_)))
  have h:=aN H;subst h
  exact dJ [4,5,6,7,0,1,2,3] ⟨rfl,rfl⟩
 refine aE rfl e3 (ao (aa (ap (aP (ad aW (h:=bA ?_))))))
 obtain⟨h3,H,R⟩:=ac H
 refine bK (fun e ds As=>∃ (h1 : Unit),h3 = Out.go h1∧St [(2,aI b),(3,aI a)] (bn a1 cE cF df di db dc dh dj++(bn a0 af ag ay az au av aw ax++[aL b 34 (am a0 af ag ay az au av aw ax),aL a 34 (am a1 cE cF df di db dc dh dj)])) e ds As) ?_ ?_
 ·refine aT (cl (fun k_ e ds As=>∃ (K : Int),de.l0 a0 a1 k_ K = some h3∧St [(2,aI b),(3,aI a),(5,ae K)] (bn a1 cE cF df di db dc dh dj++(bn a0 af ag ay az au av aw ax++[aL b 34 (am a0 af ag ay az au av aw ax),aL a 34 (am a1 cE cF df di db dc dh dj)])) e ds As) (k:=k) ⟨_,H,jQ [0,1,2,3,4,5,6,7,8,9]⟩ ?_)
  clear H
  rintro g0 e ds As ⟨K,H,g7⟩
  obtain _ | g0:=g0
  ·cases H
  rw [de.l0] at H
  refine SA.of_St g7 fun junk=>ap (aP (ad ar (h:=ad aA (h:=bq (aO 8) (h:=bT (ae (a0.f7.length : Int)) (cP Tryz.underlying29 rfl) (h:=ad (cg rfl rfl) (h:=bA ?_)))))))
  rcases bD H with⟨e4,H⟩|⟨e4,H⟩
  ·refine aC rfl e4 (ao (aa (ap (aT (ap ?_)))))
   refine fg (dC 0 11) [1,5,8,9] [0,2,3,4,6,7] fun _ _ _ _ _ sH dd pk=>?_
   refine bf 0 rfl sH aA (h:=bN 1 rfl sH (aO 2) (h:=T' 2 rfl sH ar ?_))
   obtain⟨⟨d7,d8⟩,H⟩:=aS H
   refine bN 3 rfl sH (br (i:=K) Tryz.underlying29 jm rfl rfl (Src.buf (k:=1) rfl) d7 d8) (h:=bN 4 rfl sH (bE (enc:=(fun x_ : Int=>[Value.int .i64 x_])) (i:=K) (j:=K.toNat * 1) (m:=0) (sz:=1) Tryz.underlying3 rfl rfl rfl rfl (Src.buf (k:=1) rfl) d7 d8 (fun _ _ h=>h) rfl) (h:=bf 5 rfl sH aA (h:=bN 6 rfl sH (aO 3) (h:=T' 7 rfl sH ar ?_))))
   obtain⟨⟨d9,e0⟩,H⟩:=aS H
   refine bN 8 rfl sH (br (i:=K) Tryz.underlying29 jm rfl rfl (Src.buf (k:=0) rfl) d9 e0) (h:=bN 9 rfl sH (bE (enc:=(fun x_ : Int=>[Value.int .i64 x_])) (i:=K) (j:=K.toNat * 1) (m:=0) (sz:=1) Tryz.underlying3 rfl rfl rfl rfl (Src.buf (k:=0) rfl) d9 e0 (fun _ _ h=>h) rfl) (h:=bf 10 rfl sH (dt rfl rfl) (h:=aV dd sH (aH (by kernel_rfl) (aa ?_)))))
   rcases bD H with⟨b2,H⟩|⟨b2,H⟩
   ·refine aC rfl b2 (aP (ad aW (h:=cD (aY (aF (aF (aY (aF (aF ?_)))))))))
    have h:=aN H;subst h
    have hb_:=dz R
    have hr_:=Option.some.inj hb_
    clear hb_
    subst hr_
    exact dJ [7,1,8,9,4,0,5,6] ⟨rfl,rfl⟩
   refine aB rfl b2 (ao (aG (aa (ak (ad ar (h:=S' (bX rfl rfl) ?_))))))
   obtain⟨g1,g5,H⟩:=bi H
   refine bT (ae g1) (bu (v:=ae g1) (congrArg (Value.int .i64) g5.symm)) (h:=ah ?_)
   exact aa ⟨g0,Nat.lt_succ_self _,_,H,eb [4,0,5,6,7,1,8,9,2,3]⟩
  refine aB rfl e4 (ci (aX (aX (cj ?_))))
  have h:=aN H;subst h
  exact aa ⟨(),rfl,eb [0,1,2,3,4,5,6,7,8,9]⟩
 rintro e ds As ⟨h1,ht,e8⟩
 clear H
 subst ht
 replace R:=fi R
 have H:=R
 clear R
 refine aa (SA.of_St e8 fun junk=>ap (aP (ad aW (h:=bA ?_))))
 obtain⟨g3,H,O⟩:=ac H
 refine bK (fun e ds As=>∃ (g2 : Unit),g3 = Out.go g2∧St [(2,aI b),(3,aI a)] (bn a1 cE cF df di db dc dh dj++(bn a0 af ag ay az au av aw ax++[aL b 34 (am a0 af ag ay az au av aw ax),aL a 34 (am a1 cE cF df di db dc dh dj)])) e ds As) ?_ ?_
 ·refine aT (cl (fun k_ e ds As=>∃ (c : Int),de.l1 a0 a1 k_ c = some g3∧St [(2,aI b),(3,aI a),(6,ae c)] (bn a1 cE cF df di db dc dh dj++(bn a0 af ag ay az au av aw ax++[aL b 34 (am a0 af ag ay az au av aw ax),aL a 34 (am a1 cE cF df di db dc dh dj)])) e ds As) (k:=k) ⟨_,H,jQ [0,1,2,3,4,5,6,7,8,9]⟩ ?_)
  clear H
  rintro b4 e ds As ⟨c,H,e9⟩
  obtain _ | b4:=b4
  ·cases H
  rw [de.l1] at H
  refine SA.of_St e9 fun junk=>ap (aP (ad ar (h:=ad aA (h:=bq (aO 8) (h:=bT (ae (a0.f17.length : Int)) (cP Tryz.underlying32 rfl) (h:=ad (cg rfl rfl) (h:=bA ?_)))))))
  rcases bD H with⟨b3,H⟩|⟨b3,H⟩
  ·refine aC rfl b3 (ao (aa (ap (aT (ap ?_)))))
   refine fg (dC 0 11) [3,7,8,9] [0,1,2,4,5,6] fun _ _ _ _ _ sH dd pk=>?_
   refine bf 0 rfl sH aA (h:=bN 1 rfl sH (aO 2) (h:=T' 2 rfl sH ar ?_))
   obtain⟨⟨e1,e2⟩,H⟩:=aS H
   refine bN 3 rfl sH (br (i:=c) Tryz.underlying32 jg rfl rfl (Src.buf (k:=1) rfl) e1 e2) (h:=bN 4 rfl sH (bE (enc:=(fun x_ : Int=>[Value.int .i32 x_])) (i:=c) (j:=c.toNat * 1) (m:=0) (sz:=1) Tryz.underlying21 rfl rfl rfl rfl (Src.buf (k:=1) rfl) e1 e2 (fun _ _ h=>h) rfl) (h:=bf 5 rfl sH aA (h:=bN 6 rfl sH (aO 3) (h:=T' 7 rfl sH ar ?_))))
   obtain⟨⟨b5,b6⟩,H⟩:=aS H
   refine bN 8 rfl sH (br (i:=c) Tryz.underlying32 jg rfl rfl (Src.buf (k:=0) rfl) b5 b6) (h:=bN 9 rfl sH (bE (enc:=(fun x_ : Int=>[Value.int .i32 x_])) (i:=c) (j:=c.toNat * 1) (m:=0) (sz:=1) Tryz.underlying21 rfl rfl rfl rfl (Src.buf (k:=0) rfl) b5 b6 (fun _ _ h=>h) rfl) (h:=bf 10 rfl sH (dt rfl rfl) (h:=aV dd sH (aH (by kernel_rfl) (aa ?_)))))
   rcases bD H with⟨S,H⟩|⟨S,H⟩
   ·refine aC rfl S (aP (ad aW (h:=cD (aY (aF (aF (aY (aF (aF ?_)))))))))
    have h:=aN H;subst h
    have hb_:=dz O
    have hr_:=Option.some.inj hb_
    clear hb_
    subst hr_
    exact dJ [7,8,9,1,4,5,6,0] ⟨rfl,rfl⟩
   refine aB rfl S (ao (aG (aa (ak (ad ar (h:=S' (bX rfl rfl) ?_))))))
   obtain⟨b7,e5,H⟩:=bi H
   refine bT (ae b7) (bu (v:=ae b7) (congrArg (Value.int .i64) e5.symm)) (h:=ah ?_)
   exact aa ⟨b4,Nat.lt_succ_self _,_,H,eb [4,5,6,0,7,8,9,1,2,3]⟩
  refine aB rfl b3 (ci (aX (aX (cj ?_))))
  have h:=aN H;subst h
  exact aa ⟨(),rfl,eb [0,1,2,3,4,5,6,7,8,9]⟩
 rintro e ds As ⟨g2,ht,d6⟩
 clear H
 subst ht
 replace O:=fi O
 have H:=O
 clear O
 refine aa (SA.of_St d6 fun junk=>aP (ad aA (h:=bq (aO 8) (h:=ad aA (h:=bq (aO 9) (h:=ad (bk rfl rfl) (h:=S' ar ?_)))))))
 obtain⟨b8,U,H⟩:=bi H
 refine dy 6 [(2,aI b),(3,aI a),(86,.bool b8)] (bn a1 cE cF df di db dc dh dj++(bn a0 af ag ay az au av aw ax++[aL b 34 (am a0 af ag ay az au av aw ax),aL a 34 (am a1 cE cF df di db dc dh dj)])) ?_ fun junk=>?_
 ·by_cases d : a0.f1 = a1.f1
  ·refine aZ (ai d) aA (h:=cn (ai d) (aO 8) (h:=aZ (ai d) aA (h:=cn (ai d) (aO 9) (h:=aZ (ai d) (bk rfl rfl) (h:=bY (ai d) (h:=ah ?_))))))
   have x_:=fq U ((ai d));exact bH [0,1,2,3,4,5,6,7,8,9]
  refine ct 5 (al d) (ca (al d) (h:=ah ?_))
  have x_:=fp U ((al d));exact bH [0,1,2,3,4,5,6,7,8,9]
 refine S' ar ?_
 obtain⟨c5,Y,H⟩:=bi H
 refine dy 6 [(2,aI b),(3,aI a),(93,.bool c5)] (bn a1 cE cF df di db dc dh dj++(bn a0 af ag ay az au av aw ax++[aL b 34 (am a0 af ag ay az au av aw ax),aL a 34 (am a1 cE cF df di db dc dh dj)])) ?_ fun junk=>?_
 ·by_cases l : b8 = true
  ·refine aZ l aA (h:=cn l (aO 8) (h:=aZ l aA (h:=cn l (aO 9) (h:=gS l (.bool (decide (a0.f3 = a1.f3))) (eV Tryz.underlying4 rfl rfl) (h:=bY l (h:=ah ?_))))))
   have x_:=fq Y l;exact bH [0,1,2,3,4,5,6,7,8,9]
  refine ct 5 (aK l) (ca (aK l) (h:=ah ?_))
  have x_:=fp Y ((aK l));exact bH [0,1,2,3,4,5,6,7,8,9]
 refine S' ar ?_
 obtain⟨c6,Z,H⟩:=bi H
 refine dy 6 [(2,aI b),(3,aI a),(100,.bool c6)] (bn a1 cE cF df di db dc dh dj++(bn a0 af ag ay az au av aw ax++[aL b 34 (am a0 af ag ay az au av aw ax),aL a 34 (am a1 cE cF df di db dc dh dj)])) ?_ fun junk=>?_
 ·by_cases o : c5 = true
  ·refine aZ o aA (h:=cn o (cx b 6 8 (bF a0.f4)) (h:=aZ o aA (h:=cn o (cx a 6 9 (bF a1.f4)) (h:=gS o (.bool (decide (a0.f4 = a1.f4))) (kC (xs:=(bF a0.f4)) (ys:=(bF a1.f4)) (r:=((a0.f4.f0 == a1.f4.f0) && ((a0.f4.f1 == a1.f4.f1) && ((a0.f4.f2 == a1.f4.f2) && ((a0.f4.f3 == a1.f4.f3) && ((a0.f4.f4 == a1.f4.f4) && ((a0.f4.f5 == a1.f4.f5) && ((a0.f4.f6 == a1.f4.f6) && ((a0.f4.f7 == a1.f4.f7) && ((a0.f4.f8 == a1.f4.f8) && ((a0.f4.f9 == a1.f4.f9) && true))))))))))) (p:=a0.f4 = a1.f4) lh rfl rfl (by kernel_rfl) (lj (x:=a0.f4) (y:=a1.f4))) (h:=bY o (h:=ah ?_))))))
   have x_:=fq Z o;exact bH [0,1,2,3,4,5,6,7,8,9]
  refine ct 5 (aK o) (ca (aK o) (h:=ah ?_))
  have x_:=fp Z ((aK o));exact bH [0,1,2,3,4,5,6,7,8,9]
 refine S' ar ?_
 obtain⟨c7,a2,H⟩:=bi H
 refine dy 6 [(2,aI b),(3,aI a),(107,.bool c7)] (bn a1 cE cF df di db dc dh dj++(bn a0 af ag ay az au av aw ax++[aL b 34 (am a0 af ag ay az au av aw ax),aL a 34 (am a1 cE cF df di db dc dh dj)])) ?_ fun junk=>?_
 ·by_cases q : c6 = true
  ·refine aZ q aA (h:=cn q (aO 8) (h:=aZ q aA (h:=cn q (aO 9) (h:=aZ q (bk rfl rfl) (h:=bY q (h:=ah ?_))))))
   have x_:=fq a2 q;exact bH [0,1,2,3,4,5,6,7,8,9]
  refine ct 5 (aK q) (ca (aK q) (h:=ah ?_))
  have x_:=fp a2 ((aK q));exact bH [0,1,2,3,4,5,6,7,8,9]
 refine S' ar ?_
 obtain⟨c8,a3,H⟩:=bi H
 refine dy 6 [(2,aI b),(3,aI a),(114,.bool c8)] (bn a1 cE cF df di db dc dh dj++(bn a0 af ag ay az au av aw ax++[aL b 34 (am a0 af ag ay az au av aw ax),aL a 34 (am a1 cE cF df di db dc dh dj)])) ?_ fun junk=>?_
 ·by_cases s : c7 = true
  ·refine aZ s aA (h:=cn s (aO 8) (h:=aZ s aA (h:=cn s (aO 9) (h:=aZ s (bk rfl rfl) (h:=bY s (h:=ah ?_))))))
   have x_:=fq a3 s;exact bH [0,1,2,3,4,5,6,7,8,9]
  refine ct 5 (aK s) (ca (aK s) (h:=ah ?_))
  have x_:=fp a3 ((aK s));exact bH [0,1,2,3,4,5,6,7,8,9]
 refine S' ar ?_
 obtain⟨c9,a4,H⟩:=bi H
 refine dy 6 [(2,aI b),(3,aI a),(121,.bool c9)] (bn a1 cE cF df di db dc dh dj++(bn a0 af ag ay az au av aw ax++[aL b 34 (am a0 af ag ay az au av aw ax),aL a 34 (am a1 cE cF df di db dc dh dj)])) ?_ fun junk=>?_
 ·by_cases u : c8 = true
  ·refine aZ u aA (h:=cn u (aO 8) (h:=aZ u aA (h:=cn u (aO 9) (h:=gS u (.bool (decide (a0.f8 = a1.f8))) (eV Tryz.underlying4 rfl rfl) (h:=bY u (h:=ah ?_))))))
   have x_:=fq a4 u;exact bH [0,1,2,3,4,5,6,7,8,9]
  refine ct 5 (aK u) (ca (aK u) (h:=ah ?_))
  have x_:=fp a4 ((aK u));exact bH [0,1,2,3,4,5,6,7,8,9]
 refine S' ar ?_
 obtain⟨d0,a5,H⟩:=bi H
 refine dy 6 [(2,aI b),(3,aI a),(128,.bool d0)] (bn a1 cE cF df di db dc dh dj++(bn a0 af ag ay az au av aw ax++[aL b 34 (am a0 af ag ay az au av aw ax),aL a 34 (am a1 cE cF df di db dc dh dj)])) ?_ fun junk=>?_
 ·by_cases z : c9 = true
  ·refine aZ z aA (h:=cn z (aO 8) (h:=aZ z aA (h:=cn z (aO 9) (h:=gS z (.bool (decide (a0.f9 = a1.f9))) (eV Tryz.underlying4 rfl rfl) (h:=bY z (h:=ah ?_))))))
   have x_:=fq a5 z;exact bH [0,1,2,3,4,5,6,7,8,9]
  refine ct 5 (aK z) (ca (aK z) (h:=ah ?_))
  have x_:=fp a5 ((aK z));exact bH [0,1,2,3,4,5,6,7,8,9]
 refine S' ar ?_
 obtain⟨d1,a6,H⟩:=bi H
 refine dy 6 [(2,aI b),(3,aI a),(135,.bool d1)] (bn a1 cE cF df di db dc dh dj++(bn a0 af ag ay az au av aw ax++[aL b 34 (am a0 af ag ay az au av aw ax),aL a 34 (am a1 cE cF df di db dc dh dj)])) ?_ fun junk=>?_
 ·by_cases B : d0 = true
  ·refine aZ B aA (h:=cn B (aO 8) (h:=aZ B aA (h:=cn B (aO 9) (h:=gS B (.bool (decide (a0.f10 = a1.f10))) (eV Tryz.underlying4 rfl rfl) (h:=bY B (h:=ah ?_))))))
   have x_:=fq a6 B;exact bH [0,1,2,3,4,5,6,7,8,9]
  refine ct 5 (aK B) (ca (aK B) (h:=ah ?_))
  have x_:=fp a6 ((aK B));exact bH [0,1,2,3,4,5,6,7,8,9]
 refine S' ar ?_
 obtain⟨d2,a7,H⟩:=bi H
 refine dy 6 [(2,aI b),(3,aI a),(142,.bool d2)] (bn a1 cE cF df di db dc dh dj++(bn a0 af ag ay az au av aw ax++[aL b 34 (am a0 af ag ay az au av aw ax),aL a 34 (am a1 cE cF df di db dc dh dj)])) ?_ fun junk=>?_
 ·by_cases D : d1 = true
  ·refine aZ D aA (h:=cn D (aO 8) (h:=aZ D aA (h:=cn D (aO 9) (h:=gS D (.bool (decide (a0.f11 = a1.f11))) (eV Tryz.underlying4 rfl rfl) (h:=bY D (h:=ah ?_))))))
   have x_:=fq a7 D;exact bH [0,1,2,3,4,5,6,7,8,9]
  refine ct 5 (aK D) (ca (aK D) (h:=ah ?_))
  have x_:=fp a7 ((aK D));exact bH [0,1,2,3,4,5,6,7,8,9]
 refine S' ar ?_
 obtain⟨d3,a8,H⟩:=bi H
 refine dy 6 [(2,aI b),(3,aI a),(149,.bool d3)] (bn a1 cE cF df di db dc dh dj++(bn a0 af ag ay az au av aw ax++[aL b 34 (am a0 af ag ay az au av aw ax),aL a 34 (am a1 cE cF df di db dc dh dj)])) ?_ fun junk=>?_
 ·by_cases E : d2 = true
  ·refine aZ E aA (h:=cn E (aO 8) (h:=aZ E aA (h:=cn E (aO 9) (h:=gS E (.bool (decide (a0.f12 = a1.f12))) (eV Tryz.underlying4 rfl rfl) (h:=bY E (h:=ah ?_))))))
   have x_:=fq a8 E;exact bH [0,1,2,3,4,5,6,7,8,9]
  refine ct 5 (aK E) (ca (aK E) (h:=ah ?_))
  have x_:=fp a8 ((aK E));exact bH [0,1,2,3,4,5,6,7,8,9]
 refine S' ar ?_
 obtain⟨d4,a9,H⟩:=bi H
 refine dy 6 [(2,aI b),(3,aI a),(156,.bool d4)] (bn a1 cE cF df di db dc dh dj++(bn a0 af ag ay az au av aw ax++[aL b 34 (am a0 af ag ay az au av aw ax),aL a 34 (am a1 cE cF df di db dc dh dj)])) ?_ fun junk=>?_
 ·by_cases F : d3 = true
  ·refine aZ F aA (h:=cn F (aO 8) (h:=aZ F aA (h:=cn F (aO 9) (h:=gS F (.bool (decide (a0.f13 = a1.f13))) (eV Tryz.underlying4 rfl rfl) (h:=bY F (h:=ah ?_))))))
   have x_:=fq a9 F;exact bH [0,1,2,3,4,5,6,7,8,9]
  refine ct 5 (aK F) (ca (aK F) (h:=ah ?_))
  have x_:=fp a9 ((aK F));exact bH [0,1,2,3,4,5,6,7,8,9]
 refine S' ar ?_
 obtain⟨d5,b0,H⟩:=bi H
 refine dy 6 [(2,aI b),(3,aI a),(163,.bool d5)] (bn a1 cE cF df di db dc dh dj++(bn a0 af ag ay az au av aw ax++[aL b 34 (am a0 af ag ay az au av aw ax),aL a 34 (am a1 cE cF df di db dc dh dj)])) ?_ fun junk=>?_
 ·by_cases I : d4 = true
  ·refine aZ I aA (h:=cn I (cx b 25 8 (gM a0.f14)) (h:=aZ I aA (h:=cn I (cx a 25 9 (gM a1.f14)) (h:=gS I (.bool (decide (a0.f14 = a1.f14))) (kC (xs:=(gM a0.f14)) (ys:=(gM a1.f14)) (r:=((a0.f14.f0 == a1.f14.f0) && ((a0.f14.f1 == a1.f14.f1) && ((a0.f14.f2 == a1.f14.f2) && ((a0.f14.f3 == a1.f14.f3) && (((a0.f14.f4.f0 == a1.f14.f4.f0) && ((a0.f14.f4.f1 == a1.f14.f4.f1) && ((a0.f14.f4.f2 == a1.f14.f4.f2) && ((a0.f14.f4.f3 == a1.f14.f4.f3) && ((a0.f14.f4.f4 == a1.f14.f4.f4) && ((a0.f14.f4.f5 == a1.f14.f4.f5) && ((a0.f14.f4.f6 == a1.f14.f4.f6) && ((a0.f14.f4.f7 == a1.f14.f4.f7) && ((a0.f14.f4.f8 == a1.f14.f4.f8) && ((a0.f14.f4.f9 == a1.f14.f4.f9) && true)))))))))) && true)))))) (p:=a0.f14 = a1.f14) tB rfl rfl (by kernel_rfl) (tD (x:=a0.f14) (y:=a1.f14))) (h:=bY I (h:=ah ?_))))))
   have x_:=fq b0 I;exact bH [0,1,2,3,4,5,6,7,8,9]
  refine ct 5 (aK I) (ca (aK I) (h:=ah ?_))
  have x_:=fp b0 ((aK I));exact bH [0,1,2,3,4,5,6,7,8,9]
 refine S' ar ?_
 obtain⟨g8,b1,H⟩:=bi H
 refine dy 6 [(170,.bool g8)] (bn a1 cE cF df di db dc dh dj++bn a0 af ag ay az au av aw ax) ?_ fun junk=>?_
 ·by_cases J : d5 = true
  ·refine aZ J aA (h:=cn J (aO 8) (h:=aZ J aA (h:=cn J (aO 9) (h:=gS J (.bool (decide (a0.f15 = a1.f15))) (eV Tryz.underlying4 rfl rfl) (h:=bY J (h:=ah ?_))))))
   have x_:=fq b1 J;exact bH [0,1,2,3,4,5,6,7]
  refine ct 5 (aK J) (ca (aK J) (h:=ah ?_))
  have x_:=fp b1 ((aK J));exact bH [0,1,2,3,4,5,6,7]
 refine ad aW (h:=cD ?_)
 have h:=aN H;subst h
 exact dJ [4,5,6,7,0,1,2,3] ⟨rfl,rfl⟩


def qN.f  : Option ((List bc)):=some ((((bc.mk 4352 4447)::(bc.mk 8986 8987)::(bc.mk 9001 9002)::(bc.mk 9193 9196)::(bc.mk 9725 9726)::(bc.mk 9748 9749)::(bc.mk 9800 9811)::(bc.mk 9889 9889)::(bc.mk 9917 9918)::(bc.mk 9989 9989)::(bc.mk 10024 10024)::(bc.mk 10060 10060)::(bc.mk 10067 10069)::(bc.mk 10133 10135)::(bc.mk 11035 11036)::(bc.mk 11088 11088)::(bc.mk 11904 12350)::(bc.mk 12353 13311)::(bc.mk 13312 19903)::(bc.mk 19968 40959)::(bc.mk 40960 42191)::(bc.mk 44032 55203)::(bc.mk 63744 64255)::(bc.mk 65072 65135)::(bc.mk 65281 65376)::(bc.mk 65504 65510)::(bc.mk 127744 127776)::(bc.mk 127789 127797)::(bc.mk 127799 127868)::(bc.mk 128000 128062)::(bc.mk 128064 128064)::(bc.mk 128066 128252)::(bc.mk 128512 128591)::(bc.mk 128640 128709)::(bc.mk 129280 129535)::(bc.mk 131072 196605)::(bc.mk 196608 262141)::[]) : (List bc)))
theorem qN.ok  {r : (List bc)} (H : qN.f  = some r) : fU Tryz.prog 148 #[] [] (.agg (List.flatMap eW ((rd r 0)::(rd r 1)::(rd r 2)::(rd r 3)::(rd r 4)::(rd r 5)::(rd r 6)::(rd r 7)::(rd r 8)::(rd r 9)::(rd r 10)::(rd r 11)::(rd r 12)::(rd r 13)::(rd r 14)::(rd r 15)::(rd r 16)::(rd r 17)::(rd r 18)::(rd r 19)::(rd r 20)::(rd r 21)::(rd r 22)::(rd r 23)::(rd r 24)::(rd r 25)::(rd r 26)::(rd r 27)::(rd r 28)::(rd r 29)::(rd r 30)::(rd r 31)::(rd r 32)::(rd r 33)::(rd r 34)::(rd r 35)::(rd r 36)::[])).toArray):=by
 refine aj Tryz.func148 rfl rfl ?_
 unfold qN.f at H
 refine aP (o' (cC (h:=fun a=>cR (bT (.agg #[aM 4352,aM 4447]) gG (h:=bT (.agg #[aM 8986,aM 8987]) gG (h:=bT (.agg #[aM 9001,aM 9002]) gG (h:=bT (.agg #[aM 9193,aM 9196]) gG (h:=bT (.agg #[aM 9725,aM 9726]) gG (h:=bT (.agg #[aM 9748,aM 9749]) gG (h:=s' (.agg #[aM 9800,aM 9811]) gG ?_))))))))))
 refine bT (.agg #[aM 9889,aM 9889]) gG (h:=bT (.agg #[aM 9917,aM 9918]) gG (h:=bT (.agg #[aM 9989,aM 9989]) gG (h:=bT (.agg #[aM 10024,aM 10024]) gG (h:=bT (.agg #[aM 10060,aM 10060]) gG (h:=bT (.agg #[aM 10067,aM 10069]) gG (h:=bT (.agg #[aM 10133,aM 10135]) gG (h:=bT (.agg #[aM 11035,aM 11036]) gG (h:=bT (.agg #[aM 11088,aM 11088]) gG (h:=s' (.agg #[aM 11904,aM 12350]) gG ?_)))))))))
 refine bT (.agg #[aM 12353,aM 13311]) gG (h:=bT (.agg #[aM 13312,aM 19903]) gG (h:=bT (.agg #[aM 19968,aM 40959]) gG (h:=bT (.agg #[aM 40960,aM 42191]) gG (h:=bT (.agg #[aM 44032,aM 55203]) gG (h:=bT (.agg #[aM 63744,aM 64255]) gG (h:=bT (.agg #[aM 65072,aM 65135]) gG (h:=bT (.agg #[aM 65281,aM 65376]) gG (h:=bT (.agg #[aM 65504,aM 65510]) gG (h:=s' (.agg #[aM 127744,aM 127776]) gG ?_)))))))))
 refine bT (.agg #[aM 127789,aM 127797]) gG (h:=bT (.agg #[aM 127799,aM 127868]) gG (h:=bT (.agg #[aM 128000,aM 128062]) gG (h:=bT (.agg #[aM 128064,aM 128064]) gG (h:=bT (.agg #[aM 128066,aM 128252]) gG (h:=bT (.agg #[aM 128512,aM 128591]) gG (h:=bT (.agg #[aM 128640,aM 128709]) gG (h:=bT (.agg #[aM 129280,aM 129535]) gG (h:=bT (.agg #[aM 131072,aM 196605]) gG (h:=s' (.agg #[aM 196608,aM 262141]) gG ?_)))))))))
 refine bT (.agg (List.toArray (aM 4352::aM 4447::aM 8986::aM 8987::aM 9001::aM 9002::aM 9193::aM 9196::aM 9725::aM 9726::aM 9748::aM 9749::aM 9800::aM 9811::aM 9889::aM 9889::aM 9917::aM 9918::aM 9989::aM 9989::aM 10024::aM 10024::aM 10060::aM 10060::aM 10067::aM 10069::aM 10133::aM 10135::aM 11035::aM 11036::aM 11088::aM 11088::aM 11904::aM 12350::aM 12353::aM 13311::aM 13312::aM 19903::aM 19968::aM 40959::aM 40960::aM 42191::aM 44032::aM 55203::aM 63744::aM 64255::aM 65072::aM 65135::aM 65281::aM 65376::aM 65504::aM 65510::aM 127744::aM 127776::aM 127789::aM 127797::aM 127799::aM 127868::aM 128000::aM 128062::aM 128064::aM 128064::aM 128066::aM 128252::aM 128512::aM 128591::aM 128640::aM 128709::aM 129280::aM 129535::aM 131072::aM 196605::aM 196608::aM 262141::[]))) gG (h:=o' (oE (b:=a) (m:=0) (k:=0) (vs:=(List.flatMap eW ((bc.mk 4352 4447)::(bc.mk 8986 8987)::(bc.mk 9001 9002)::(bc.mk 9193 9196)::(bc.mk 9725 9726)::(bc.mk 9748 9749)::(bc.mk 9800 9811)::(bc.mk 9889 9889)::(bc.mk 9917 9918)::(bc.mk 9989 9989)::(bc.mk 10024 10024)::(bc.mk 10060 10060)::(bc.mk 10067 10069)::(bc.mk 10133 10135)::(bc.mk 11035 11036)::(bc.mk 11088 11088)::(bc.mk 11904 12350)::(bc.mk 12353 13311)::(bc.mk 13312 19903)::(bc.mk 19968 40959)::(bc.mk 40960 42191)::(bc.mk 44032 55203)::(bc.mk 63744 64255)::(bc.mk 65072 65135)::(bc.mk 65281 65376)::(bc.mk 65504 65510)::(bc.mk 127744 127776)::(bc.mk 127789 127797)::(bc.mk 127799 127868)::(bc.mk 128000 128062)::(bc.mk 128064 128064)::(bc.mk 128066 128252)::(bc.mk 128512 128591)::(bc.mk 128640 128709)::(bc.mk 129280 129535)::(bc.mk 131072 196605)::(bc.mk 196608 262141)::[]))) (cs':=(List.flatMap eW ((bc.mk 4352 4447)::(bc.mk 8986 8987)::(bc.mk 9001 9002)::(bc.mk 9193 9196)::(bc.mk 9725 9726)::(bc.mk 9748 9749)::(bc.mk 9800 9811)::(bc.mk 9889 9889)::(bc.mk 9917 9918)::(bc.mk 9989 9989)::(bc.mk 10024 10024)::(bc.mk 10060 10060)::(bc.mk 10067 10069)::(bc.mk 10133 10135)::(bc.mk 11035 11036)::(bc.mk 11088 11088)::(bc.mk 11904 12350)::(bc.mk 12353 13311)::(bc.mk 13312 19903)::(bc.mk 19968 40959)::(bc.mk 40960 42191)::(bc.mk 44032 55203)::(bc.mk 63744 64255)::(bc.mk 65072 65135)::(bc.mk 65281 65376)::(bc.mk 65504 65510)::(bc.mk 127744 127776)::(bc.mk 127789 127797)::(bc.mk 127799 127868)::(bc.mk 128000 128062)::(bc.mk 128064 128064)::(bc.mk 128066 128252)::(bc.mk 128512 128591)::(bc.mk 128640 128709)::(bc.mk 129280 129535)::(bc.mk 131072 196605)::(bc.mk 196608 262141)::[]))) rfl rfl rfl rfl rfl (by kernel_rfl) uy rfl (by kernel_rfl) (cD ?_)))
 have h:=aN H;subst h
 exact gi (rs:=[.cell 0 139]) (vs:=[.agg (List.toArray (aM 4352::aM 4447::aM 8986::aM 8987::aM 9001::aM 9002::aM 9193::aM 9196::aM 9725::aM 9726::aM 9748::aM 9749::aM 9800::aM 9811::aM 9889::aM 9889::aM 9917::aM 9918::aM 9989::aM 9989::aM 10024::aM 10024::aM 10060::aM 10060::aM 10067::aM 10069::aM 10133::aM 10135::aM 11035::aM 11036::aM 11088::aM 11088::aM 11904::aM 12350::aM 12353::aM 13311::aM 13312::aM 19903::aM 19968::aM 40959::aM 40960::aM 42191::aM 44032::aM 55203::aM 63744::aM 64255::aM 65072::aM 65135::aM 65281::aM 65376::aM 65504::aM 65510::aM 127744::aM 127776::aM 127789::aM 127797::aM 127799::aM 127868::aM 128000::aM 128062::aM 128064::aM 128064::aM 128066::aM 128252::aM 128512::aM 128591::aM 128640::aM 128709::aM 129280::aM 129535::aM 131072::aM 196605::aM 196608::aM 262141::[]))]) [] rfl ⟨RV.cell (k:=0) rfl rfl Tryz.underlying139 rfl uy,trivial⟩ rfl (fk []) ⟨(by kernel_rfl),rfl⟩


def qO.f  : Option ((List bc)):=some ((((bc.mk 768 879)::(bc.mk 1155 1161)::(bc.mk 1425 1469)::(bc.mk 1471 1471)::(bc.mk 1473 1474)::(bc.mk 1552 1562)::(bc.mk 1611 1631)::(bc.mk 1750 1756)::(bc.mk 2304 2306)::(bc.mk 2364 2364)::(bc.mk 2369 2376)::(bc.mk 2381 2381)::(bc.mk 3633 3633)::(bc.mk 3636 3642)::(bc.mk 6832 6911)::(bc.mk 7616 7679)::(bc.mk 8203 8207)::(bc.mk 8234 8238)::(bc.mk 8288 8292)::(bc.mk 8400 8447)::(bc.mk 12330 12333)::(bc.mk 12441 12442)::(bc.mk 65024 65039)::(bc.mk 65056 65071)::(bc.mk 65279 65279)::(bc.mk 917760 917999)::[]) : (List bc)))
theorem qO.ok  {r : (List bc)} (H : qO.f  = some r) : fU Tryz.prog 149 #[] [] (.agg (List.flatMap eW ((rd r 0)::(rd r 1)::(rd r 2)::(rd r 3)::(rd r 4)::(rd r 5)::(rd r 6)::(rd r 7)::(rd r 8)::(rd r 9)::(rd r 10)::(rd r 11)::(rd r 12)::(rd r 13)::(rd r 14)::(rd r 15)::(rd r 16)::(rd r 17)::(rd r 18)::(rd r 19)::(rd r 20)::(rd r 21)::(rd r 22)::(rd r 23)::(rd r 24)::(rd r 25)::[])).toArray):=by
 refine aj Tryz.func149 rfl rfl ?_
 unfold qO.f at H
 refine aP (o' (cC (h:=fun a=>cR (bT (.agg #[aM 768,aM 879]) gG (h:=bT (.agg #[aM 1155,aM 1161]) gG (h:=bT (.agg #[aM 1425,aM 1469]) gG (h:=bT (.agg #[aM 1471,aM 1471]) gG (h:=bT (.agg #[aM 1473,aM 1474]) gG (h:=bT (.agg #[aM 1552,aM 1562]) gG (h:=s' (.agg #[aM 1611,aM 1631]) gG ?_))))))))))
 refine bT (.agg #[aM 1750,aM 1756]) gG (h:=bT (.agg #[aM 2304,aM 2306]) gG (h:=bT (.agg #[aM 2364,aM 2364]) gG (h:=bT (.agg #[aM 2369,aM 2376]) gG (h:=bT (.agg #[aM 2381,aM 2381]) gG (h:=bT (.agg #[aM 3633,aM 3633]) gG (h:=bT (.agg #[aM 3636,aM 3642]) gG (h:=bT (.agg #[aM 6832,aM 6911]) gG (h:=bT (.agg #[aM 7616,aM 7679]) gG (h:=s' (.agg #[aM 8203,aM 8207]) gG ?_)))))))))
 refine bT (.agg #[aM 8234,aM 8238]) gG (h:=bT (.agg #[aM 8288,aM 8292]) gG (h:=bT (.agg #[aM 8400,aM 8447]) gG (h:=bT (.agg #[aM 12330,aM 12333]) gG (h:=bT (.agg #[aM 12441,aM 12442]) gG (h:=bT (.agg #[aM 65024,aM 65039]) gG (h:=bT (.agg #[aM 65056,aM 65071]) gG (h:=bT (.agg #[aM 65279,aM 65279]) gG (h:=bT (.agg #[aM 917760,aM 917999]) gG (h:=s' (.agg (List.toArray (aM 768::aM 879::aM 1155::aM 1161::aM 1425::aM 1469::aM 1471::aM 1471::aM 1473::aM 1474::aM 1552::aM 1562::aM 1611::aM 1631::aM 1750::aM 1756::aM 2304::aM 2306::aM 2364::aM 2364::aM 2369::aM 2376::aM 2381::aM 2381::aM 3633::aM 3633::aM 3636::aM 3642::aM 6832::aM 6911::aM 7616::aM 7679::aM 8203::aM 8207::aM 8234::aM 8238::aM 8288::aM 8292::aM 8400::aM 8447::aM 12330::aM 12333::aM 12441::aM 12442::aM 65024::aM 65039::aM 65056::aM 65071::aM 65279::aM 65279::aM 917760::aM 917999::[]))) gG ?_)))))))))
 refine o' (oE (b:=a) (m:=0) (k:=0) (vs:=(List.flatMap eW ((bc.mk 768 879)::(bc.mk 1155 1161)::(bc.mk 1425 1469)::(bc.mk 1471 1471)::(bc.mk 1473 1474)::(bc.mk 1552 1562)::(bc.mk 1611 1631)::(bc.mk 1750 1756)::(bc.mk 2304 2306)::(bc.mk 2364 2364)::(bc.mk 2369 2376)::(bc.mk 2381 2381)::(bc.mk 3633 3633)::(bc.mk 3636 3642)::(bc.mk 6832 6911)::(bc.mk 7616 7679)::(bc.mk 8203 8207)::(bc.mk 8234 8238)::(bc.mk 8288 8292)::(bc.mk 8400 8447)::(bc.mk 12330 12333)::(bc.mk 12441 12442)::(bc.mk 65024 65039)::(bc.mk 65056 65071)::(bc.mk 65279 65279)::(bc.mk 917760 917999)::[]))) (cs':=(List.flatMap eW ((bc.mk 768 879)::(bc.mk 1155 1161)::(bc.mk 1425 1469)::(bc.mk 1471 1471)::(bc.mk 1473 1474)::(bc.mk 1552 1562)::(bc.mk 1611 1631)::(bc.mk 1750 1756)::(bc.mk 2304 2306)::(bc.mk 2364 2364)::(bc.mk 2369 2376)::(bc.mk 2381 2381)::(bc.mk 3633 3633)::(bc.mk 3636 3642)::(bc.mk 6832 6911)::(bc.mk 7616 7679)::(bc.mk 8203 8207)::(bc.mk 8234 8238)::(bc.mk 8288 8292)::(bc.mk 8400 8447)::(bc.mk 12330 12333)::(bc.mk 12441 12442)::(bc.mk 65024 65039)::(bc.mk 65056 65071)::(bc.mk 65279 65279)::(bc.mk 917760 917999)::[]))) rfl rfl rfl rfl rfl (by kernel_rfl) uz rfl (by kernel_rfl) (cD ?_))
 have h:=aN H;subst h
 exact gi (rs:=[.cell 0 141]) (vs:=[.agg (List.toArray (aM 768::aM 879::aM 1155::aM 1161::aM 1425::aM 1469::aM 1471::aM 1471::aM 1473::aM 1474::aM 1552::aM 1562::aM 1611::aM 1631::aM 1750::aM 1756::aM 2304::aM 2306::aM 2364::aM 2364::aM 2369::aM 2376::aM 2381::aM 2381::aM 3633::aM 3633::aM 3636::aM 3642::aM 6832::aM 6911::aM 7616::aM 7679::aM 8203::aM 8207::aM 8234::aM 8238::aM 8288::aM 8292::aM 8400::aM 8447::aM 12330::aM 12333::aM 12441::aM 12442::aM 65024::aM 65039::aM 65056::aM 65071::aM 65279::aM 65279::aM 917760::aM 917999::[]))]) [] rfl ⟨RV.cell (k:=0) rfl rfl Tryz.underlying141 rfl uz,trivial⟩ rfl (fk []) ⟨(by kernel_rfl),rfl⟩


def kW.l0 (l0 : (List bc)) (a1 : Int) : Nat → Int → Int → Option (Out (Bool) (Unit))
  | 0,_,_=>none
  | k + 1,a,b=>if a < b then (lt (iD .u64 (IntKind.u64.wrap (a + b)) 1) fun n8=>if 0 ≤ n8∧n8 < (l0.length : Int) then (if a1 < ((rd l0 n8).f0) then (kW.l0 l0 a1 k a n8) else (if 0 ≤ n8∧n8 < (l0.length : Int) then (if a1 > ((rd l0 n8).f1) then (lt (IntKind.u64.wrap (n8 + 1)) fun n15=>kW.l0 l0 a1 k n15 b) else (some (Out.ret (true)))) else none)) else none) else (some (Out.go ()))
def kW.f (k : Nat) (l0 : (List bc)) (a1 : Int) : Option (Bool):=lt (IntKind.u64.wrap ((l0.length : Int))) fun a=>(kW.l0 l0 a1 k 0 a : Option (Out (Bool) (Unit))).bind (fun b=>Out.el b (fun r_=>some r_) (fun c=>some (false)))
theorem kW.ok {l0 : (List bc)} {a1 : Int} {A0 : Option Addr} {c0 : Nat} {r : Bool} (H : kW.f k l0 a1 = some r) : dp Tryz.prog 150 #[.slice A0 l0.length c0,aM a1] [Ro vp A0 c0 l0] (fun v B=>v = .bool r∧B = []):=by
 refine aj Tryz.func150 rfl rfl ?_
 unfold kW.f at H
 refine aP (ad aW (h:=cR (ad ar (h:=bT (ae (l0.length : Int)) (cP Tryz.underlying144 rfl) (h:=bT (.int .u64 (IntKind.u64.wrap ((l0.length : Int)))) (jS (T:=3) (by kernel_rfl) Tryz.underlying146 rfl) (h:=S' aW ?_))))))
 obtain⟨K,I,H⟩:=bi H
 refine bT (.int .u64 K) (bu (v:=.int .u64 K) (congrArg (Value.int .u64) I.symm)) (h:=bA (ap ?_))
 obtain⟨M,H,c⟩:=ac H
 refine bK (fun e ds As=>∃ (L : Unit),M = Out.go L∧St [] [] e ds As) ?_ ?_
 ·refine aT (cl (fun k_ e ds As=>∃ (a : Int) (b : Int),kW.l0 l0 a1 k_ a b = some M∧St [(0,.slice A0 l0.length c0),(1,aM a1),(5,.int .u64 a),(6,.int .u64 b)] [Ro vp A0 c0 l0] e ds As) (k:=k) ⟨_,_,H,jQ [0]⟩ ?_)
  clear H
  rintro q e ds As ⟨a,b,H,E⟩
  obtain _ | q:=q
  ·cases H
  rw [kW.l0] at H
  refine SA.of_St E fun junk=>ap (aP (ad ar (h:=ad ar (h:=ad (cg rfl rfl) (h:=bA ?_)))))
  rcases bD H with⟨z,H⟩|⟨z,H⟩
  ·refine aC rfl z (ao (aa (aT (aP (ad ar (h:=ad ar (h:=ad (bX rfl rfl) (h:=s' (.int .u64 (iD .u64 (IntKind.u64.wrap (a + b)) 1)) (vR rfl rfl (by decide)) ?_))))))))
   obtain⟨n8,J,H⟩:=bi H
   refine bT (.int .u64 n8) (bu (v:=.int .u64 n8) (congrArg (Value.int .u64) J.symm)) (h:=bA (aT (aP (ad ar (h:=ad ar (h:=S' ar ?_))))))
   obtain⟨⟨F,s⟩,H⟩:=aS H
   refine bq (br (i:=n8) Tryz.underlying144 qz rfl rfl (Src.ro (k:=0) rfl) F s) (h:=bT (.pointer (some ((el A0 (n8.toNat * 2)).add 0))) (gp (B:=el A0 (n8.toNat * 2)) (m:=0) (o:=0) Tryz.underlying138 jg rfl rfl (by decide) (by decide) rfl) (h:=bq (bE (enc:=eW) (i:=n8) (j:=n8.toNat * 2) (m:=0) (sz:=2) Tryz.underlying21 rfl rfl rfl rfl (Src.ro (k:=0) rfl) F s (fun _ _ h=>h) rfl) (h:=ad (cg rfl rfl) (h:=ad aW (h:=bA ?_)))))
   rcases bD H with⟨d,H⟩|⟨d,H⟩
   ·refine aC rfl d (ak (ad ar (h:=ad aW (h:=ah (aG (aG ?_))))))
    exact aa ⟨q,Nat.lt_succ_self _,_,_,H,eb [0]⟩
   refine aB rfl d (aP (ad ar (h:=ad ar (h:=S' ar ?_))))
   obtain⟨⟨u,y⟩,H⟩:=aS H
   refine bq (br (i:=n8) Tryz.underlying144 qz rfl rfl (Src.ro (k:=0) rfl) u y) (h:=bT (.pointer (some ((el A0 (n8.toNat * 2)).add 1))) (gp (B:=el A0 (n8.toNat * 2)) (m:=0) (o:=1) Tryz.underlying138 jg rfl rfl (by decide) (by decide) rfl) (h:=bq (bE (enc:=eW) (i:=n8) (j:=n8.toNat * 2) (m:=1) (sz:=2) Tryz.underlying21 rfl rfl rfl rfl (Src.ro (k:=0) rfl) u y (fun _ _ h=>h) rfl) (h:=ad (eN rfl rfl) (h:=ad aW (h:=bA ?_)))))
   rcases bD H with⟨l,H⟩|⟨l,H⟩
   ·refine aC rfl l (ak (ad ar (h:=S' (bX rfl rfl) ?_)))
    obtain⟨n15,D,H⟩:=bi H
    refine bT (.int .u64 n15) (bu (v:=.int .u64 n15) (congrArg (Value.int .u64) D.symm)) (h:=ah (aG (aG ?_)))
    exact aa ⟨q,Nat.lt_succ_self _,_,_,H,eb [0]⟩
   refine aB rfl l (aP (ad aW (h:=cD (aY (aY (aF (aY (aF (aF ?_)))))))))
   have h:=aN H;subst h
   have hb_:=dz c
   have hr_:=Option.some.inj hb_
   clear hb_
   subst hr_
   exact dJ [] ⟨rfl,rfl⟩
  refine aB rfl z (ci (aX (aX (cj ?_))))
  have h:=aN H;subst h
  exact aa ⟨(),rfl,eb []⟩
 rintro e ds As ⟨L,ht,p⟩
 clear H
 subst ht
 replace c:=fi c
 have H:=c
 clear c
 refine aa (SA.of_St p fun junk=>aP (ad aW (h:=cD ?_)))
 have h:=aN H;subst h
 exact dJ [] ⟨rfl,rfl⟩


def lS.f (k : Nat) (a0 : Int) : Option (Int):=(qN.f ).bind (fun a=>(qO.f ).bind (fun b=>(if a0 < 32 then (some true) else (if a0 ≥ 127 then (some (decide (a0 ≤ 159))) else (some false)) : Option Bool).bind (fun j=>lt (j || (decide (a0 > 1114111))) fun c=>(if c = true then (some true) else (if a0 ≥ 55296 then (some (decide (a0 ≤ 57343))) else (some false)) : Option Bool).bind (fun d=>if d = true then (some ((-1))) else ((kW.f k (((rd b 0)::(rd b 1)::(rd b 2)::(rd b 3)::(rd b 4)::(rd b 5)::(rd b 6)::(rd b 7)::(rd b 8)::(rd b 9)::(rd b 10)::(rd b 11)::(rd b 12)::(rd b 13)::(rd b 14)::(rd b 15)::(rd b 16)::(rd b 17)::(rd b 18)::(rd b 19)::(rd b 20)::(rd b 21)::(rd b 22)::(rd b 23)::(rd b 24)::(rd b 25)::[]) : List bc) a0).bind (fun xB=>if xB = true then (some (0)) else ((kW.f k (((rd a 0)::(rd a 1)::(rd a 2)::(rd a 3)::(rd a 4)::(rd a 5)::(rd a 6)::(rd a 7)::(rd a 8)::(rd a 9)::(rd a 10)::(rd a 11)::(rd a 12)::(rd a 13)::(rd a 14)::(rd a 15)::(rd a 16)::(rd a 17)::(rd a 18)::(rd a 19)::(rd a 20)::(rd a 21)::(rd a 22)::(rd a 23)::(rd a 24)::(rd a 25)::(rd a 26)::(rd a 27)::(rd a 28)::(rd a 29)::(rd a 30)::(rd a 31)::(rd a 32)::(rd a 33)::(rd a 34)::(rd a 35)::(rd a 36)::[]) : List bc) a0).bind (fun h=>if h = true then (some (2)) else (some (1))))))))))
theorem lS.ok {a0 : Int} {r : Int} (H : lS.f k a0 = some r) : fU Tryz.prog 117 #[aM a0] [] (ae r):=by
 refine aj Tryz.func117 rfl rfl ?_
 unfold lS.f at H
 refine aP (ad aW (h:=cR ?_))
 obtain⟨a,K,H⟩:=ac H
 refine o' (da [] [] (qN.ok K) ?_)
 obtain⟨c,J,H⟩:=ac H
 refine o' (da [] [] (qO.ok J) ?_)
 refine o' (cC (h:=fun p=>o' (cC (h:=fun q=>o' (oE (b:=p) (m:=0) (k:=0) (vs:=(List.flatMap eW ((rd a 0)::(rd a 1)::(rd a 2)::(rd a 3)::(rd a 4)::(rd a 5)::(rd a 6)::(rd a 7)::(rd a 8)::(rd a 9)::(rd a 10)::(rd a 11)::(rd a 12)::(rd a 13)::(rd a 14)::(rd a 15)::(rd a 16)::(rd a 17)::(rd a 18)::(rd a 19)::(rd a 20)::(rd a 21)::(rd a 22)::(rd a 23)::(rd a 24)::(rd a 25)::(rd a 26)::(rd a 27)::(rd a 28)::(rd a 29)::(rd a 30)::(rd a 31)::(rd a 32)::(rd a 33)::(rd a 34)::(rd a 35)::(rd a 36)::[]))) (cs':=(List.flatMap eW ((rd a 0)::(rd a 1)::(rd a 2)::(rd a 3)::(rd a 4)::(rd a 5)::(rd a 6)::(rd a 7)::(rd a 8)::(rd a 9)::(rd a 10)::(rd a 11)::(rd a 12)::(rd a 13)::(rd a 14)::(rd a 15)::(rd a 16)::(rd a 17)::(rd a 18)::(rd a 19)::(rd a 20)::(rd a 21)::(rd a 22)::(rd a 23)::(rd a 24)::(rd a 25)::(rd a 26)::(rd a 27)::(rd a 28)::(rd a 29)::(rd a 30)::(rd a 31)::(rd a 32)::(rd a 33)::(rd a 34)::(rd a 35)::(rd a 36)::[]))) rfl rfl rfl rfl rfl (by kernel_rfl) uy rfl (by kernel_rfl) (o' (oE (b:=q) (m:=0) (k:=1) (vs:=(List.flatMap eW ((rd c 0)::(rd c 1)::(rd c 2)::(rd c 3)::(rd c 4)::(rd c 5)::(rd c 6)::(rd c 7)::(rd c 8)::(rd c 9)::(rd c 10)::(rd c 11)::(rd c 12)::(rd c 13)::(rd c 14)::(rd c 15)::(rd c 16)::(rd c 17)::(rd c 18)::(rd c 19)::(rd c 20)::(rd c 21)::(rd c 22)::(rd c 23)::(rd c 24)::(rd c 25)::[]))) (cs':=(List.flatMap eW ((rd c 0)::(rd c 1)::(rd c 2)::(rd c 3)::(rd c 4)::(rd c 5)::(rd c 6)::(rd c 7)::(rd c 8)::(rd c 9)::(rd c 10)::(rd c 11)::(rd c 12)::(rd c 13)::(rd c 14)::(rd c 15)::(rd c 16)::(rd c 17)::(rd c 18)::(rd c 19)::(rd c 20)::(rd c 21)::(rd c 22)::(rd c 23)::(rd c 24)::(rd c 25)::[]))) rfl rfl rfl rfl rfl (by kernel_rfl) uz rfl (by kernel_rfl) (bA (ap (aT (aP (ad ar (h:=ad (cg rfl rfl) (h:=S' ar ?_))))))))))))))
 obtain⟨N,H,E⟩:=ac H
 refine dy 7 [(0,aM a0),(3,aI p),(4,aI q),(17,.bool N)] [aL p 139 (List.flatMap eW ((rd a 0)::(rd a 1)::(rd a 2)::(rd a 3)::(rd a 4)::(rd a 5)::(rd a 6)::(rd a 7)::(rd a 8)::(rd a 9)::(rd a 10)::(rd a 11)::(rd a 12)::(rd a 13)::(rd a 14)::(rd a 15)::(rd a 16)::(rd a 17)::(rd a 18)::(rd a 19)::(rd a 20)::(rd a 21)::(rd a 22)::(rd a 23)::(rd a 24)::(rd a 25)::(rd a 26)::(rd a 27)::(rd a 28)::(rd a 29)::(rd a 30)::(rd a 31)::(rd a 32)::(rd a 33)::(rd a 34)::(rd a 35)::(rd a 36)::[])),aL q 141 (List.flatMap eW ((rd c 0)::(rd c 1)::(rd c 2)::(rd c 3)::(rd c 4)::(rd c 5)::(rd c 6)::(rd c 7)::(rd c 8)::(rd c 9)::(rd c 10)::(rd c 11)::(rd c 12)::(rd c 13)::(rd c 14)::(rd c 15)::(rd c 16)::(rd c 17)::(rd c 18)::(rd c 19)::(rd c 20)::(rd c 21)::(rd c 22)::(rd c 23)::(rd c 24)::(rd c 25)::[]))] ?_ fun junk=>?_
 ·rcases bD H with⟨l,H⟩|⟨l,H⟩
  ·refine ct 3 (ai l) (fY (fY (ct 1 (ai l) (gJ (ai l) ?_))))
   have h:=aN H;subst h
   exact dQ [0,1]
  refine aZ (al l) ar (h:=aZ (al l) (dU rfl rfl) (h:=Y' (al l) ar ?_))
  rcases bD H with⟨s,H⟩|⟨s,H⟩
  ·refine aZ (ai s) ar (h:=aZ (ai s) (gF rfl rfl) (h:=fR (al l) (dB rfl (bR rfl (ai s) rfl) (fZ (al l) ?_))))
   have h:=aN H;subst h
   exact dQ [0,1]
  refine ct 2 (al s) (fR (al l) (dB rfl (bL rfl (al s) rfl) (fZ (al l) ?_)))
  have h:=aN H;subst h
  exact dQ [0,1]
 replace H:=E
 refine S' ar ?_
 obtain⟨L,B,H⟩:=bi H
 refine dy 3 [(0,aM a0),(3,aI p),(4,aI q),(21,.bool L)] [aL p 139 (List.flatMap eW ((rd a 0)::(rd a 1)::(rd a 2)::(rd a 3)::(rd a 4)::(rd a 5)::(rd a 6)::(rd a 7)::(rd a 8)::(rd a 9)::(rd a 10)::(rd a 11)::(rd a 12)::(rd a 13)::(rd a 14)::(rd a 15)::(rd a 16)::(rd a 17)::(rd a 18)::(rd a 19)::(rd a 20)::(rd a 21)::(rd a 22)::(rd a 23)::(rd a 24)::(rd a 25)::(rd a 26)::(rd a 27)::(rd a 28)::(rd a 29)::(rd a 30)::(rd a 31)::(rd a 32)::(rd a 33)::(rd a 34)::(rd a 35)::(rd a 36)::[])),aL q 141 (List.flatMap eW ((rd c 0)::(rd c 1)::(rd c 2)::(rd c 3)::(rd c 4)::(rd c 5)::(rd c 6)::(rd c 7)::(rd c 8)::(rd c 9)::(rd c 10)::(rd c 11)::(rd c 12)::(rd c 13)::(rd c 14)::(rd c 15)::(rd c 16)::(rd c 17)::(rd c 18)::(rd c 19)::(rd c 20)::(rd c 21)::(rd c 22)::(rd c 23)::(rd c 24)::(rd c 25)::[]))] ?_ fun junk=>?_
 ·by_cases j : N = true
  ·refine ct 2 j (bY j (h:=ah ?_))
   have x_:=ik B j;exact bH [0,1]
  refine aZ (aK j) ar (h:=aZ (aK j) (eN rfl rfl) (h:=ca (aK j) (h:=ah ?_)))
  have x_:=ij B ((aK j));exact bH [0,1]
 refine S' ar ?_
 obtain⟨M,H,D⟩:=ac H
 refine dy 7 [(0,aM a0),(3,aI p),(4,aI q),(29,.bool M)] [aL p 139 (List.flatMap eW ((rd a 0)::(rd a 1)::(rd a 2)::(rd a 3)::(rd a 4)::(rd a 5)::(rd a 6)::(rd a 7)::(rd a 8)::(rd a 9)::(rd a 10)::(rd a 11)::(rd a 12)::(rd a 13)::(rd a 14)::(rd a 15)::(rd a 16)::(rd a 17)::(rd a 18)::(rd a 19)::(rd a 20)::(rd a 21)::(rd a 22)::(rd a 23)::(rd a 24)::(rd a 25)::(rd a 26)::(rd a 27)::(rd a 28)::(rd a 29)::(rd a 30)::(rd a 31)::(rd a 32)::(rd a 33)::(rd a 34)::(rd a 35)::(rd a 36)::[])),aL q 141 (List.flatMap eW ((rd c 0)::(rd c 1)::(rd c 2)::(rd c 3)::(rd c 4)::(rd c 5)::(rd c 6)::(rd c 7)::(rd c 8)::(rd c 9)::(rd c 10)::(rd c 11)::(rd c 12)::(rd c 13)::(rd c 14)::(rd c 15)::(rd c 16)::(rd c 17)::(rd c 18)::(rd c 19)::(rd c 20)::(rd c 21)::(rd c 22)::(rd c 23)::(rd c 24)::(rd c 25)::[]))] ?_ fun junk=>?_
 ·rcases bD H with⟨d,H⟩|⟨d,H⟩
  ·refine ct 3 d (fY (fY (ct 1 d (gJ d ?_))))
   have h:=aN H;subst h
   exact dQ [0,1]
  refine aZ (aK d) ar (h:=aZ (aK d) (dU rfl rfl) (h:=Y' (aK d) ar ?_))
  rcases bD H with⟨o,H⟩|⟨o,H⟩
  ·refine aZ (ai o) ar (h:=aZ (ai o) (gF rfl rfl) (h:=fR (aK d) (dB rfl (bR rfl (ai o) rfl) (fZ (aK d) ?_))))
   have h:=aN H;subst h
   exact dQ [0,1]
  refine ct 2 (al o) (fR (aK d) (dB rfl (bL rfl (al o) rfl) (fZ (aK d) ?_)))
  have h:=aN H;subst h
  exact dQ [0,1]
 replace H:=D
 refine ad aW (h:=bA ?_)
 rcases bD H with⟨u,H⟩|⟨u,H⟩
 ·refine aD rfl u (aP (ad aW (h:=cD (aY (aF ?_)))))
  have h:=aN H;subst h
  exact dJ [] ⟨rfl,rfl⟩
 refine aE rfl u (aP (o' (OA.ghost (Gh.blkRo (kd:=vp) (k:=1) (xs:=(((rd c 0)::(rd c 1)::(rd c 2)::(rd c 3)::(rd c 4)::(rd c 5)::(rd c 6)::(rd c 7)::(rd c 8)::(rd c 9)::(rd c 10)::(rd c 11)::(rd c 12)::(rd c 13)::(rd c 14)::(rd c 15)::(rd c 16)::(rd c 17)::(rd c 18)::(rd c 19)::(rd c 20)::(rd c 21)::(rd c 22)::(rd c 23)::(rd c 24)::(rd c 25)::[]) : List bc)) rfl (dR eW (fun _ _=>rfl) (by kernel_rfl)) rfl) (dB (v:=.slice (some ⟨q,0,none⟩) 26 26) rfl (nO Tryz.underlying141 qz rfl) (S' ar ?_)))))
 obtain⟨xB,I,H⟩:=ac H
 refine o' (da [1] [0,1] (kW.ok (A0:=some ⟨q,0,none⟩) (c0:=26) I) ?_)
 refine ad aW (h:=bA ?_)
 rcases bD H with⟨y,H⟩|⟨y,H⟩
 ·refine aD rfl y (aP (ad aW (h:=cD (aY (aF ?_)))))
  have h:=aN H;subst h
  exact dJ [] ⟨rfl,rfl⟩
 refine aE rfl y (aP (o' (OA.ghost (Gh.blkRo (kd:=vp) (k:=0) (xs:=(((rd a 0)::(rd a 1)::(rd a 2)::(rd a 3)::(rd a 4)::(rd a 5)::(rd a 6)::(rd a 7)::(rd a 8)::(rd a 9)::(rd a 10)::(rd a 11)::(rd a 12)::(rd a 13)::(rd a 14)::(rd a 15)::(rd a 16)::(rd a 17)::(rd a 18)::(rd a 19)::(rd a 20)::(rd a 21)::(rd a 22)::(rd a 23)::(rd a 24)::(rd a 25)::(rd a 26)::(rd a 27)::(rd a 28)::(rd a 29)::(rd a 30)::(rd a 31)::(rd a 32)::(rd a 33)::(rd a 34)::(rd a 35)::(rd a 36)::[]) : List bc)) rfl (dR eW (fun _ _=>rfl) (by kernel_rfl)) rfl) (dB (v:=.slice (some ⟨p,0,none⟩) 37 37) rfl (nO Tryz.underlying139 qz rfl) (S' ar ?_)))))
 obtain⟨O,F,H⟩:=ac H
 refine o' (da [0] [0,1] (kW.ok (A0:=some ⟨p,0,none⟩) (c0:=37) F) ?_)
 refine ad aW (h:=bA ?_)
 rcases bD H with⟨z,H⟩|⟨z,H⟩
 ·refine aD rfl z (aP (ad aW (h:=cD (aY (aF ?_)))))
  have h:=aN H;subst h
  exact dJ [] ⟨rfl,rfl⟩
 refine aE rfl z (ao (aG (aa (aP (ad aW (h:=cD ?_))))))
 have h:=aN H;subst h
 exact dJ [] ⟨rfl,rfl⟩


def kV.l0 (a0 : ba) : Nat → Bool → Int → Option (Out (Bool) (Unit))
  | 0,_,_=>none
  | k + 1,b,a=>if a < 3 then (if 0 ≤ a∧a < (3 : Int) then (lt (rd ([a0.f1.f0,a0.f1.f1,a0.f1.f2] : List Int) a) fun c=>if c = 0 then (kV.l0 a0 k true (i64.wrap (a + 1))) else ((if b = true then (some true) else ((lS.f k c).bind (fun h=>some (decide (h ≠ 0)))) : Option Bool).bind (fun d=>if d = true then (some (Out.ret (false))) else (kV.l0 a0 k b (i64.wrap (a + 1)))))) else none) else (some (Out.go ()))
def kV.f (k : Nat) (a0 : ba) : Option (Bool):=(qb.f a0.f3).bind (fun d=>if (!d) = true then (some (false)) else (if a0.f2 = 0 then (lt ((decide (a0.f0 = 0)) && (decide (a0.f1 = (fX.mk 0 0 0)))) fun c=>some (c)) else ((if a0.f2 > 2 then (some true) else ((lS.f k a0.f0).bind (fun a=>some (decide (a ≠ (i64.wrap (a0.f2)))))) : Option (Bool)).bind (fun j=>if j = true then (some (false)) else ((kV.l0 a0 k false 0 : Option (Out (Bool) (Unit))).bind (fun b=>Out.el b (fun r_=>some r_) (fun h=>some (true))))))))
theorem kV.ok {a0 : ba} {r : Bool} (H : kV.f k a0 = some r) : fU Tryz.prog 112 #[.agg (bW a0).toArray] [] (.bool r):=by
 refine aj Tryz.func112 rfl rfl ?_
 unfold kV.f at H
 refine aP (o' (bO (h:=fun z=>ad aW (h:=eA (ad aA (h:=l' (cx z 5 0 (bF a0.f3)) ?_))))))
 obtain⟨r3,S,H⟩:=ac H
 refine o' (da [] [0] (qb.ok S) ?_)
 refine ad (bU rfl) (h:=bA ?_)
 rcases bD H with⟨Z,H⟩|⟨Z,H⟩
 ·refine aD rfl Z (aP (ad aW (h:=cA ?_)))
  have h:=aN H;subst h
  exact dJ [] ⟨rfl,rfl⟩
 refine aE rfl Z (ao (aa (ap (aP (ad aA (h:=bq (aO 0) (h:=ad (bk rfl rfl) (h:=bA ?_))))))))
 rcases bD H with⟨h5,H⟩|⟨h5,H⟩
 ·refine aC rfl h5 (aP (ad aA (h:=bq (aO 0) (h:=ad (bk rfl rfl) (h:=S' ar ?_)))))
  obtain⟨q6,N,H⟩:=bi H
  refine dy 5 [(21,.bool q6)] [] ?_ fun junk=>?_
  ·by_cases l : a0.f0 = 0
   ·refine aZ (ai l) aA (h:=cn (ai l) (cx z 1 0 [aM a0.f1.f0,aM a0.f1.f1,aM a0.f1.f2]) (h:=gS (ai l) (.agg #[aM 0,aM 0,aM 0]) gG (h:=gS (ai l) (.bool (decide (a0.f1 = (fX.mk 0 0 0)))) (kC (xs:=[aM a0.f1.f0,aM a0.f1.f1,aM a0.f1.f2]) (ys:=[aM 0,aM 0,aM 0]) (r:=((a0.f1.f0 == 0) && ((a0.f1.f1 == 0) && ((a0.f1.f2 == 0) && true)))) (p:=a0.f1 = (fX.mk 0 0 0)) vY rfl rfl (by kernel_rfl) (vZ (x:=a0.f1) (y:=(fX.mk 0 0 0)))) (h:=bY (ai l) (h:=ah ?_)))))
    have x_:=fq N ((ai l));exact bH []
   refine ct 4 (al l) (ca (al l) (h:=ah ?_))
   have x_:=fp N ((al l));exact bH []
  refine ad aW (h:=cA ?_)
  have h:=aN H;subst h
  exact dJ [] ⟨rfl,rfl⟩
 refine aB rfl h5 (ao (aa (ap (ap ?_))))
 obtain⟨t9,H,M⟩:=ac H
 refine bK (St [(1,aI z),(33,.bool t9)] [aL z 55 (bW a0)]) ?_ ?_
 ·refine fg (dC 0 12) [0] [] fun _ _ _ _ _ sH dd pk=>?_
  refine bf 0 rfl sH aA (h:=bN 1 rfl sH (aO 0) (h:=bf 2 rfl sH (eN rfl rfl) (h:=T' 3 rfl sH ar ?_)))
  rcases bD H with⟨a,H⟩|⟨a,H⟩
  ·refine bM 4 rfl (ai a) (bM 5 rfl (ai a) (bM 6 rfl (ai a) (bM 7 rfl (ai a) (bM 8 rfl (ai a) (bM 9 rfl (ai a) (bM 10 rfl (ai a) (bN 11 rfl sH (VR.ofV (bR rfl (ai a) rfl)) (h:=aV dd sH (aH (by kernel_rfl) ?_)))))))))
   have h:=aN H;subst h
   exact bH [0]
  refine cU 4 rfl (al a) sH aA (h:=cH 5 rfl (al a) sH (aO 0) (h:=cU 7 rfl (al a) sH aA (h:=cH 8 rfl (al a) sH (aO 0) (h:=BM (ae (i64.wrap (a0.f2))) 9 rfl (al a) sH (jS (T:=5) (by kernel_rfl) Tryz.underlying3 rfl) ?_))))
  obtain⟨a2,O,H⟩:=ac H
  refine xb 6 rfl dd (al a) (da [] [] (lS.ok O) ?_)
  refine cU 10 rfl (al a) sH (dt rfl rfl) (h:=bN 11 rfl sH (VR.ofV (bL rfl (al a) rfl)) (h:=aV dd sH (aH (by kernel_rfl) ?_)))
  have h:=aN H;subst h
  exact bH [0]
 rintro e ds As B
 clear H
 have H:=M
 clear M
 refine aa (SA.of_St B fun junk=>?_)
 rcases bD H with⟨o,H⟩|⟨o,H⟩
 ·refine aD rfl o (aP (ad aW (h:=cA ?_)))
  have h:=aN H;subst h
  exact dJ [] ⟨rfl,rfl⟩
 refine aE rfl o (ao (aa (aP (ad aW (h:=eA (ad aA (h:=bq (cx z 1 0 [aM a0.f1.f0,aM a0.f1.f1,aM a0.f1.f2]) (h:=ad ar (h:=bA ?_)))))))))
 obtain⟨J,H,d⟩:=ac H
 refine bK (fun e ds As=>∃ (I : Unit),J = Out.go I∧St [] [] e ds As) ?_ ?_
 ·refine aT (cl (fun k_ e ds As=>∃ (j : Bool) (b : Int),kV.l0 a0 k_ j b = some J∧St [(3,.bool j),(35,.agg #[aM a0.f1.f0,aM a0.f1.f1,aM a0.f1.f2]),(36,ae b)] [] e ds As) (k:=k) ⟨_,_,H,jQ []⟩ ?_)
  clear H
  rintro m e ds As ⟨j,b,H,D⟩
  obtain _ | m:=m
  ·cases H
  rw [kV.l0] at H
  refine SA.of_St D fun junk=>aP (ad (cg rfl rfl) (h:=bA (ap ?_)))
  rcases bD H with⟨q,H⟩|⟨q,H⟩
  ·refine aC rfl q (ao (aa (ap (aT (aP ?_)))))
   obtain⟨⟨U,Y⟩,H⟩:=aS H
   refine s' (aM (rd ([a0.f1.f0,a0.f1.f1,a0.f1.f2] : List Int) b)) (oG (kd:=(Kd.int .i32)) (i:=b) (cs:=[aM a0.f1.f0,aM a0.f1.f1,aM a0.f1.f2]) (xs:=([a0.f1.f0,a0.f1.f1,a0.f1.f2] : List Int)) (v:=aM (rd ([a0.f1.f0,a0.f1.f1,a0.f1.f2] : List Int) b)) Tryz.underlying53 jg Tryz.underlying21 rfl rfl rfl (dR (fun x_ : Int=>[Value.int .i32 x_]) (fun _ _=>rfl) (by kernel_rfl) _) rfl rfl U Y (fun _ h_=>by rw [h_]; rfl)) ?_
   obtain⟨F,L,H⟩:=bi H
   refine bT (aM F) (bu (v:=aM F) (congrArg (Value.int .i32) L.symm)) (h:=bA (aT (aP (ad ar (h:=ad (bk rfl rfl) (h:=ad aW (h:=bA ?_)))))))
   rcases bD H with⟨s,H⟩|⟨s,H⟩
   ·refine aC rfl s (ak (ad aW (h:=ah (aG (aG (aa (ak (ad (bX rfl rfl) (h:=ad ar (h:=ah ?_))))))))))
    exact aa ⟨m,Nat.lt_succ_self _,_,_,H,eb []⟩
   refine aB rfl s (aP (ad ar (h:=S' ar ?_)))
   obtain⟨a1,H,K⟩:=ac H
   refine dy 4 [(3,.bool j),(35,.agg #[aM a0.f1.f0,aM a0.f1.f1,aM a0.f1.f2]),(36,ae b),(48,.bool a1)] [] ?_ fun junk=>?_
   ·rcases bD H with⟨c,H⟩|⟨c,H⟩
    ·refine ct 3 c (gJ c ?_)
     have h:=aN H;subst h
     exact dQ []
    refine Y' (aK c) ar ?_
    obtain⟨a3,R,H⟩:=ac H
    refine fR (aK c) (da [] [] (lS.ok R) ?_)
    refine aZ (aK c) (dt rfl rfl) (h:=fZ (aK c) ?_)
    have h:=aN H;subst h
    exact dQ []
   replace H:=K
   refine ad aW (h:=bA ?_)
   rcases bD H with⟨u,H⟩|⟨u,H⟩
   ·refine aD rfl u (aP (ad aW (h:=cD (aY (aY (aF (aF (aY (aF (aF ?_))))))))))
    have h:=aN H;subst h
    have hb_:=dz d
    have hr_:=Option.some.inj hb_
    clear hb_
    subst hr_
    exact dJ [] ⟨rfl,rfl⟩
   refine aE rfl u (ao (aG (aG (aa (ak (ad (bX rfl rfl) (h:=ad ar (h:=ah ?_))))))))
   exact aa ⟨m,Nat.lt_succ_self _,_,_,H,eb []⟩
  refine aB rfl q (ci (aX (aX (cj ?_))))
  have h:=aN H;subst h
  exact aa ⟨(),rfl,eb []⟩
 rintro e ds As ⟨I,ht,E⟩
 clear H
 subst ht
 replace d:=fi d
 have H:=d
 clear d
 refine aa (SA.of_St E fun junk=>aP (ad aW (h:=cD ?_)))
 have h:=aN H;subst h
 exact dJ [] ⟨rfl,rfl⟩

end Go.Proofs.YtckilbegmbaeeaaGreat.Z7

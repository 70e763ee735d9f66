/- What functions compute, and that they do: 17, 33, 34, 35, 62f63x_1_, 62f86x_1_, 62f88xx_1_, 63Lb_0_, 64Lb_0_, 86Lb_0_, 87Lb_0_, 88Lb_0_, 89Lb_0_. -/
import Derived.Test.YtckilbegmbaeeaaGreatZ311
namespace Go.Proofs.YtckilbegmbaeeaaGreat.Z3
open Go Go.RowKit Go.Proofs.YtckilbegmbaeeaaGreat.SL
set_option linter.unusedVariables false
set_option maxHeartbeats 20000000
set_option maxRecDepth 100000
set_option linter.unusedSimpArgs false
attribute [local irreducible] IntKind.wrap cC dO eX gp gl lH fU cN gm rd sub bytesOf eG cL
variable {ba gV bJ dm nS af ay ar au k : Nat}
variable {ag az aw av : Option Addr}
def xj.f (k : Nat) (a0 : aG) (a1 : Int) : Option (aG × Int):=(ir.f k a0 a1).bind (fun a=>some ((a.1,a.2)))
theorem xj.ok {a0 : aG} {a1 : Int} {r : aG × Int} (H : xj.f k a0 a1 = some r) : df Tryz.prog 33 #[.agg (al a0 ag af az ay aw ar av au).toArray,ae a1] (eK a0 ag af az ay aw ar av au) (fun v B=>∃ aP aO bA bv bq bp bB bw,v = .tuple #[.agg (al r.1 aP aO bA bv bq bp bB bw).toArray,ae r.2]∧B = (aS r.1 aP aO bA bv bq bp bB bw)):=by
 refine ai Tryz.func33 rfl rfl ?_
 unfold xj.f at H
 refine aQ (o' (bN (h:=fun y=>o' (bN (h:=fun p=>o' (cy (h:=fun u=>ad aV (h:=cV (bD (ck 4) (h:=s' (.func (.func 84) #[] #[aK p]) (dy (us:=[aK p]) rfl) ?_))))))))))
 obtain⟨q,s,H⟩:=ac H
 refine o' (dN [0,1,2,3,5] [0,1,2,3,4,6] (ir.ok (bJ:=p) s) fun a b c d j l m o=>?_)
 refine ad cg (h:=ad cg (h:=o' (bg u 0 10 (al q.1 a b c d j l m o) (h:=ad aV (h:=cF ?_)))))
 have h:=aN H;subst h
 exact dt [.cell 4 34,.tmp 5] [0,1,2,3] ⟨a,b,c,d,j,l,m,o,rfl,rfl⟩ ⟨cR 10,cP,trivial⟩


def iJ.f (k : Nat) (p0 : aG) (a1 : Int) : Option (aG):=(cT.f k p0 p0.f5 p0.f6 a1 p0.f4).bind (fun a=>some (({ a with f3:=false })))
theorem iJ.ok {p0 : aG} {a1 : Int} {r : aG} (H : iJ.f k p0 a1 = some r) : df Tryz.prog 87 #[.agg #[.pointer (some ⟨ba,0,none⟩)],ae a1] (cK ba p0 ag af az ay aw ar av au) (fun v B=>∃ P0_0_ q0_0_ P0_1_ q0_1_ P0_2_ q0_2_ P0_3_ q0_3_,v = .tuple #[]∧B = (cK ba r P0_0_ q0_0_ P0_1_ q0_1_ P0_2_ q0_2_ P0_3_ q0_3_)):=by
 refine ai Tryz.func87 rfl rfl ?_
 unfold iJ.f at H
 refine aQ (o' (bN (h:=fun D=>bC (ao (bj 1 fun y=>bj 2 fun z=>bj 3 fun s=>bj 4 fun u=>?_)))))
 refine fk (dG 0 20) [0,5] (dG 1 4) fun _ _ _ _ _ sH dd pk=>?_
 refine bf 0 rfl sH aE (h:=bT 1 rfl sH (aT 1) (h:=bf 2 rfl sH cz (h:=bf 3 rfl sH aE (h:=bf 4 rfl sH aE (h:=bT 5 rfl sH (aT 1) (h:=bf 6 rfl sH cz (h:=bf 7 rfl sH aE (h:=bT 8 rfl sH (aT 0) (h:=T' 9 rfl sH aE ?_)))))))))
 refine bT 10 rfl sH (aT 1) (h:=bf 11 rfl sH cz (h:=bf 12 rfl sH aE (h:=bT 13 rfl sH (aT 0) (h:=bf 14 rfl sH ax (h:=bf 15 rfl sH aE (h:=bT 16 rfl sH (aT 1) (h:=bf 17 rfl sH cz (h:=bf 18 rfl sH aE (h:=r' 19 rfl sH (cG ba 6 0 (bG p0.f4)) ?_)))))))))
 refine aW dd sH ?_
 obtain⟨q,a,H⟩:=ac H
 refine ey 20 rfl (dN [0,2,3,4,5] [1] (cT.ok (ba:=ba) a) fun b c d j l m o p=>?_)
 refine aH (by kernel_rfl) (aa (ah (ad aE (h:=bD (aT 5) (h:=ad cz (h:=ad aE (h:=o' (cH 0 [.bool false] (h:=(aj ?_))))))))))
 have h:=aN H;subst h
 exact fD [0,1,2,3,4] ⟨b,c,d,j,l,m,o,p,rfl,rfl⟩


def kf.f (k : Nat) (p0 : aG) (p1 : Int) : Option (aG):=(iJ.f k p0 p1).bind (fun a=>some (a))
theorem kf.ok {p0 : aG} {p1 : Int} {r : aG} (H : kf.f k p0 p1 = some r) : df Tryz.prog 86 #[.agg #[.pointer (some ⟨ba,0,none⟩)],.pointer (some ⟨gV,0,none⟩)] (aL ba 34 (al p0 ag af az ay aw ar av au)::(aS p0 ag af az ay aw ar av au++[aL gV 3 [ae p1]])) (fun v B=>∃ P0_0_ q0_0_ P0_1_ q0_1_ P0_2_ q0_2_ P0_3_ q0_3_,v = .tuple #[]∧B = (aL ba 34 (al r P0_0_ q0_0_ P0_1_ q0_1_ P0_2_ q0_2_ P0_3_ q0_3_)::(aS r P0_0_ q0_0_ P0_1_ q0_1_ P0_2_ q0_2_ P0_3_ q0_3_++[aL gV 3 [ae p1]]))):=by
 refine ai Tryz.func86 rfl rfl ?_
 unfold kf.f at H
 refine aQ (o' (bN (h:=fun q=>bC (bj 1 fun z=>bj 2 fun s=>bj 3 fun u=>bj 4 fun y=>ah (bD (cG q 0 6 [aK ba]) (h:=l' (aT 5) ?_))))))
 obtain⟨D,a,H⟩:=ac H
 refine o' (dN [0,1,2,3,4] [5,6] (iJ.ok (ba:=ba) a) fun b c d j l m o p=>?_)
 refine aj ?_
 have h:=aN H;subst h
 exact fD [0,1,2,3,4,5] ⟨b,c,d,j,l,m,o,p,rfl,rfl⟩


def ij.f (k : Nat) (a0 : aG) (p2000 : Int) : Option (aG × Int):=(ei.f k a0).bind (fun a=>if (!a) = true then (some (((aG.mk (bF.mk 0 0 ([] : (List aZ))) 0 0 false (cA.mk 0 0 false false false false false false false false) 0 0 ([] : (List Int)) false false false false false false (dq.mk 0 0 false false (cA.mk 0 0 false false false false false false false false)) false (bF.mk 0 0 ([] : (List aZ))) ([] : (List Int))),2))) else ((lL.f a0).bind (fun b=>(kf.f k b p2000).bind (fun c=>some ((c,0))))))
theorem ij.ok {a0 : aG} {p2000 : Int} {r : aG × Int} (H : ij.f k a0 p2000 = some r) : df Tryz.prog 62 #[.agg (al a0 ag af az ay aw ar av au).toArray,.func (.func 86) #[] #[.pointer (some ⟨bJ,0,none⟩)]] (eK a0 ag af az ay aw ar av au++[aL bJ 3 [ae p2000]]) (fun v B=>∃ aP aO bA bv bq bp bB bw,v = .tuple #[.agg (al r.1 aP aO bA bv bq bp bB bw).toArray,ae r.2]∧B = (aS r.1 aP aO bA bv bq bp bB bw++[aL bJ 3 [ae p2000]])):=by
 refine ai Tryz.func62 rfl rfl ?_
 unfold ij.f at H
 refine aQ (o' (bN (h:=fun b=>o' (cy (h:=fun s=>ad aV (h:=eJ (l' (ck 5) ?_)))))))
 obtain⟨R,u,H⟩:=ac H
 refine o' (da [0,1,2,3] [0,1,2,3,4,5,6] (rM.ok u) ?_)
 refine ad (ca rfl) (h:=bC ?_)
 rcases bH H with⟨a,H⟩|⟨a,H⟩
 ·refine aC rfl a (aQ (bO (.agg (al cx none 0 none 0 none 0 none 0).toArray) dA (h:=o' (bg s 0 6 (al cx none 0 none 0 none 0 none 0) (h:=ad aV (h:=cE ?_))))))
  have h:=aN H;subst h
  exact lT [.cell 4 34,.tmp 5] ((Gh.nilBuf bE 55).trans ((Gh.nilBuf (Kd.int .i64) 3).trans ((Gh.nilBuf bE 55).trans ((Gh.nilBuf (Kd.int .i32) 21).trans (eY [7,8,9,10,4]))))) ⟨none,0,none,0,none,0,none,0,rfl,rfl⟩ ⟨cR 6,cP,trivial⟩
 refine aD rfl a (ap (aa (aQ (l' (ck 5) ?_))))
 obtain⟨y,z,H⟩:=ac H
 refine o' (dN [0,1,2,3] [0,1,2,3,4,5,6] (lL.ok z) fun D E F I J K L M=>?_)
 refine o' (bg b 0 9 (al y D E F I J K L M) (h:=cV (ad ax (h:=s' (.agg #[aK b]) dA ?_))))
 obtain⟨N,O,H⟩:=ac H
 refine o' (rn [9,0,1,2,3,8] [4,5,6,7,10] (je (vs:=[.agg #[aK b]]) (cap:=[aK bJ]) rfl Tryz.func86 zU rfl rfl) (kf.ok (ba:=b) (gV:=bJ) O) ?_)
 rintro _ _⟨c,d,j,l,m,o,p,q,rfl,rfl⟩
 refine cV (bD (ck 0) (h:=o' (bg s 0 10 (al N c d j l m o p q) (h:=ad aV (h:=cF ?_)))))
 have h:=aN H;subst h
 exact dt [.cell 4 34,.tmp 5] [1,2,3,4,5] ⟨c,d,j,l,m,o,p,q,rfl,rfl⟩ ⟨cR 10,cP,trivial⟩


def wg.f (k : Nat) (a0 : aG) (a1 : Int) : Option (aG × Int):=(ij.f k a0 a1).bind (fun a=>some ((a.1,a.2)))
theorem wg.ok {a0 : aG} {a1 : Int} {r : aG × Int} (H : wg.f k a0 a1 = some r) : df Tryz.prog 34 #[.agg (al a0 ag af az ay aw ar av au).toArray,ae a1] (eK a0 ag af az ay aw ar av au) (fun v B=>∃ aP aO bA bv bq bp bB bw,v = .tuple #[.agg (al r.1 aP aO bA bv bq bp bB bw).toArray,ae r.2]∧B = (aS r.1 aP aO bA bv bq bp bB bw)):=by
 refine ai Tryz.func34 rfl rfl ?_
 unfold wg.f at H
 refine aQ (o' (bN (h:=fun y=>o' (bN (h:=fun p=>o' (cy (h:=fun u=>ad aV (h:=cV (bD (ck 4) (h:=s' (.func (.func 86) #[] #[aK p]) (dy (us:=[aK p]) rfl) ?_))))))))))
 obtain⟨q,s,H⟩:=ac H
 refine o' (dN [0,1,2,3,5] [0,1,2,3,4,6] (ij.ok (bJ:=p) s) fun a b c d j l m o=>?_)
 refine ad cg (h:=ad cg (h:=o' (bg u 0 10 (al q.1 a b c d j l m o) (h:=ad aV (h:=cF ?_)))))
 have h:=aN H;subst h
 exact dt [.cell 4 34,.tmp 5] [0,1,2,3] ⟨a,b,c,d,j,l,m,o,rfl,rfl⟩ ⟨cR 10,cP,trivial⟩


def iF.f (p0 : aG) (a1 : Int) (a2 : Int) : Option (aG):=lt ((decide (a1 < 0)) || (decide (a1 ≥ a2))) fun c=>lt (c || (decide (a2 ≥ p0.f0.f1))) fun b=>if b = true then (some (p0)) else ((fw.f ({ p0 with f5:=a1,f6:=a2 }) 0 0).bind (fun a=>some (a)))
theorem iF.ok {p0 : aG} {a1 : Int} {a2 : Int} {r : aG} (H : iF.f p0 a1 a2 = some r) : df Tryz.prog 89 #[.agg #[.pointer (some ⟨ba,0,none⟩)],ae a1,ae a2] (cK ba p0 ag af az ay aw ar av au) (fun v B=>∃ P0_0_ q0_0_ P0_1_ q0_1_ P0_2_ q0_2_ P0_3_ q0_3_,v = .tuple #[]∧B = (cK ba r P0_0_ q0_0_ P0_1_ q0_1_ P0_2_ q0_2_ P0_3_ q0_3_)):=by
 refine ai Tryz.func89 rfl rfl ?_
 unfold iF.f at H
 refine aQ (o' (bN (h:=fun c=>eJ (ad ax (h:=ad (cn rfl rfl) (h:=S' ax ?_))))))
 obtain⟨F,m,H⟩:=br H
 refine eg 4 [(1,ae a1),(2,ae a2),(3,aK c),(12,.bool F)] (aL ba 34 (al p0 ag af az ay aw ar av au)::(aS p0 ag af az ay aw ar av au++[aL c 84 [aK ba]])) ?_ fun junk=>?_
 ·by_cases b : a1 < 0
  ·refine cI 3 (ak b) (cq (ak b) (h:=aj ?_))
   have x_:=jL m ((ak b));exact bM [0,1,2,3,4,5]
  refine bn (am b) ax (h:=bn (am b) ax (h:=bn (am b) (dI rfl rfl) (h:=cv (am b) (h:=aj ?_))))
  have x_:=jN m ((am b));exact bM [0,1,2,3,4,5]
 refine S' ax ?_
 obtain⟨I,d,H⟩:=br H
 refine cD 9 (St [(1,ae a1),(2,ae a2),(3,aK c),(22,.bool I)] (aL ba 34 (al p0 ag af az ay aw ar av au)::(aS p0 ag af az ay aw ar av au++[aL c 84 [aK ba]]))) ?_ ?_
 ·by_cases a : F = true
  ·refine cI 8 a (cq a (h:=aj ?_))
   have x_:=jL d a;exact bM [0,1,2,3,4,5]
  refine bn (aX a) ax (h:=bn (aX a) aE (h:=dc (aX a) (aT 5) (h:=bn (aX a) cz (h:=bn (aX a) aE (h:=bn (aX a) aE (h:=dc (aX a) (aT 0) (h:=bn (aX a) (dI rfl rfl) (h:=cv (aX a) (h:=aj ?_)))))))))
  have x_:=jN d ((aX a));exact bM [0,1,2,3,4,5]
 rintro e ds As l
 refine bC (SA.of_St l fun junk=>?_)
 rcases bH H with⟨j,H⟩|⟨j,H⟩
 ·refine aC rfl j (fa (aI ?_))
  have h:=aN H;subst h
  exact kT (cK ba p0 ag af az ay aw ar av au) rfl (eY [0,1,2,3,4]) ⟨ag,af,az,ay,aw,ar,av,au,rfl,rfl⟩
 refine aD rfl j (ap (aa (ao ?_)))
 refine fk [0,1,2,3,4,5,6,7,9,10] [5] (dG 0 5) fun _ _ _ _ _ sH dd pk=>?_
 refine bf 0 rfl sH aE (h:=bT 1 rfl sH (aT 0) (h:=bf 2 rfl sH aE (h:=bT 3 rfl sH (aT 0) (h:=bf 4 rfl sH ax (h:=bf 5 rfl sH ax (h:=bf 6 rfl sH cz (h:=bf 7 rfl sH aE (h:=dx 8 rfl dd (cH 0 [ae a1] (h:=(T' 9 rfl sH cz ?_)))))))))))
 refine bf 10 rfl sH aE (h:=dx 11 rfl dd (cH 0 [ae a2] (h:=(aW dd sH (aH (by kernel_rfl) (aa (bj 2 fun J=>bj 3 fun K=>bj 4 fun L=>bj 5 fun M=>ah ?_)))))))
 refine l' (cG c 0 0 [aK ba]) ?_
 obtain⟨N,o,H⟩:=ac H
 refine o' (dN [1,2,3,4,5] [0] (fw.ok (ba:=ba) o) fun p q s u y z D E=>?_)
 refine aj ?_
 have h:=aN H;subst h
 exact fD [0,1,2,3,4] ⟨p,q,s,u,y,z,D,E,rfl,rfl⟩


def kr.f (p0 : aG) (p1 : Int) (p2 : Int) : Option (aG):=(iF.f p0 p1 p2).bind (fun a=>some (a))
theorem kr.ok {p0 : aG} {p1 : Int} {p2 : Int} {r : aG} (H : kr.f p0 p1 p2 = some r) : df Tryz.prog 88 #[.agg #[.pointer (some ⟨ba,0,none⟩)],.pointer (some ⟨gV,0,none⟩),.pointer (some ⟨nS,0,none⟩)] (aL ba 34 (al p0 ag af az ay aw ar av au)::(aS p0 ag af az ay aw ar av au++[aL gV 3 [ae p1],aL nS 3 [ae p2]])) (fun v B=>∃ P0_0_ q0_0_ P0_1_ q0_1_ P0_2_ q0_2_ P0_3_ q0_3_,v = .tuple #[]∧B = (aL ba 34 (al r P0_0_ q0_0_ P0_1_ q0_1_ P0_2_ q0_2_ P0_3_ q0_3_)::(aS r P0_0_ q0_0_ P0_1_ q0_1_ P0_2_ q0_2_ P0_3_ q0_3_++[aL gV 3 [ae p1],aL nS 3 [ae p2]]))):=by
 refine ai Tryz.func88 rfl rfl ?_
 unfold kr.f at H
 refine aQ (o' (bN (h:=fun q=>bC (bj 1 fun s=>bj 2 fun u=>bj 3 fun y=>bj 4 fun z=>ah (bD (cG q 0 7 [aK ba]) (h:=l' (aT 5) ?_))))))
 refine l' (aT 6) ?_
 obtain⟨D,a,H⟩:=ac H
 refine o' (dN [0,1,2,3,4] [5,6,7] (iF.ok (ba:=ba) a) fun b c d j l m o p=>?_)
 refine aj ?_
 have h:=aN H;subst h
 exact fD [0,1,2,3,4,5,6] ⟨b,c,d,j,l,m,o,p,rfl,rfl⟩


def gU.f (k : Nat) (a0 : aG) (p2000 : Int) (p2001 : Int) : Option (aG × Int):=(ei.f k a0).bind (fun a=>if (!a) = true then (some (((aG.mk (bF.mk 0 0 ([] : (List aZ))) 0 0 false (cA.mk 0 0 false false false false false false false false) 0 0 ([] : (List Int)) false false false false false false (dq.mk 0 0 false false (cA.mk 0 0 false false false false false false false false)) false (bF.mk 0 0 ([] : (List aZ))) ([] : (List Int))),2))) else ((lL.f a0).bind (fun b=>(kr.f b p2000 p2001).bind (fun oU=>some ((oU,0))))))
theorem gU.ok {a0 : aG} {p2000 : Int} {p2001 : Int} {r : aG × Int} (H : gU.f k a0 p2000 p2001 = some r) : df Tryz.prog 62 #[.agg (al a0 ag af az ay aw ar av au).toArray,.func (.func 88) #[] #[.pointer (some ⟨bJ,0,none⟩),.pointer (some ⟨dm,0,none⟩)]] (eK a0 ag af az ay aw ar av au++[aL bJ 3 [ae p2000],aL dm 3 [ae p2001]]) (fun v B=>∃ aP aO bA bv bq bp bB bw,v = .tuple #[.agg (al r.1 aP aO bA bv bq bp bB bw).toArray,ae r.2]∧B = (aS r.1 aP aO bA bv bq bp bB bw++[aL bJ 3 [ae p2000],aL dm 3 [ae p2001]])):=by
 refine ai Tryz.func62 rfl rfl ?_
 unfold gU.f at H
 refine aQ (o' (bN (h:=fun b=>o' (cy (h:=fun s=>ad aV (h:=eJ (l' (ck 6) ?_)))))))
 obtain⟨O,u,H⟩:=ac H
 refine o' (da [0,1,2,3] [0,1,2,3,4,5,6,7] (rM.ok u) ?_)
 refine ad (ca rfl) (h:=bC ?_)
 rcases bH H with⟨a,H⟩|⟨a,H⟩
 ·refine aC rfl a (aQ (bO (.agg (al cx none 0 none 0 none 0 none 0).toArray) dA (h:=o' (bg s 0 7 (al cx none 0 none 0 none 0 none 0) (h:=ad aV (h:=cE ?_))))))
  have h:=aN H;subst h
  exact lT [.cell 4 34,.tmp 5] ((Gh.nilBuf bE 55).trans ((Gh.nilBuf (Kd.int .i64) 3).trans ((Gh.nilBuf bE 55).trans ((Gh.nilBuf (Kd.int .i32) 21).trans (eY [8,9,10,11,4,5]))))) ⟨none,0,none,0,none,0,none,0,rfl,rfl⟩ ⟨cR 7,cP,trivial⟩
 refine aD rfl a (ap (aa (aQ (l' (ck 6) ?_))))
 obtain⟨y,z,H⟩:=ac H
 refine o' (dN [0,1,2,3] [0,1,2,3,4,5,6,7] (lL.ok z) fun D E F I J K L M=>?_)
 refine o' (bg b 0 10 (al y D E F I J K L M) (h:=cV (ad ax (h:=s' (.agg #[aK b]) dA ?_))))
 obtain⟨oU,N,H⟩:=ac H
 refine o' (rn [10,0,1,2,3,8,9] [4,5,6,7,11] (je (vs:=[.agg #[aK b]]) (cap:=[aK bJ,aK dm]) rfl Tryz.func88 AG rfl rfl) (kr.ok (ba:=b) (gV:=bJ) (nS:=dm) N) ?_)
 rintro _ _⟨c,d,j,l,m,o,p,q,rfl,rfl⟩
 refine cV (bD (ck 0) (h:=o' (bg s 0 11 (al oU c d j l m o p q) (h:=ad aV (h:=cF ?_)))))
 have h:=aN H;subst h
 exact dt [.cell 4 34,.tmp 5] [1,2,3,4,5,6] ⟨c,d,j,l,m,o,p,q,rfl,rfl⟩ ⟨cR 11,cP,trivial⟩


def wR.f (k : Nat) (a0 : aG) (a1 : Int) (a2 : Int) : Option (aG × Int):=(gU.f k a0 a1 a2).bind (fun a=>some ((a.1,a.2)))
theorem wR.ok {a0 : aG} {a1 : Int} {a2 : Int} {r : aG × Int} (H : wR.f k a0 a1 a2 = some r) : df Tryz.prog 35 #[.agg (al a0 ag af az ay aw ar av au).toArray,ae a1,ae a2] (eK a0 ag af az ay aw ar av au) (fun v B=>∃ aP aO bA bv bq bp bB bw,v = .tuple #[.agg (al r.1 aP aO bA bv bq bp bB bw).toArray,ae r.2]∧B = (aS r.1 aP aO bA bv bq bp bB bw)):=by
 refine ai Tryz.func35 rfl rfl ?_
 unfold wR.f at H
 refine aQ (o' (bN (h:=fun z=>o' (bN (h:=fun p=>o' (bN (h:=fun q=>o' (cy (h:=fun s=>ad aV (h:=cV (bD (ck 4) (h:=s' (.func (.func 88) #[] #[aK p,aK q]) (dy (us:=[aK p,aK q]) rfl) ?_))))))))))))
 obtain⟨u,y,H⟩:=ac H
 refine o' (dN [0,1,2,3,5,6] [0,1,2,3,4,7] (gU.ok (bJ:=p) (dm:=q) y) fun a b c d j l m o=>?_)
 refine ad cg (h:=ad cg (h:=o' (bg s 0 11 (al u.1 a b c d j l m o) (h:=ad aV (h:=cF ?_)))))
 have h:=aN H;subst h
 exact dt [.cell 6 34,.tmp 7] [0,1,2,3] ⟨a,b,c,d,j,l,m,o,rfl,rfl⟩ ⟨cR 11,cP,trivial⟩


def fH.f (p0 : aG) (a1 : Bool) : Option (aG):=if a1 = true then (some (({ p0 with f1:=p0.f14.f0,f2:=p0.f14.f1,f3:=p0.f14.f2,f4:=p0.f14.f4,f9:=p0.f14.f3 }))) else (some (({ p0 with f14:=(dq.mk p0.f1 p0.f2 p0.f3 p0.f9 p0.f4) })))
theorem fH.ok {p0 : aG} {a1 : Bool} {r : aG} (H : fH.f p0 a1 = some r) : df Tryz.prog 64 #[.agg #[.pointer (some ⟨ba,0,none⟩)],.bool a1] (cK ba p0 ag af az ay aw ar av au) (fun v B=>∃ P0_0_ q0_0_ P0_1_ q0_1_ P0_2_ q0_2_ P0_3_ q0_3_,v = .tuple #[]∧B = (cK ba r P0_0_ q0_0_ P0_1_ q0_1_ P0_2_ q0_2_ P0_3_ q0_3_)):=by
 refine ai Tryz.func64 rfl rfl ?_
 unfold fH.f at H
 refine aQ (o' (bN (h:=fun c=>eJ (ad ax (h:=bC ?_)))))
 rcases bH H with⟨a,H⟩|⟨a,H⟩
 ·refine aC rfl a (aQ (ad aE (h:=bD (aT 5) (h:=ad cz (h:=ad aE (h:=bD (cG ba 25 0 (jU p0.f14)) (h:=o' (cy (h:=fun b=>o' (bg b 0 6 (jU p0.f14) (h:=bC (ao ?_))))))))))))
  refine fk (0::1::2::3::4::5::6::7::8::9::10::11::12::13::14::15::16::17::18::19::20::21::23::24::26::27::29::30::32::33::[]) [5,6] (dG 0 5) fun _ _ _ _ _ sH dd pk=>?_
  refine bf 0 rfl sH aE (h:=bT 1 rfl sH (aT 0) (h:=bf 2 rfl sH aE (h:=bT 3 rfl sH (aT 0) (h:=bf 4 rfl sH aE (h:=bT 5 rfl sH (aT 0) (h:=bf 6 rfl sH aE (h:=bT 7 rfl sH (aT 0) (h:=bf 8 rfl sH aE (h:=r' 9 rfl sH (aT 0) ?_)))))))))
  refine bf 10 rfl sH aE (h:=bT 11 rfl sH (aT 1) (h:=bf 12 rfl sH aE (h:=bT 13 rfl sH (aT 1) (h:=bf 14 rfl sH aE (h:=bT 15 rfl sH (aT 1) (h:=bf 16 rfl sH aE (h:=bT 17 rfl sH (aT 1) (h:=bf 18 rfl sH aE (h:=r' 19 rfl sH (cG b 4 1 (bG p0.f14.f4)) ?_)))))))))
  refine bf 20 rfl sH cz (h:=bf 21 rfl sH aE (h:=dx 22 rfl dd (cH 0 [ae p0.f14.f0] (h:=(bf 23 rfl sH cz (h:=bf 24 rfl sH aE (h:=dx 25 rfl dd (cH 0 [ae p0.f14.f1] (h:=(bf 26 rfl sH cz (h:=bf 27 rfl sH aE (h:=dx 28 rfl dd (cH 0 [.bool p0.f14.f2] (h:=(T' 29 rfl sH cz ?_)))))))))))))))
  refine bf 30 rfl sH aE (h:=dx 31 rfl dd (cH 0 [.bool p0.f14.f3] (h:=(bf 32 rfl sH cz (h:=bf 33 rfl sH aE (h:=dx 34 rfl dd (cH 0 (bG p0.f14.f4) (h:=(aW dd sH (aH (by kernel_rfl) (aa (fa (aI ?_)))))))))))))
  have h:=aN H;subst h
  exact kT (aL ba 34 (al ({ p0 with f1:=p0.f14.f0,f2:=p0.f14.f1,f3:=p0.f14.f2,f4:=p0.f14.f4,f9:=p0.f14.f3 }) ag af az ay aw ar av au)::aS p0 ag af az ay aw ar av au) rfl (eY [2,3,4,5,6]) ⟨ag,af,az,ay,aw,ar,av,au,rfl,rfl⟩
 refine aD rfl a (ap (aa ?_))
 refine fk (dG 0 30) [0,5] (dG 1 4) fun _ _ _ _ _ sH dd pk=>?_
 refine bf 0 rfl sH aE (h:=bT 1 rfl sH (aT 1) (h:=bf 2 rfl sH aE (h:=bT 3 rfl sH (aT 1) (h:=bf 4 rfl sH cz (h:=bf 5 rfl sH aE (h:=bT 6 rfl sH (aT 0) (h:=bf 7 rfl sH aE (h:=bT 8 rfl sH (aT 1) (h:=T' 9 rfl sH cz ?_)))))))))
 refine bf 10 rfl sH aE (h:=bT 11 rfl sH (aT 0) (h:=bf 12 rfl sH aE (h:=bT 13 rfl sH (aT 1) (h:=bf 14 rfl sH cz (h:=bf 15 rfl sH aE (h:=bT 16 rfl sH (aT 0) (h:=bf 17 rfl sH aE (h:=bT 18 rfl sH (aT 1) (h:=T' 19 rfl sH cz ?_)))))))))
 refine bf 20 rfl sH aE (h:=bT 21 rfl sH (aT 0) (h:=bf 22 rfl sH aE (h:=bT 23 rfl sH (aT 1) (h:=bf 24 rfl sH cz (h:=bf 25 rfl sH aE (h:=bT 26 rfl sH (cG ba 6 0 (bG p0.f4)) (h:=kY (.agg (jU (dq.mk p0.f1 p0.f2 p0.f3 p0.f9 p0.f4)).toArray) 27 rfl sH dA (h:=bf 28 rfl sH cz (h:=T' 29 rfl sH aE ?_)))))))))
 refine aW dd sH (ey 30 rfl (cH 0 (jU (dq.mk p0.f1 p0.f2 p0.f3 p0.f9 p0.f4)) (h:=(aH (by kernel_rfl) ?_))))
 have h:=aN H;subst h
 exact fD [0,2,3,4,5] ⟨ag,af,az,ay,aw,ar,av,au,rfl,rfl⟩


def ky.f (p0 : aG) (p1 : Bool) : Option (aG):=(fH.f p0 p1).bind (fun a=>some (a))
theorem ky.ok {p0 : aG} {p1 : Bool} {r : aG} (H : ky.f p0 p1 = some r) : df Tryz.prog 63 #[.agg #[.pointer (some ⟨ba,0,none⟩)],.pointer (some ⟨gV,0,none⟩)] (aL ba 34 (al p0 ag af az ay aw ar av au)::(aS p0 ag af az ay aw ar av au++[aL gV 4 [.bool p1]])) (fun v B=>∃ P0_0_ q0_0_ P0_1_ q0_1_ P0_2_ q0_2_ P0_3_ q0_3_,v = .tuple #[]∧B = (aL ba 34 (al r P0_0_ q0_0_ P0_1_ q0_1_ P0_2_ q0_2_ P0_3_ q0_3_)::(aS r P0_0_ q0_0_ P0_1_ q0_1_ P0_2_ q0_2_ P0_3_ q0_3_++[aL gV 4 [.bool p1]]))):=by
 refine ai Tryz.func63 rfl rfl ?_
 unfold ky.f at H
 refine aQ (o' (bN (h:=fun q=>bC (bj 1 fun z=>bj 2 fun s=>bj 3 fun u=>bj 4 fun y=>ah (bD (cG q 0 6 [aK ba]) (h:=l' (aT 5) ?_))))))
 obtain⟨D,a,H⟩:=ac H
 refine o' (dN [0,1,2,3,4] [5,6] (fH.ok (ba:=ba) a) fun b c d j l m o p=>?_)
 refine aj ?_
 have h:=aN H;subst h
 exact fD [0,1,2,3,4,5] ⟨b,c,d,j,l,m,o,p,rfl,rfl⟩


def iv.f (k : Nat) (a0 : aG) (p2000 : Bool) : Option (aG × Int):=(ei.f k a0).bind (fun a=>if (!a) = true then (some (((aG.mk (bF.mk 0 0 ([] : (List aZ))) 0 0 false (cA.mk 0 0 false false false false false false false false) 0 0 ([] : (List Int)) false false false false false false (dq.mk 0 0 false false (cA.mk 0 0 false false false false false false false false)) false (bF.mk 0 0 ([] : (List aZ))) ([] : (List Int))),2))) else ((lL.f a0).bind (fun b=>(ky.f b p2000).bind (fun c=>some ((c,0))))))
theorem iv.ok {a0 : aG} {p2000 : Bool} {r : aG × Int} (H : iv.f k a0 p2000 = some r) : df Tryz.prog 62 #[.agg (al a0 ag af az ay aw ar av au).toArray,.func (.func 63) #[] #[.pointer (some ⟨bJ,0,none⟩)]] (eK a0 ag af az ay aw ar av au++[aL bJ 4 [.bool p2000]]) (fun v B=>∃ aP aO bA bv bq bp bB bw,v = .tuple #[.agg (al r.1 aP aO bA bv bq bp bB bw).toArray,ae r.2]∧B = (aS r.1 aP aO bA bv bq bp bB bw++[aL bJ 4 [.bool p2000]])):=by
 refine ai Tryz.func62 rfl rfl ?_
 unfold iv.f at H
 refine aQ (o' (bN (h:=fun b=>o' (cy (h:=fun s=>ad aV (h:=eJ (l' (ck 5) ?_)))))))
 obtain⟨R,u,H⟩:=ac H
 refine o' (da [0,1,2,3] [0,1,2,3,4,5,6] (rM.ok u) ?_)
 refine ad (ca rfl) (h:=bC ?_)
 rcases bH H with⟨a,H⟩|⟨a,H⟩
 ·refine aC rfl a (aQ (bO (.agg (al cx none 0 none 0 none 0 none 0).toArray) dA (h:=o' (bg s 0 6 (al cx none 0 none 0 none 0 none 0) (h:=ad aV (h:=cE ?_))))))
  have h:=aN H;subst h
  exact lT [.cell 4 34,.tmp 5] ((Gh.nilBuf bE 55).trans ((Gh.nilBuf (Kd.int .i64) 3).trans ((Gh.nilBuf bE 55).trans ((Gh.nilBuf (Kd.int .i32) 21).trans (eY [7,8,9,10,4]))))) ⟨none,0,none,0,none,0,none,0,rfl,rfl⟩ ⟨cR 6,cP,trivial⟩
 refine aD rfl a (ap (aa (aQ (l' (ck 5) ?_))))
 obtain⟨y,z,H⟩:=ac H
 refine o' (dN [0,1,2,3] [0,1,2,3,4,5,6] (lL.ok z) fun D E F I J K L M=>?_)
 refine o' (bg b 0 9 (al y D E F I J K L M) (h:=cV (ad ax (h:=s' (.agg #[aK b]) dA ?_))))
 obtain⟨N,O,H⟩:=ac H
 refine o' (rn [9,0,1,2,3,8] [4,5,6,7,10] (je (vs:=[.agg #[aK b]]) (cap:=[aK bJ]) rfl Tryz.func63 AI rfl rfl) (ky.ok (ba:=b) (gV:=bJ) O) ?_)
 rintro _ _⟨c,d,j,l,m,o,p,q,rfl,rfl⟩
 refine cV (bD (ck 0) (h:=o' (bg s 0 10 (al N c d j l m o p q) (h:=ad aV (h:=cF ?_)))))
 have h:=aN H;subst h
 exact dt [.cell 4 34,.tmp 5] [1,2,3,4,5] ⟨c,d,j,l,m,o,p,q,rfl,rfl⟩ ⟨cR 10,cP,trivial⟩


def wI.f (k : Nat) (a0 : aG) (a1 : Bool) : Option (aG × Int):=(iv.f k a0 a1).bind (fun a=>some ((a.1,a.2)))
theorem wI.ok {a0 : aG} {a1 : Bool} {r : aG × Int} (H : wI.f k a0 a1 = some r) : df Tryz.prog 17 #[.agg (al a0 ag af az ay aw ar av au).toArray,.bool a1] (eK a0 ag af az ay aw ar av au) (fun v B=>∃ aP aO bA bv bq bp bB bw,v = .tuple #[.agg (al r.1 aP aO bA bv bq bp bB bw).toArray,ae r.2]∧B = (aS r.1 aP aO bA bv bq bp bB bw)):=by
 refine ai Tryz.func17 rfl rfl ?_
 unfold wI.f at H
 refine aQ (o' (bN (h:=fun y=>o' (bN (h:=fun p=>o' (cy (h:=fun u=>ad aV (h:=cV (bD (ck 4) (h:=s' (.func (.func 63) #[] #[aK p]) (dy (us:=[aK p]) rfl) ?_))))))))))
 obtain⟨q,s,H⟩:=ac H
 refine o' (dN [0,1,2,3,5] [0,1,2,3,4,6] (iv.ok (bJ:=p) s) fun a b c d j l m o=>?_)
 refine ad cg (h:=ad cg (h:=o' (bg u 0 10 (al q.1 a b c d j l m o) (h:=ad aV (h:=cF ?_)))))
 have h:=aN H;subst h
 exact dt [.cell 4 34,.tmp 5] [0,1,2,3] ⟨a,b,c,d,j,l,m,o,rfl,rfl⟩ ⟨cR 10,cP,trivial⟩

end Go.Proofs.YtckilbegmbaeeaaGreat.Z3

/- What functions compute, and that they do: 31, 32, 62f80xx_1_, 62f82x_1_, 62f84x_1_, 80Lb_0_, 81Lb_0_, 82Lb_0_, 83Lb_0_, 84Lb_0_, 85Lb_0_. -/
import Derived.Test.YtckilbegmbaeeaaGreatZ310
namespace Go.Proofs.YtckilbegmbaeeaaGreat.Z3
open Go Go.RowKit Go.Proofs.YtckilbegmbaeeaaGreat.SL
open Go.IntKind (i64)
set_option linter.unusedVariables false
set_option maxHeartbeats 20000000
set_option maxRecDepth 100000
set_option linter.unusedSimpArgs false
attribute [local irreducible] IntKind.wrap cC dO eX gp gl lH fU cN gm rd sub bytesOf eG cL
variable {ba gV bJ dm nS af ay ar au k : Nat}
variable {ag az aw av : Option Addr}
def iW.f (k : Nat) (p0 : aG) (a1 : Bool) (a2 : Int) : Option (aG):=(if a2 = 0 then (some (p0.f2,p0.f0.f0,0,p0.f0.f1)) else (if a2 = 1 then (lt (i64.wrap (p0.f2 + 1)) fun h=>some (0,h,p0.f1,0)) else (if a2 = 2 then (some (0,p0.f0.f0,p0.f1,p0.f0.f1)) else (some (0,0,0,0)))) : Option (Int × Int × Int × Int)).bind (fun b=>(dP.f p0).bind (fun a=>if (0 ≤ a.1∧0 ≤ a.2∧a.1 + a.2 ≤ (p0.f0.f2.length : Int)) then ((ja.f k p0.f0.f2 a.1 a.2 b.1 b.2.1 p0.f4).bind (fun c=>if c.length = p0.f0.f2.length then ((if a1 = true then ((cM.f k ({ p0 with f0:=(bF.mk p0.f0.f0 p0.f0.f1 c) }) 0 b.2.2.1).bind (fun d=>(cM.f k d (i64.wrap (d.f1 + 1)) b.2.2.2).bind (fun j=>some j))) else (some ({ p0 with f0:=(bF.mk p0.f0.f0 p0.f0.f1 c) })) : Option (aG)).bind (fun l=>some (({ l with f3:=false })))) else none)) else none))
theorem iW.ok {p0 : aG} {a1 : Bool} {a2 : Int} {r : aG} (H : iW.f k p0 a1 a2 = some r) : df Tryz.prog 81 #[.agg #[.pointer (some ⟨ba,0,none⟩)],.bool a1,ae a2] (cK ba p0 ag af az ay aw ar av au) (fun v B=>∃ P0_0_ q0_0_ P0_1_ q0_1_ P0_2_ q0_2_ P0_3_ q0_3_,v = .tuple #[]∧B = (cK ba r P0_0_ q0_0_ P0_1_ q0_1_ P0_2_ q0_2_ P0_3_ q0_3_)):=by
 refine ai Tryz.func81 rfl rfl ?_
 unfold iW.f at H
 refine aQ (o' (bN (h:=fun b=>bC (ao ?_))))
 refine fk (dG 0 8) [0,5] (dG 1 4) fun _ _ _ _ _ sH dd pk=>?_
 refine bf 0 rfl sH aE (h:=bT 1 rfl sH (aT 1) (h:=bf 2 rfl sH cz (h:=bf 3 rfl sH aE (h:=bf 4 rfl sH aE (h:=bT 5 rfl sH (aT 0) (h:=bf 6 rfl sH aV (h:=bf 7 rfl sH aV (h:=aW dd sH (aH (by kernel_rfl) ?_)))))))))
 refine aa (ao ?_)
 refine fk (dG 0 13) [0,1] (dG 2 4) fun _ _ _ _ _ sH dd pk=>?_
 refine bf 0 rfl sH aE (h:=bT 1 rfl sH (aT 1) (h:=bf 2 rfl sH cz (h:=bf 3 rfl sH aE (h:=bT 4 rfl sH (aT 0) (h:=bf 5 rfl sH aE (h:=bT 6 rfl sH (aT 1) (h:=bf 7 rfl sH cz (h:=bf 8 rfl sH aE (h:=T' 9 rfl sH aE ?_)))))))))
 refine bT 10 rfl sH (aT 0) (h:=bf 11 rfl sH aV (h:=bf 12 rfl sH aV (h:=aW dd sH (aH (by kernel_rfl) (aa (ao (aQ (ad ax (h:=bC ?_)))))))))
 obtain⟨a,H,E⟩:=ac H
 refine bI (St [(1,.bool a1),(3,aK b),(6,ae a.1),(7,ae a.2.1),(8,ae a.2.2.1),(9,ae a.2.2.2)] (aL ba 34 (al p0 ag af az ay aw ar av au)::(aS p0 ag af az ay aw ar av au++[aL b 84 [aK ba]]))) ?_ ?_
 ·refine aU (aQ (ad (bk rfl rfl) (h:=ad aV (h:=bC (SA.of_St (l:=[(1,.bool a1),(3,aK b),(6,ae 0),(7,ae p0.f0.f0),(8,ae p0.f1),(9,ae p0.f0.f1),(27,ae a2),(28,.bool (decide (a2 = 0)))]) (B:=(aL ba 34 (al p0 ag af az ay aw ar av au)::(aS p0 ag af az ay aw ar av au++[aL b 84 [aK ba]]))) (St.mk1 (cJ rfl (cJ rfl (cJ rfl (cJ rfl (cJ rfl (cJ rfl (cJ rfl (cJ rfl dQ)))))))) (Gh.sel [0,2,3,4,5,1] (by kernel_rfl) (by kernel_rfl))) fun junk=>?_)))))
  rcases bH H with⟨u,H⟩|⟨u,H⟩
  ·refine aB rfl u (ah (ad aE (h:=bD (aT 5) (h:=ad cz (h:=ad aE (h:=bD (aT 0) (h:=ad aV (h:=ad aV (h:=aj (aF ?_))))))))))
   have h:=aN H;subst h
   exact bM [0,1,2,3,4,5]
  refine aA rfl u (aQ (ad (bk rfl rfl) (h:=ad aV (h:=bC ?_))))
  rcases bH H with⟨y,H⟩|⟨y,H⟩
  ·refine aB rfl y (ah (ad aE (h:=bD (aT 5) (h:=ad cz (h:=ad aE (h:=bD (aT 0) (h:=S' (bV rfl rfl) ?_)))))))
   obtain⟨I,N,H⟩:=br H
   refine bO (ae I) (bz (v:=ae I) (congrArg (Value.int .i64) N.symm)) (h:=ad aV (h:=aj (aF ?_)))
   have h:=aN H;subst h
   exact bM [0,1,2,3,4,5]
  refine aA rfl y (aQ (ad (bk rfl rfl) (h:=ad aV (h:=bC ?_))))
  rcases bH H with⟨z,H⟩|⟨z,H⟩
  ·refine aB rfl z (ap (aF ?_))
   have h:=aN H;subst h
   exact bM [0,1,2,3,4,5]
  refine aA rfl z (ah (ad aV (h:=ad aV (h:=ad aV (h:=aj (aF ?_))))))
  have h:=aN H;subst h
  exact bM [0,1,2,3,4,5]
 rintro e ds As L
 clear H
 have H:=E
 clear E
 refine aa (SA.of_St L fun junk=>ao (bj 1 fun b2=>bj 2 fun b3=>bj 3 fun b4=>bj 4 fun b5=>?_))
 refine fN [0,2,3,4,5,6,7,8] #[[],[0],[],[],[],[4],[4,5],[4,5,6],(dG 4 4),[0,2,3,4,5,6,7,8]] [aL ba 34 (al p0 ag af az ay aw ar av au),aL b 84 [aK ba]] jy (bP.thn bP.body) fun I0 d7 w0 pk=>?_
 refine gY 0 [0,5] rfl (cG b 0 1 [aK ba]) (h:=eb (ae a.1) 2 [0,5] rfl fM (h:=eb (ae a.2.1) 3 [0,5] rfl fM (h:=eb (aK b) 4 [0,5] rfl (kB b 0 0) (h:=gY 5 [0,5] rfl (ig b 0 1) (h:=eb (aK ba) 6 [0,5] rfl cz (h:=eb (qF ba 6) 7 [0,5] rfl (kB ba 0 6) (h:=sA 8 [0,5] rfl (cG ba 6 0 (bG p0.f4)) ?_)))))))
 obtain⟨J,S,H⟩:=ac H
 obtain⟨⟨hl1344a,hl1344b,hl1344c⟩,H⟩:=aR H
 refine eU 1 (by kernel_rfl) rfl (.no rfl) (mC [0,1,2,3,4] [5] (dP.ok (ba:=ba) S) ?_)
 rintro _ _⟨U,Y,O,rfl,rfl⟩
 refine ⟨fun _=>⟨[0,5],rfl,rfl⟩,?_⟩
 obtain⟨c6,Z,H⟩:=ac H
 obtain⟨R,H⟩:=aR H
 refine eU 9 (by kernel_rfl) rfl (.no rfl) (da [1] [0,2,3,4,5] (ja.ok (o0:=J.1) (n0:=J.2) (A0:=ag) (c0:=af) (V0:=U) (v0:=Y) (hw0:=O) Z) ?_)
 try unfold cK
 try unfold kD
 try unfold al
 try rewrite [← R]
 refine ⟨fun h_=>absurd h_ (by decide),?_⟩
 refine aH (by kernel_rfl) (aa (ao (aQ (ad ax (h:=bC ?_)))))
 obtain⟨K,H,F⟩:=ac H
 refine bI (fun e ds As=>∃ (c : Option Addr) (d : Nat),∃ (j : Option Addr) (m : Nat),∃ (o : Option Addr) (p : Nat),∃ (q : Option Addr) (s : Nat),St [(3,aK b)] (aL ba 34 (al K c d j m o p q s)::(aS K c d j m o p q s++[aL b 84 [aK ba]])) e ds As) ?_ ?_
 ·rcases bH H with⟨D,H⟩|⟨D,H⟩
  ·refine aC rfl D (aQ (bD (cG b 0 5 [aK ba]) (h:=S' ax ?_)))
   obtain⟨c7,a0,H⟩:=ac H
   refine o' (dN [1,0,2,3,4] [5] (cM.ok (ba:=ba) a0) fun c8 c9 d0 d1 d2 d3 d4 d5=>?_)
   refine bC (bj 1 fun b7=>bj 2 fun b8=>bj 3 fun b9=>bj 4 fun c5=>?_)
   refine fk (dG 0 8) [0,5] (dG 1 4) fun _ _ _ _ _ sH dd pk=>?_
   refine bT 0 rfl sH (cG b 0 1 [aK ba]) (h:=bf 1 rfl sH aE (h:=bT 2 rfl sH (aT 1) (h:=bf 3 rfl sH cz (h:=bf 4 rfl sH aE (h:=bT 5 rfl sH (aT 0) (h:=bf 6 rfl sH (bV rfl rfl) (h:=bf 7 rfl sH ax (h:=aW dd sH ?_))))))))
   obtain⟨d6,a3,H⟩:=ac H
   refine ey 8 rfl (dN [0,2,3,4,5] [1] (cM.ok (ba:=ba) a3) fun a4 a5 a6 a7 a8 a9 b0 b1=>?_)
   refine aH (by kernel_rfl) ?_
   have h:=aN H;subst h
   exact aa ⟨a4,a5,a6,a7,a8,a9,b0,b1,ed [0,1,2,3,4,5]⟩
  refine aD rfl D (ap ?_)
  have h:=aN H;subst h
  exact aa ⟨ag,af,az,ay,aw,ar,av,au,ed [1,0,2,3,4,5]⟩
 rintro e ds As ⟨c,d,j,m,o,p,q,s,M⟩
 clear H
 have H:=F
 clear F
 refine aa (SA.of_St M fun junk=>ah (ad aE (h:=bD (aT 5) (h:=ad cz (h:=ad aE (h:=o' (cH 0 [.bool false] (h:=(aj ?_)))))))))
 have h:=aN H;subst h
 exact fD [0,1,2,3,4] ⟨c,d,j,m,o,p,q,s,rfl,rfl⟩


def kA.f (k : Nat) (p0 : aG) (p1 : Bool) (p2 : Int) : Option (aG):=(iW.f k p0 p1 p2).bind (fun a=>some (a))
theorem kA.ok {p0 : aG} {p1 : Bool} {p2 : Int} {r : aG} (H : kA.f k p0 p1 p2 = some r) : df Tryz.prog 80 #[.agg #[.pointer (some ⟨ba,0,none⟩)],.pointer (some ⟨gV,0,none⟩),.pointer (some ⟨nS,0,none⟩)] (aL ba 34 (al p0 ag af az ay aw ar av au)::(aS p0 ag af az ay aw ar av au++[aL gV 4 [.bool p1],aL nS 3 [ae p2]])) (fun v B=>∃ P0_0_ q0_0_ P0_1_ q0_1_ P0_2_ q0_2_ P0_3_ q0_3_,v = .tuple #[]∧B = (aL ba 34 (al r P0_0_ q0_0_ P0_1_ q0_1_ P0_2_ q0_2_ P0_3_ q0_3_)::(aS r P0_0_ q0_0_ P0_1_ q0_1_ P0_2_ q0_2_ P0_3_ q0_3_++[aL gV 4 [.bool p1],aL nS 3 [ae p2]]))):=by
 refine ai Tryz.func80 rfl rfl ?_
 unfold kA.f at H
 refine aQ (o' (bN (h:=fun q=>bC (bj 1 fun s=>bj 2 fun u=>bj 3 fun y=>bj 4 fun z=>ah (bD (cG q 0 7 [aK ba]) (h:=l' (aT 5) ?_))))))
 refine l' (aT 6) ?_
 obtain⟨D,a,H⟩:=ac H
 refine o' (dN [0,1,2,3,4] [5,6,7] (iW.ok (ba:=ba) a) fun b c d j l m o p=>?_)
 refine aj ?_
 have h:=aN H;subst h
 exact fD [0,1,2,3,4,5,6] ⟨b,c,d,j,l,m,o,p,rfl,rfl⟩


def gR.f (k : Nat) (a0 : aG) (p2000 : Bool) (p2001 : Int) : Option (aG × Int):=(ei.f k a0).bind (fun a=>if (!a) = true then (some (((aG.mk (bF.mk 0 0 ([] : (List aZ))) 0 0 false (cA.mk 0 0 false false false false false false false false) 0 0 ([] : (List Int)) false false false false false false (dq.mk 0 0 false false (cA.mk 0 0 false false false false false false false false)) false (bF.mk 0 0 ([] : (List aZ))) ([] : (List Int))),2))) else ((lL.f a0).bind (fun b=>(kA.f k b p2000 p2001).bind (fun oU=>some ((oU,0))))))
theorem gR.ok {a0 : aG} {p2000 : Bool} {p2001 : Int} {r : aG × Int} (H : gR.f k a0 p2000 p2001 = some r) : df Tryz.prog 62 #[.agg (al a0 ag af az ay aw ar av au).toArray,.func (.func 80) #[] #[.pointer (some ⟨bJ,0,none⟩),.pointer (some ⟨dm,0,none⟩)]] (eK a0 ag af az ay aw ar av au++[aL bJ 4 [.bool p2000],aL dm 3 [ae p2001]]) (fun v B=>∃ aP aO bA bv bq bp bB bw,v = .tuple #[.agg (al r.1 aP aO bA bv bq bp bB bw).toArray,ae r.2]∧B = (aS r.1 aP aO bA bv bq bp bB bw++[aL bJ 4 [.bool p2000],aL dm 3 [ae p2001]])):=by
 refine ai Tryz.func62 rfl rfl ?_
 unfold gR.f at H
 refine aQ (o' (bN (h:=fun b=>o' (cy (h:=fun s=>ad aV (h:=eJ (l' (ck 6) ?_)))))))
 obtain⟨O,u,H⟩:=ac H
 refine o' (da [0,1,2,3] [0,1,2,3,4,5,6,7] (rM.ok u) ?_)
 refine ad (ca rfl) (h:=bC ?_)
 rcases bH H with⟨a,H⟩|⟨a,H⟩
 ·refine aC rfl a (aQ (bO (.agg (al cx none 0 none 0 none 0 none 0).toArray) dA (h:=o' (bg s 0 7 (al cx none 0 none 0 none 0 none 0) (h:=ad aV (h:=cE ?_))))))
  have h:=aN H;subst h
  exact lT [.cell 4 34,.tmp 5] ((Gh.nilBuf bE 55).trans ((Gh.nilBuf (Kd.int .i64) 3).trans ((Gh.nilBuf bE 55).trans ((Gh.nilBuf (Kd.int .i32) 21).trans (eY [8,9,10,11,4,5]))))) ⟨none,0,none,0,none,0,none,0,rfl,rfl⟩ ⟨cR 7,cP,trivial⟩
 refine aD rfl a (ap (aa (aQ (l' (ck 6) ?_))))
 obtain⟨y,z,H⟩:=ac H
 refine o' (dN [0,1,2,3] [0,1,2,3,4,5,6,7] (lL.ok z) fun D E F I J K L M=>?_)
 refine o' (bg b 0 10 (al y D E F I J K L M) (h:=cV (ad ax (h:=s' (.agg #[aK b]) dA ?_))))
 obtain⟨oU,N,H⟩:=ac H
 refine o' (rn [10,0,1,2,3,8,9] [4,5,6,7,11] (je (vs:=[.agg #[aK b]]) (cap:=[aK bJ,aK dm]) rfl Tryz.func80 Bq rfl rfl) (kA.ok (ba:=b) (gV:=bJ) (nS:=dm) N) ?_)
 rintro _ _⟨c,d,j,l,m,o,p,q,rfl,rfl⟩
 refine cV (bD (ck 0) (h:=o' (bg s 0 11 (al oU c d j l m o p q) (h:=ad aV (h:=cF ?_)))))
 have h:=aN H;subst h
 exact dt [.cell 4 34,.tmp 5] [1,2,3,4,5,6] ⟨c,d,j,l,m,o,p,q,rfl,rfl⟩ ⟨cR 11,cP,trivial⟩


def wM.f (k : Nat) (a0 : aG) (a1 : Bool) (a2 : Int) : Option (aG × Int):=(gR.f k a0 a1 a2).bind (fun a=>some ((a.1,a.2)))
theorem wM.ok {a0 : aG} {a1 : Bool} {a2 : Int} {r : aG × Int} (H : wM.f k a0 a1 a2 = some r) : df Tryz.prog 31 #[.agg (al a0 ag af az ay aw ar av au).toArray,.bool a1,ae a2] (eK a0 ag af az ay aw ar av au) (fun v B=>∃ aP aO bA bv bq bp bB bw,v = .tuple #[.agg (al r.1 aP aO bA bv bq bp bB bw).toArray,ae r.2]∧B = (aS r.1 aP aO bA bv bq bp bB bw)):=by
 refine ai Tryz.func31 rfl rfl ?_
 unfold wM.f at H
 refine aQ (o' (bN (h:=fun z=>o' (bN (h:=fun p=>o' (bN (h:=fun q=>o' (cy (h:=fun s=>ad aV (h:=cV (bD (ck 4) (h:=s' (.func (.func 80) #[] #[aK p,aK q]) (dy (us:=[aK p,aK q]) rfl) ?_))))))))))))
 obtain⟨u,y,H⟩:=ac H
 refine o' (dN [0,1,2,3,5,6] [0,1,2,3,4,7] (gR.ok (bJ:=p) (dm:=q) y) fun a b c d j l m o=>?_)
 refine ad cg (h:=ad cg (h:=o' (bg s 0 11 (al u.1 a b c d j l m o) (h:=ad aV (h:=cF ?_)))))
 have h:=aN H;subst h
 exact dt [.cell 6 34,.tmp 7] [0,1,2,3] ⟨a,b,c,d,j,l,m,o,rfl,rfl⟩ ⟨cR 11,cP,trivial⟩


def iV.f (k : Nat) (p0 : aG) (a1 : Int) : Option (aG):=(if p0.f1 < p0.f5 then (some true) else (some (decide (p0.f1 > p0.f6))) : Option (Bool)).bind (fun c=>if c = true then (some (p0)) else ((mc.f a1).bind (fun a=>(cT.f k p0 p0.f1 p0.f6 (i64.wrap (0 - a)) p0.f4).bind (fun b=>some (({ b with f2:=0,f3:=false }))))))
theorem iV.ok {p0 : aG} {a1 : Int} {r : aG} (H : iV.f k p0 a1 = some r) : df Tryz.prog 83 #[.agg #[.pointer (some ⟨ba,0,none⟩)],ae a1] (cK ba p0 ag af az ay aw ar av au) (fun v B=>∃ P0_0_ q0_0_ P0_1_ q0_1_ P0_2_ q0_2_ P0_3_ q0_3_,v = .tuple #[]∧B = (cK ba r P0_0_ q0_0_ P0_1_ q0_1_ P0_2_ q0_2_ P0_3_ q0_3_)):=by
 refine ai Tryz.func83 rfl rfl ?_
 unfold iV.f at H
 refine aQ (o' (bN (h:=fun E=>bC (ao (ao ?_)))))
 obtain⟨M,H,D⟩:=ac H
 refine bI (St [(1,ae a1),(2,aK E),(27,.bool M)] (aL ba 34 (al p0 ag af az ay aw ar av au)::(aS p0 ag af az ay aw ar av au++[aL E 84 [aK ba]]))) ?_ ?_
 ·refine fk (dG 0 24) [0,5] (dG 1 4) fun _ _ _ _ _ sH dd pk=>?_
  refine bf 0 rfl sH aE (h:=bT 1 rfl sH (aT 1) (h:=bf 2 rfl sH cz (h:=bf 3 rfl sH aE (h:=bT 4 rfl sH (aT 0) (h:=bf 5 rfl sH aE (h:=bT 6 rfl sH (aT 1) (h:=bf 7 rfl sH cz (h:=bf 8 rfl sH aE (h:=r' 9 rfl sH (aT 0) ?_)))))))))
  refine bf 10 rfl sH (cn rfl rfl) (h:=T' 11 rfl sH ax ?_)
  rcases bH H with⟨a,H⟩|⟨a,H⟩
  ·refine cb 12 rfl (ak a) (cb 13 rfl (ak a) (cb 14 rfl (ak a) (cb 15 rfl (ak a) (cb 16 rfl (ak a) (cb 17 rfl (ak a) (cb 18 rfl (ak a) (cb 19 rfl (ak a) (cb 20 rfl (ak a) (cb 21 rfl (ak a) ?_)))))))))
   refine cb 22 rfl (ak a) (bT 23 rfl sH (VR.ofV (bX rfl (ak a) rfl)) (h:=aW dd sH (aH (by kernel_rfl) ?_)))
   have h:=aN H;subst h
   exact bM [0,2,3,4,5,1]
  refine du 12 rfl (am a) sH aE (h:=cU 13 rfl (am a) sH (aT 1) (h:=du 14 rfl (am a) sH cz (h:=du 15 rfl (am a) sH aE (h:=cU 16 rfl (am a) sH (aT 0) (h:=du 17 rfl (am a) sH aE (h:=cU 18 rfl (am a) sH (aT 1) (h:=du 19 rfl (am a) sH cz (h:=du 20 rfl (am a) sH aE (h:=AL 21 rfl (am a) sH (aT 0) ?_)))))))))
  refine du 22 rfl (am a) sH (eR rfl rfl) (h:=bT 23 rfl sH (VR.ofV (bY rfl (am a) rfl)) (h:=aW dd sH (aH (by kernel_rfl) ?_)))
  have h:=aN H;subst h
  exact bM [0,2,3,4,5,1]
 rintro e ds As c
 clear H
 have H:=D
 clear D
 refine aa (SA.of_St c fun junk=>?_)
 rcases bH H with⟨b,H⟩|⟨b,H⟩
 ·refine aC rfl b (fa (aI ?_))
  have h:=aN H;subst h
  exact kT (cK ba p0 ag af az ay aw ar av au) rfl (eY [0,1,2,3,4]) ⟨ag,af,az,ay,aw,ar,av,au,rfl,rfl⟩
 refine aD rfl b (ap (aa (ao (bj 1 fun F=>bj 2 fun I=>bj 3 fun J=>bj 4 fun K=>?_))))
 refine fk (0::1::2::3::4::5::6::7::8::9::10::11::12::13::14::16::17::18::19::20::21::[]) [0,5] (dG 1 4) fun _ _ _ _ _ sH dd pk=>?_
 refine bf 0 rfl sH aE (h:=bT 1 rfl sH (aT 1) (h:=bf 2 rfl sH cz (h:=bf 3 rfl sH aE (h:=bf 4 rfl sH aE (h:=bT 5 rfl sH (aT 1) (h:=bf 6 rfl sH cz (h:=bf 7 rfl sH aE (h:=bT 8 rfl sH (aT 0) (h:=T' 9 rfl sH aE ?_)))))))))
 refine bT 10 rfl sH (aT 1) (h:=bf 11 rfl sH cz (h:=bf 12 rfl sH aE (h:=bT 13 rfl sH (aT 0) (h:=bf 14 rfl sH ax (h:=bf 17 rfl sH aE (h:=bT 18 rfl sH (aT 1) (h:=bf 19 rfl sH cz (h:=bf 20 rfl sH aE (h:=r' 21 rfl sH (cG ba 6 0 (bG p0.f4)) ?_)))))))))
 obtain⟨d,j,H⟩:=ac H
 refine dx 15 rfl dd (da [] [0,1,2,3] (mc.ok j) ?_)
 refine kY (ae (i64.wrap (0 - d))) 16 rfl sH (ms rfl) (h:=aW dd sH ?_)
 obtain⟨L,l,H⟩:=ac H
 refine ey 22 rfl (dN [0,2,3,4,5] [1] (cT.ok (ba:=ba) l) fun m o p q s u y z=>?_)
 refine aH (by kernel_rfl) (aa ?_)
 refine fk [0,1,2,3,4,5,7,8] [5] (dG 0 5) fun _ _ _ _ _ sH dd pk=>?_
 refine bf 0 rfl sH aE (h:=bT 1 rfl sH (aT 0) (h:=bf 2 rfl sH aE (h:=bT 3 rfl sH (aT 0) (h:=bf 4 rfl sH cz (h:=bf 5 rfl sH aE (h:=dx 6 rfl dd (cH 0 [ae 0] (h:=(bf 7 rfl sH cz (h:=bf 8 rfl sH aE (h:=dx 9 rfl dd (cH 0 [.bool false] (h:=?_)))))))))))))
 refine aW dd sH (aH (by kernel_rfl) ?_)
 have h:=aN H;subst h
 exact fD [1,2,3,4,5] ⟨m,o,p,q,s,u,y,z,rfl,rfl⟩


def kg.f (k : Nat) (p0 : aG) (p1 : Int) : Option (aG):=(iV.f k p0 p1).bind (fun a=>some (a))
theorem kg.ok {p0 : aG} {p1 : Int} {r : aG} (H : kg.f k p0 p1 = some r) : df Tryz.prog 82 #[.agg #[.pointer (some ⟨ba,0,none⟩)],.pointer (some ⟨gV,0,none⟩)] (aL ba 34 (al p0 ag af az ay aw ar av au)::(aS p0 ag af az ay aw ar av au++[aL gV 3 [ae p1]])) (fun v B=>∃ P0_0_ q0_0_ P0_1_ q0_1_ P0_2_ q0_2_ P0_3_ q0_3_,v = .tuple #[]∧B = (aL ba 34 (al r P0_0_ q0_0_ P0_1_ q0_1_ P0_2_ q0_2_ P0_3_ q0_3_)::(aS r P0_0_ q0_0_ P0_1_ q0_1_ P0_2_ q0_2_ P0_3_ q0_3_++[aL gV 3 [ae p1]]))):=by
 refine ai Tryz.func82 rfl rfl ?_
 unfold kg.f at H
 refine aQ (o' (bN (h:=fun q=>bC (bj 1 fun z=>bj 2 fun s=>bj 3 fun u=>bj 4 fun y=>ah (bD (cG q 0 6 [aK ba]) (h:=l' (aT 5) ?_))))))
 obtain⟨D,a,H⟩:=ac H
 refine o' (dN [0,1,2,3,4] [5,6] (iV.ok (ba:=ba) a) fun b c d j l m o p=>?_)
 refine aj ?_
 have h:=aN H;subst h
 exact fD [0,1,2,3,4,5] ⟨b,c,d,j,l,m,o,p,rfl,rfl⟩


def il.f (k : Nat) (a0 : aG) (p2000 : Int) : Option (aG × Int):=(ei.f k a0).bind (fun a=>if (!a) = true then (some (((aG.mk (bF.mk 0 0 ([] : (List aZ))) 0 0 false (cA.mk 0 0 false false false false false false false false) 0 0 ([] : (List Int)) false false false false false false (dq.mk 0 0 false false (cA.mk 0 0 false false false false false false false false)) false (bF.mk 0 0 ([] : (List aZ))) ([] : (List Int))),2))) else ((lL.f a0).bind (fun b=>(kg.f k b p2000).bind (fun c=>some ((c,0))))))
theorem il.ok {a0 : aG} {p2000 : Int} {r : aG × Int} (H : il.f k a0 p2000 = some r) : df Tryz.prog 62 #[.agg (al a0 ag af az ay aw ar av au).toArray,.func (.func 82) #[] #[.pointer (some ⟨bJ,0,none⟩)]] (eK a0 ag af az ay aw ar av au++[aL bJ 3 [ae p2000]]) (fun v B=>∃ aP aO bA bv bq bp bB bw,v = .tuple #[.agg (al r.1 aP aO bA bv bq bp bB bw).toArray,ae r.2]∧B = (aS r.1 aP aO bA bv bq bp bB bw++[aL bJ 3 [ae p2000]])):=by
 refine ai Tryz.func62 rfl rfl ?_
 unfold il.f at H
 refine aQ (o' (bN (h:=fun b=>o' (cy (h:=fun s=>ad aV (h:=eJ (l' (ck 5) ?_)))))))
 obtain⟨R,u,H⟩:=ac H
 refine o' (da [0,1,2,3] [0,1,2,3,4,5,6] (rM.ok u) ?_)
 refine ad (ca rfl) (h:=bC ?_)
 rcases bH H with⟨a,H⟩|⟨a,H⟩
 ·refine aC rfl a (aQ (bO (.agg (al cx none 0 none 0 none 0 none 0).toArray) dA (h:=o' (bg s 0 6 (al cx none 0 none 0 none 0 none 0) (h:=ad aV (h:=cE ?_))))))
  have h:=aN H;subst h
  exact lT [.cell 4 34,.tmp 5] ((Gh.nilBuf bE 55).trans ((Gh.nilBuf (Kd.int .i64) 3).trans ((Gh.nilBuf bE 55).trans ((Gh.nilBuf (Kd.int .i32) 21).trans (eY [7,8,9,10,4]))))) ⟨none,0,none,0,none,0,none,0,rfl,rfl⟩ ⟨cR 6,cP,trivial⟩
 refine aD rfl a (ap (aa (aQ (l' (ck 5) ?_))))
 obtain⟨y,z,H⟩:=ac H
 refine o' (dN [0,1,2,3] [0,1,2,3,4,5,6] (lL.ok z) fun D E F I J K L M=>?_)
 refine o' (bg b 0 9 (al y D E F I J K L M) (h:=cV (ad ax (h:=s' (.agg #[aK b]) dA ?_))))
 obtain⟨N,O,H⟩:=ac H
 refine o' (rn [9,0,1,2,3,8] [4,5,6,7,10] (je (vs:=[.agg #[aK b]]) (cap:=[aK bJ]) rfl Tryz.func82 Ay rfl rfl) (kg.ok (ba:=b) (gV:=bJ) O) ?_)
 rintro _ _⟨c,d,j,l,m,o,p,q,rfl,rfl⟩
 refine cV (bD (ck 0) (h:=o' (bg s 0 10 (al N c d j l m o p q) (h:=ad aV (h:=cF ?_)))))
 have h:=aN H;subst h
 exact dt [.cell 4 34,.tmp 5] [1,2,3,4,5] ⟨c,d,j,l,m,o,p,q,rfl,rfl⟩ ⟨cR 10,cP,trivial⟩


def wV.f (k : Nat) (a0 : aG) (a1 : Int) : Option (aG × Int):=(il.f k a0 a1).bind (fun a=>some ((a.1,a.2)))
theorem wV.ok {a0 : aG} {a1 : Int} {r : aG × Int} (H : wV.f k a0 a1 = some r) : df Tryz.prog 32 #[.agg (al a0 ag af az ay aw ar av au).toArray,ae a1] (eK a0 ag af az ay aw ar av au) (fun v B=>∃ aP aO bA bv bq bp bB bw,v = .tuple #[.agg (al r.1 aP aO bA bv bq bp bB bw).toArray,ae r.2]∧B = (aS r.1 aP aO bA bv bq bp bB bw)):=by
 refine ai Tryz.func32 rfl rfl ?_
 unfold wV.f at H
 refine aQ (o' (bN (h:=fun y=>o' (bN (h:=fun p=>o' (cy (h:=fun u=>ad aV (h:=cV (bD (ck 4) (h:=s' (.func (.func 82) #[] #[aK p]) (dy (us:=[aK p]) rfl) ?_))))))))))
 obtain⟨q,s,H⟩:=ac H
 refine o' (dN [0,1,2,3,5] [0,1,2,3,4,6] (il.ok (bJ:=p) s) fun a b c d j l m o=>?_)
 refine ad cg (h:=ad cg (h:=o' (bg u 0 10 (al q.1 a b c d j l m o) (h:=ad aV (h:=cF ?_)))))
 have h:=aN H;subst h
 exact dt [.cell 4 34,.tmp 5] [0,1,2,3] ⟨a,b,c,d,j,l,m,o,rfl,rfl⟩ ⟨cR 10,cP,trivial⟩


def iN.f (k : Nat) (p0 : aG) (a1 : Int) : Option (aG):=(dP.f p0).bind (fun a=>if (0 ≤ a.1∧0 ≤ a.2∧a.1 + a.2 ≤ (p0.f0.f2.length : Int)) then ((iY.f k p0.f0.f2 a.1 a.2 p0.f2 a1 p0.f4).bind (fun b=>if b.length = p0.f0.f2.length then (some (({ p0 with f0:=(bF.mk p0.f0.f0 p0.f0.f1 b),f3:=false }))) else none)) else none)
theorem iN.ok {p0 : aG} {a1 : Int} {r : aG} (H : iN.f k p0 a1 = some r) : df Tryz.prog 85 #[.agg #[.pointer (some ⟨ba,0,none⟩)],ae a1] (cK ba p0 ag af az ay aw ar av au) (fun v B=>∃ P0_0_ q0_0_ P0_1_ q0_1_ P0_2_ q0_2_ P0_3_ q0_3_,v = .tuple #[]∧B = (cK ba r P0_0_ q0_0_ P0_1_ q0_1_ P0_2_ q0_2_ P0_3_ q0_3_)):=by
 refine ai Tryz.func85 rfl rfl ?_
 unfold iN.f at H
 refine aQ (o' (bN (h:=fun a=>bC (ao (bj 1 fun u=>bj 2 fun y=>bj 3 fun p=>bj 4 fun q=>?_)))))
 refine fN [0,2,3,4,5,6,7,8,9,10,11,12] (List.toArray ([]::[0]::[]::[2]::[2,3]::[2,3,4]::(dG 2 4)::[]::[]::[8]::[8,9]::[8,9,10]::(dG 8 4)::[0,2,3,4,5,6,7,8,9,10,11,12]::[])) [aL ba 34 (al p0 ag af az ay aw ar av au),aL a 84 [aK ba]] jy (bP.thn bP.body) fun D z E pk=>?_
 refine gY 0 [0,5] rfl (cG a 0 1 [aK ba]) (h:=eb (aK a) 2 [0,5] rfl (kB a 0 0) (h:=gY 3 [0,5] rfl (ig a 0 1) (h:=eb (aK ba) 4 [0,5] rfl cz (h:=eb (qF ba 4) 5 [0,5] rfl (kB ba 0 4) (h:=gY 6 [0,5] rfl (ig ba 4 0) (h:=eb (ae a1) 7 [0,5] rfl fM (h:=eb (aK a) 8 [0,5] rfl (kB a 0 0) (h:=gY 9 [0,5] rfl (ig a 0 1) (h:=vU (aK ba) 10 [0,5] rfl cz ?_)))))))))
 refine eb (qF ba 6) 11 [0,5] rfl (kB ba 0 6) (h:=sA 12 [0,5] rfl (cG ba 6 0 (bG p0.f4)) ?_)
 obtain⟨c,l,H⟩:=ac H
 obtain⟨⟨hl76a,hl76b,hl76c⟩,H⟩:=aR H
 refine eU 1 (by kernel_rfl) rfl (.no rfl) (mC [0,1,2,3,4] [5] (dP.ok (ba:=ba) l) ?_)
 rintro _ _⟨m,o,d,rfl,rfl⟩
 refine ⟨fun _=>⟨[0,5],rfl,rfl⟩,?_⟩
 obtain⟨s,j,H⟩:=ac H
 obtain⟨b,H⟩:=aR H
 refine eU 13 (by kernel_rfl) rfl (.no rfl) (da [1] [0,2,3,4,5] (iY.ok (o0:=c.1) (n0:=c.2) (A0:=ag) (c0:=af) (V0:=m) (v0:=o) (hw0:=d) j) ?_)
 try unfold cK
 try unfold kD
 try unfold al
 try rewrite [← b]
 refine ⟨fun h_=>absurd h_ (by decide),?_⟩
 refine aH (by kernel_rfl) (aa (ah (ad aE (h:=bD (aT 5) (h:=ad cz (h:=ad aE (h:=o' (cH 1 [.bool false] (h:=(aj ?_))))))))))
 have h:=aN H;subst h
 exact fD [1,0,2,3,4] ⟨ag,af,az,ay,aw,ar,av,au,rfl,rfl⟩


def kc.f (k : Nat) (p0 : aG) (p1 : Int) : Option (aG):=(iN.f k p0 p1).bind (fun a=>some (a))
theorem kc.ok {p0 : aG} {p1 : Int} {r : aG} (H : kc.f k p0 p1 = some r) : df Tryz.prog 84 #[.agg #[.pointer (some ⟨ba,0,none⟩)],.pointer (some ⟨gV,0,none⟩)] (aL ba 34 (al p0 ag af az ay aw ar av au)::(aS p0 ag af az ay aw ar av au++[aL gV 3 [ae p1]])) (fun v B=>∃ P0_0_ q0_0_ P0_1_ q0_1_ P0_2_ q0_2_ P0_3_ q0_3_,v = .tuple #[]∧B = (aL ba 34 (al r P0_0_ q0_0_ P0_1_ q0_1_ P0_2_ q0_2_ P0_3_ q0_3_)::(aS r P0_0_ q0_0_ P0_1_ q0_1_ P0_2_ q0_2_ P0_3_ q0_3_++[aL gV 3 [ae p1]]))):=by
 refine ai Tryz.func84 rfl rfl ?_
 unfold kc.f at H
 refine aQ (o' (bN (h:=fun q=>bC (bj 1 fun z=>bj 2 fun s=>bj 3 fun u=>bj 4 fun y=>ah (bD (cG q 0 6 [aK ba]) (h:=l' (aT 5) ?_))))))
 obtain⟨D,a,H⟩:=ac H
 refine o' (dN [0,1,2,3,4] [5,6] (iN.ok (ba:=ba) a) fun b c d j l m o p=>?_)
 refine aj ?_
 have h:=aN H;subst h
 exact fD [0,1,2,3,4,5] ⟨b,c,d,j,l,m,o,p,rfl,rfl⟩


def ir.f (k : Nat) (a0 : aG) (p2000 : Int) : Option (aG × Int):=(ei.f k a0).bind (fun a=>if (!a) = true then (some (((aG.mk (bF.mk 0 0 ([] : (List aZ))) 0 0 false (cA.mk 0 0 false false false false false false false false) 0 0 ([] : (List Int)) false false false false false false (dq.mk 0 0 false false (cA.mk 0 0 false false false false false false false false)) false (bF.mk 0 0 ([] : (List aZ))) ([] : (List Int))),2))) else ((lL.f a0).bind (fun b=>(kc.f k b p2000).bind (fun c=>some ((c,0))))))
theorem ir.ok {a0 : aG} {p2000 : Int} {r : aG × Int} (H : ir.f k a0 p2000 = some r) : df Tryz.prog 62 #[.agg (al a0 ag af az ay aw ar av au).toArray,.func (.func 84) #[] #[.pointer (some ⟨bJ,0,none⟩)]] (eK a0 ag af az ay aw ar av au++[aL bJ 3 [ae p2000]]) (fun v B=>∃ aP aO bA bv bq bp bB bw,v = .tuple #[.agg (al r.1 aP aO bA bv bq bp bB bw).toArray,ae r.2]∧B = (aS r.1 aP aO bA bv bq bp bB bw++[aL bJ 3 [ae p2000]])):=by
 refine ai Tryz.func62 rfl rfl ?_
 unfold ir.f at H
 refine aQ (o' (bN (h:=fun b=>o' (cy (h:=fun s=>ad aV (h:=eJ (l' (ck 5) ?_)))))))
 obtain⟨R,u,H⟩:=ac H
 refine o' (da [0,1,2,3] [0,1,2,3,4,5,6] (rM.ok u) ?_)
 refine ad (ca rfl) (h:=bC ?_)
 rcases bH H with⟨a,H⟩|⟨a,H⟩
 ·refine aC rfl a (aQ (bO (.agg (al cx none 0 none 0 none 0 none 0).toArray) dA (h:=o' (bg s 0 6 (al cx none 0 none 0 none 0 none 0) (h:=ad aV (h:=cE ?_))))))
  have h:=aN H;subst h
  exact lT [.cell 4 34,.tmp 5] ((Gh.nilBuf bE 55).trans ((Gh.nilBuf (Kd.int .i64) 3).trans ((Gh.nilBuf bE 55).trans ((Gh.nilBuf (Kd.int .i32) 21).trans (eY [7,8,9,10,4]))))) ⟨none,0,none,0,none,0,none,0,rfl,rfl⟩ ⟨cR 6,cP,trivial⟩
 refine aD rfl a (ap (aa (aQ (l' (ck 5) ?_))))
 obtain⟨y,z,H⟩:=ac H
 refine o' (dN [0,1,2,3] [0,1,2,3,4,5,6] (lL.ok z) fun D E F I J K L M=>?_)
 refine o' (bg b 0 9 (al y D E F I J K L M) (h:=cV (ad ax (h:=s' (.agg #[aK b]) dA ?_))))
 obtain⟨N,O,H⟩:=ac H
 refine o' (rn [9,0,1,2,3,8] [4,5,6,7,10] (je (vs:=[.agg #[aK b]]) (cap:=[aK bJ]) rfl Tryz.func84 AU rfl rfl) (kc.ok (ba:=b) (gV:=bJ) O) ?_)
 rintro _ _⟨c,d,j,l,m,o,p,q,rfl,rfl⟩
 refine cV (bD (ck 0) (h:=o' (bg s 0 10 (al N c d j l m o p q) (h:=ad aV (h:=cF ?_)))))
 have h:=aN H;subst h
 exact dt [.cell 4 34,.tmp 5] [1,2,3,4,5] ⟨c,d,j,l,m,o,p,q,rfl,rfl⟩ ⟨cR 10,cP,trivial⟩

end Go.Proofs.YtckilbegmbaeeaaGreat.Z3

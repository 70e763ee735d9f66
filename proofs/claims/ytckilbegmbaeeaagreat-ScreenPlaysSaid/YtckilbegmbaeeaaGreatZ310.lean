/- What functions compute, and that they do: 129w0, 130Lb_0_, 29, 30, 62f76xx_1_, 62f78xx_1_, 76Lb_0_, 77Lb_0_, 78Lb_0_, 79Lb_0_. -/
import Derived.Test.YtckilbegmbaeeaaGreatZ39
namespace Go.Proofs.YtckilbegmbaeeaaGreat.Z3
open Go Go.RowKit Go.Proofs.YtckilbegmbaeeaaGreat.SL
open Go.IntKind (i64)
set_option linter.unusedVariables false
set_option maxHeartbeats 20000000
set_option maxRecDepth 100000
set_option linter.unusedSimpArgs false
attribute [local irreducible] IntKind.wrap cC dO eX gp gl lH fU cN gm rd sub bytesOf eG cL
variable {ba gV bJ dm nS af ay ar au k : Nat}
variable {ag az aw av : Option Addr}
def iI.f (p0 : aG) (a1 : Int) (a2 : Int) : Option (aG):=lt (i64.wrap (p0.f0.f1 - 1)) fun m=>(if p0.f1 ≤ p0.f6 then (some p0.f6) else (some m) : Option (Int)).bind (fun b=>(if p0.f1 ≥ p0.f5 then (some p0.f5) else (some 0) : Option (Int)).bind (fun c=>(mc.f a1).bind (fun d=>(kJ.f (i64.wrap (p0.f1 + d)) c b).bind (fun a=>(mc.f a2).bind (fun h=>(de.f ({ p0 with f1:=a })).bind (fun j=>(kJ.f (i64.wrap (p0.f2 + h)) 0 j).bind (fun l=>some (({ p0 with f1:=a,f2:=l,f3:=false })))))))))
theorem iI.ok {p0 : aG} {a1 : Int} {a2 : Int} {r : aG} (H : iI.f p0 a1 a2 = some r) : df Tryz.prog 77 #[.agg #[.pointer (some ⟨ba,0,none⟩)],ae a1,ae a2] (cK ba p0 ag af az ay aw ar av au) (fun v B=>∃ P0_0_ q0_0_ P0_1_ q0_1_ P0_2_ q0_2_ P0_3_ q0_3_,v = .tuple #[]∧B = (cK ba r P0_0_ q0_0_ P0_1_ q0_1_ P0_2_ q0_2_ P0_3_ q0_3_)):=by
 refine ai Tryz.func77 rfl rfl ?_
 unfold iI.f at H
 refine aQ (o' (bN (h:=fun a=>bC (ao ?_))))
 refine fk (dG 0 9) [0,5] (dG 1 4) fun _ _ _ _ _ sH dd pk=>?_
 refine bf 0 rfl sH aE (h:=bT 1 rfl sH (aT 1) (h:=bf 2 rfl sH cz (h:=bf 3 rfl sH aE (h:=bf 4 rfl sH aE (h:=bT 5 rfl sH (aT 0) (h:=bf 6 rfl sH (cY rfl rfl) (h:=T' 7 rfl sH aV ?_)))))))
 obtain⟨u,y,H⟩:=br H
 refine kY (ae u) 8 rfl sH (bz (v:=ae u) (congrArg (Value.int .i64) y.symm)) (h:=aW dd sH (aH (by kernel_rfl) (aa (ao (ao ?_)))))
 refine fk (dG 0 11) [0,1] (dG 2 4) fun _ _ _ _ _ sH dd pk=>?_
 refine bf 0 rfl sH aE (h:=bT 1 rfl sH (aT 1) (h:=bf 2 rfl sH cz (h:=bf 3 rfl sH aE (h:=bT 4 rfl sH (aT 0) (h:=bf 5 rfl sH aE (h:=bT 6 rfl sH (aT 1) (h:=bf 7 rfl sH cz (h:=bf 8 rfl sH aE (h:=r' 9 rfl sH (aT 0) ?_)))))))))
 refine bf 10 rfl sH (fV rfl rfl) (h:=aW dd sH (aH (by kernel_rfl) (aa ?_)))
 obtain⟨o,H,j⟩:=ac H
 refine bI (St [(1,ae a1),(2,ae a2),(3,aK a),(6,ae 0),(7,ae o)] (aL ba 34 (al p0 ag af az ay aw ar av au)::(aS p0 ag af az ay aw ar av au++[aL a 84 [aK ba]]))) ?_ ?_
 ·rcases bH H with⟨b,H⟩|⟨b,H⟩
  ·refine aB rfl b (ah (ad aE (h:=bD (aT 1) (h:=ad cz (h:=ad aE (h:=bD (aT 0) (h:=ad aV (h:=aj ?_))))))))
   have h:=aN H;subst h
   exact bM [0,2,3,4,5,1]
  refine aA rfl b (ap ?_)
  have h:=aN H;subst h
  exact bM [0,2,3,4,5,1]
 rintro e ds As q
 clear H
 have H:=j
 clear j
 refine aa (SA.of_St q fun junk=>ao (ao ?_))
 refine fk (dG 0 11) [0,5] (dG 1 4) fun _ _ _ _ _ sH dd pk=>?_
 refine bf 0 rfl sH aE (h:=bT 1 rfl sH (aT 1) (h:=bf 2 rfl sH cz (h:=bf 3 rfl sH aE (h:=bT 4 rfl sH (aT 0) (h:=bf 5 rfl sH aE (h:=bT 6 rfl sH (aT 1) (h:=bf 7 rfl sH cz (h:=bf 8 rfl sH aE (h:=r' 9 rfl sH (aT 0) ?_)))))))))
 refine bf 10 rfl sH (dI rfl rfl) (h:=aW dd sH (aH (by kernel_rfl) (aa ?_)))
 obtain⟨z,H,m⟩:=ac H
 refine bI (St [(1,ae a1),(2,ae a2),(3,aK a),(6,ae z),(7,ae o)] (aL ba 34 (al p0 ag af az ay aw ar av au)::(aS p0 ag af az ay aw ar av au++[aL a 84 [aK ba]]))) ?_ ?_
 ·rcases bH H with⟨c,H⟩|⟨c,H⟩
  ·refine aB rfl c (ah (ad aE (h:=bD (aT 1) (h:=ad cz (h:=ad aE (h:=bD (aT 0) (h:=ad aV (h:=aj ?_))))))))
   have h:=aN H;subst h
   exact bM [0,2,3,4,5,1]
  refine aA rfl c (ap ?_)
  have h:=aN H;subst h
  exact bM [0,2,3,4,5,1]
 rintro e ds As s
 clear H
 have H:=m
 clear m
 refine aa (SA.of_St s fun junk=>ao ?_)
 refine fk (0::1::2::3::4::5::6::7::9::10::11::13::14::[]) [0,5] (dG 1 4) fun _ _ _ _ _ sH dd pk=>?_
 refine bf 0 rfl sH aE (h:=bT 1 rfl sH (aT 1) (h:=bf 2 rfl sH aE (h:=bT 3 rfl sH (aT 1) (h:=bf 4 rfl sH cz (h:=bf 5 rfl sH aE (h:=bT 6 rfl sH (aT 0) (h:=bf 7 rfl sH ax (h:=bf 10 rfl sH ax (h:=T' 11 rfl sH ax ?_)))))))))
 obtain⟨R,D,H⟩:=ac H
 refine dx 8 rfl dd (da [] [0,1,2,3] (mc.ok D) ?_)
 refine T' 9 rfl sH (bV rfl rfl) ?_
 obtain⟨d,E,H⟩:=ac H
 refine dx 12 rfl dd (da [] [0,1,2,3] (kJ.ok E) ?_)
 refine bf 13 rfl sH cz (h:=bf 14 rfl sH aE (h:=aW dd sH (ey 15 rfl (cH 0 [ae d] (h:=(aH (by kernel_rfl) (aa (ao (bj 2 fun L=>bj 3 fun M=>bj 4 fun N=>bj 5 fun O=>?_)))))))))
 refine fN [0,1,2,3,4,5,6,7,9,10,13,14] (List.toArray ([]::[0]::[]::[2]::[2,3]::[2,3,4]::(dG 2 4)::[]::[7]::(dG 2 6)::[]::[7,10]::[2,3,4,5,6,7,9,10]::[0,1,2,3,4,5,6,7,9,10]::[0,1,2,3,4,5,6,7,9,10,13]::[0,1,2,3,4,5,6,7,9,10,13,14]::[])) [aL ba 34 (al ({ p0 with f1:=d }) ag af az ay aw ar av au),aL a 84 [aK ba]] jy (bP.thn bP.body) fun Y U Z pk=>?_
 refine eb (aK a) 0 [0,1] rfl (kB a 0 0) (h:=gY 1 [0,1] rfl (ig a 0 1) (h:=eb (aK a) 2 [0,1] rfl (kB a 0 0) (h:=gY 3 [0,1] rfl (ig a 0 1) (h:=eb (aK ba) 4 [0,1] rfl cz (h:=eb (qF ba 4) 5 [0,1] rfl (kB ba 0 4) (h:=gY 6 [0,1] rfl (ig ba 4 0) (h:=eb (ae a2) 7 [0,1] rfl fM (h:=sA 10 [0,1] rfl (cG a 0 1 [aK ba]) ?_))))))))
 obtain⟨F,I,H⟩:=ac H
 refine eU 8 (by kernel_rfl) rfl (.no rfl) (da [] [0,1,2,3,4,5] (mc.ok I) ?_)
 refine ⟨fun _=>⟨[0,1],rfl,rfl⟩,?_⟩
 refine vU (ae (i64.wrap (p0.f2 + F))) 9 [0,1] rfl (bV rfl rfl) ?_
 obtain⟨S,J,H⟩:=ac H
 refine eU 11 (by kernel_rfl) rfl (.no rfl) (da [0,2,3,4,5] [1] (de.ok (ba:=ba) J) ?_)
 refine ⟨fun _=>⟨[0,5],rfl,rfl⟩,?_⟩
 obtain⟨p,K,H⟩:=ac H
 refine eU 12 (by kernel_rfl) rfl (.no rfl) (da [] [0,1,2,3,4,5] (kJ.ok K) ?_)
 refine ⟨fun _=>⟨[0,5],rfl,rfl⟩,?_⟩
 refine eb (aK ba) 13 [0,5] rfl cz (h:=eb (qF ba 4) 14 [0,5] rfl (kB ba 0 4) (h:=eU 15 (by kernel_rfl) rfl (.no rfl) (cH 0 [ae p] (h:=?_))))
 refine ⟨fun h_=>absurd h_ (by decide),?_⟩
 refine aH (by kernel_rfl) (aa (SA.of_St (l:=[(3,aK a)]) (B:=(aL ba 34 (al ({ p0 with f1:=d,f2:=p }) ag af az ay aw ar av au)::(aS p0 ag af az ay aw ar av au++[aL a 84 [aK ba]]))) (St.mk1 (cJ rfl dQ) (Gh.sel [0,1,2,3,4,5] (by kernel_rfl) (by kernel_rfl))) fun junk=>ah (ad aE (h:=bD (aT 5) (h:=ad cz (h:=ad aE (h:=o' (cH 0 [.bool false] (h:=(aj ?_))))))))))
 have h:=aN H;subst h
 exact fD [0,1,2,3,4] ⟨ag,af,az,ay,aw,ar,av,au,rfl,rfl⟩


def ka.f (p0 : aG) (p1 : Int) (p2 : Int) : Option (aG):=(iI.f p0 p1 p2).bind (fun a=>some (a))
theorem ka.ok {p0 : aG} {p1 : Int} {p2 : Int} {r : aG} (H : ka.f p0 p1 p2 = some r) : df Tryz.prog 76 #[.agg #[.pointer (some ⟨ba,0,none⟩)],.pointer (some ⟨gV,0,none⟩),.pointer (some ⟨nS,0,none⟩)] (aL ba 34 (al p0 ag af az ay aw ar av au)::(aS p0 ag af az ay aw ar av au++[aL gV 3 [ae p1],aL nS 3 [ae p2]])) (fun v B=>∃ P0_0_ q0_0_ P0_1_ q0_1_ P0_2_ q0_2_ P0_3_ q0_3_,v = .tuple #[]∧B = (aL ba 34 (al r P0_0_ q0_0_ P0_1_ q0_1_ P0_2_ q0_2_ P0_3_ q0_3_)::(aS r P0_0_ q0_0_ P0_1_ q0_1_ P0_2_ q0_2_ P0_3_ q0_3_++[aL gV 3 [ae p1],aL nS 3 [ae p2]]))):=by
 refine ai Tryz.func76 rfl rfl ?_
 unfold ka.f at H
 refine aQ (o' (bN (h:=fun q=>bC (bj 1 fun s=>bj 2 fun u=>bj 3 fun y=>bj 4 fun z=>ah (bD (cG q 0 7 [aK ba]) (h:=l' (aT 5) ?_))))))
 refine l' (aT 6) ?_
 obtain⟨D,a,H⟩:=ac H
 refine o' (dN [0,1,2,3,4] [5,6,7] (iI.ok (ba:=ba) a) fun b c d j l m o p=>?_)
 refine aj ?_
 have h:=aN H;subst h
 exact fD [0,1,2,3,4,5,6] ⟨b,c,d,j,l,m,o,p,rfl,rfl⟩


def gW.f (k : Nat) (a0 : aG) (p2000 : Int) (p2001 : Int) : Option (aG × Int):=(ei.f k a0).bind (fun a=>if (!a) = true then (some (((aG.mk (bF.mk 0 0 ([] : (List aZ))) 0 0 false (cA.mk 0 0 false false false false false false false false) 0 0 ([] : (List Int)) false false false false false false (dq.mk 0 0 false false (cA.mk 0 0 false false false false false false false false)) false (bF.mk 0 0 ([] : (List aZ))) ([] : (List Int))),2))) else ((lL.f a0).bind (fun b=>(ka.f b p2000 p2001).bind (fun oU=>some ((oU,0))))))
theorem gW.ok {a0 : aG} {p2000 : Int} {p2001 : Int} {r : aG × Int} (H : gW.f k a0 p2000 p2001 = some r) : df Tryz.prog 62 #[.agg (al a0 ag af az ay aw ar av au).toArray,.func (.func 76) #[] #[.pointer (some ⟨bJ,0,none⟩),.pointer (some ⟨dm,0,none⟩)]] (eK a0 ag af az ay aw ar av au++[aL bJ 3 [ae p2000],aL dm 3 [ae p2001]]) (fun v B=>∃ aP aO bA bv bq bp bB bw,v = .tuple #[.agg (al r.1 aP aO bA bv bq bp bB bw).toArray,ae r.2]∧B = (aS r.1 aP aO bA bv bq bp bB bw++[aL bJ 3 [ae p2000],aL dm 3 [ae p2001]])):=by
 refine ai Tryz.func62 rfl rfl ?_
 unfold gW.f at H
 refine aQ (o' (bN (h:=fun b=>o' (cy (h:=fun s=>ad aV (h:=eJ (l' (ck 6) ?_)))))))
 obtain⟨O,u,H⟩:=ac H
 refine o' (da [0,1,2,3] [0,1,2,3,4,5,6,7] (rM.ok u) ?_)
 refine ad (ca rfl) (h:=bC ?_)
 rcases bH H with⟨a,H⟩|⟨a,H⟩
 ·refine aC rfl a (aQ (bO (.agg (al cx none 0 none 0 none 0 none 0).toArray) dA (h:=o' (bg s 0 7 (al cx none 0 none 0 none 0 none 0) (h:=ad aV (h:=cE ?_))))))
  have h:=aN H;subst h
  exact lT [.cell 4 34,.tmp 5] ((Gh.nilBuf bE 55).trans ((Gh.nilBuf (Kd.int .i64) 3).trans ((Gh.nilBuf bE 55).trans ((Gh.nilBuf (Kd.int .i32) 21).trans (eY [8,9,10,11,4,5]))))) ⟨none,0,none,0,none,0,none,0,rfl,rfl⟩ ⟨cR 7,cP,trivial⟩
 refine aD rfl a (ap (aa (aQ (l' (ck 6) ?_))))
 obtain⟨y,z,H⟩:=ac H
 refine o' (dN [0,1,2,3] [0,1,2,3,4,5,6,7] (lL.ok z) fun D E F I J K L M=>?_)
 refine o' (bg b 0 10 (al y D E F I J K L M) (h:=cV (ad ax (h:=s' (.agg #[aK b]) dA ?_))))
 obtain⟨oU,N,H⟩:=ac H
 refine o' (rn [10,0,1,2,3,8,9] [4,5,6,7,11] (je (vs:=[.agg #[aK b]]) (cap:=[aK bJ,aK dm]) rfl Tryz.func76 Am rfl rfl) (ka.ok (ba:=b) (gV:=bJ) (nS:=dm) N) ?_)
 rintro _ _⟨c,d,j,l,m,o,p,q,rfl,rfl⟩
 refine cV (bD (ck 0) (h:=o' (bg s 0 11 (al oU c d j l m o p q) (h:=ad aV (h:=cF ?_)))))
 have h:=aN H;subst h
 exact dt [.cell 4 34,.tmp 5] [1,2,3,4,5,6] ⟨c,d,j,l,m,o,p,q,rfl,rfl⟩ ⟨cR 11,cP,trivial⟩


def wh.f (k : Nat) (a0 : aG) (a1 : Int) (a2 : Int) : Option (aG × Int):=(gW.f k a0 a1 a2).bind (fun a=>some ((a.1,a.2)))
theorem wh.ok {a0 : aG} {a1 : Int} {a2 : Int} {r : aG × Int} (H : wh.f k a0 a1 a2 = some r) : df Tryz.prog 29 #[.agg (al a0 ag af az ay aw ar av au).toArray,ae a1,ae a2] (eK a0 ag af az ay aw ar av au) (fun v B=>∃ aP aO bA bv bq bp bB bw,v = .tuple #[.agg (al r.1 aP aO bA bv bq bp bB bw).toArray,ae r.2]∧B = (aS r.1 aP aO bA bv bq bp bB bw)):=by
 refine ai Tryz.func29 rfl rfl ?_
 unfold wh.f at H
 refine aQ (o' (bN (h:=fun z=>o' (bN (h:=fun p=>o' (bN (h:=fun q=>o' (cy (h:=fun s=>ad aV (h:=cV (bD (ck 4) (h:=s' (.func (.func 76) #[] #[aK p,aK q]) (dy (us:=[aK p,aK q]) rfl) ?_))))))))))))
 obtain⟨u,y,H⟩:=ac H
 refine o' (dN [0,1,2,3,5,6] [0,1,2,3,4,7] (gW.ok (bJ:=p) (dm:=q) y) fun a b c d j l m o=>?_)
 refine ad cg (h:=ad cg (h:=o' (bg s 0 11 (al u.1 a b c d j l m o) (h:=ad aV (h:=cF ?_)))))
 have h:=aN H;subst h
 exact dt [.cell 6 34,.tmp 7] [0,1,2,3] ⟨a,b,c,d,j,l,m,o,rfl,rfl⟩ ⟨cR 11,cP,trivial⟩


def fw.f (p0 : aG) (a1 : Int) (a2 : Int) : Option (aG):=lt (i64.wrap (p0.f0.f1 - 1)) fun j=>(if p0.f9 = true then (some (p0.f5,p0.f6)) else (some (0,j)) : Option (Int × Int)).bind (fun a=>(mc.f a1).bind (fun c=>(kJ.f (i64.wrap (a.1 + c)) a.1 a.2).bind (fun b=>(de.f ({ p0 with f1:=b })).bind (fun d=>(kJ.f a2 0 d).bind (fun h=>some (({ p0 with f1:=b,f2:=h,f3:=false })))))))
theorem fw.ok {p0 : aG} {a1 : Int} {a2 : Int} {r : aG} (H : fw.f p0 a1 a2 = some r) : df Tryz.prog 79 #[.agg #[.pointer (some ⟨ba,0,none⟩)],ae a1,ae a2] (cK ba p0 ag af az ay aw ar av au) (fun v B=>∃ P0_0_ q0_0_ P0_1_ q0_1_ P0_2_ q0_2_ P0_3_ q0_3_,v = .tuple #[]∧B = (cK ba r P0_0_ q0_0_ P0_1_ q0_1_ P0_2_ q0_2_ P0_3_ q0_3_)):=by
 refine ai Tryz.func79 rfl rfl ?_
 unfold fw.f at H
 refine aQ (o' (bN (h:=fun y=>bC (ao ?_))))
 refine fk (dG 0 9) [0,5] (dG 1 4) fun _ _ _ _ _ sH dd pk=>?_
 refine bf 0 rfl sH aE (h:=bT 1 rfl sH (aT 1) (h:=bf 2 rfl sH cz (h:=bf 3 rfl sH aE (h:=bf 4 rfl sH aE (h:=bT 5 rfl sH (aT 0) (h:=bf 6 rfl sH (cY rfl rfl) (h:=T' 7 rfl sH aV ?_)))))))
 obtain⟨d,l,H⟩:=br H
 refine kY (ae d) 8 rfl sH (bz (v:=ae d) (congrArg (Value.int .i64) l.symm)) (h:=aW dd sH (aH (by kernel_rfl) (aa (ao (aQ (ad aE (h:=bD (aT 1) (h:=ad cz (h:=ad aE (h:=bD (aT 0) (h:=bC ?_)))))))))))
 obtain⟨j,H,b⟩:=ac H
 refine bI (St [(1,ae a1),(2,ae a2),(3,aK y),(6,ae j.1),(7,ae j.2)] (aL ba 34 (al p0 ag af az ay aw ar av au)::(aS p0 ag af az ay aw ar av au++[aL y 84 [aK ba]]))) ?_ ?_
 ·rcases bH H with⟨a,H⟩|⟨a,H⟩
  ·refine aC rfl a ?_
   refine fk (dG 0 12) [0,1] (dG 2 4) fun _ _ _ _ _ sH dd pk=>?_
   refine bf 0 rfl sH aE (h:=bT 1 rfl sH (aT 1) (h:=bf 2 rfl sH cz (h:=bf 3 rfl sH aE (h:=bT 4 rfl sH (aT 0) (h:=bf 5 rfl sH aE (h:=bT 6 rfl sH (aT 1) (h:=bf 7 rfl sH cz (h:=bf 8 rfl sH aE (h:=r' 9 rfl sH (aT 0) ?_)))))))))
   refine bf 10 rfl sH aV (h:=bf 11 rfl sH aV (h:=aW dd sH (aH (by kernel_rfl) ?_)))
   have h:=aN H;subst h
   exact bM [0,2,3,4,5,1]
  refine aD rfl a (ap ?_)
  have h:=aN H;subst h
  exact bM [0,2,3,4,5,1]
 rintro e ds As c
 clear H
 have H:=b
 clear b
 refine aa (SA.of_St c fun junk=>ao ?_)
 refine fk [0,1,2,3,5,6,7,9,10] [5] (dG 0 5) fun _ _ _ _ _ sH dd pk=>?_
 refine bf 0 rfl sH aE (h:=bT 1 rfl sH (aT 0) (h:=bf 2 rfl sH ax (h:=bf 3 rfl sH ax (h:=bf 6 rfl sH ax (h:=T' 7 rfl sH ax ?_)))))
 obtain⟨I,m,H⟩:=ac H
 refine dx 4 rfl dd (da [] [0,1,2,3,4] (mc.ok m) ?_)
 refine T' 5 rfl sH (bV rfl rfl) ?_
 obtain⟨o,p,H⟩:=ac H
 refine dx 8 rfl dd (da [] [0,1,2,3,4] (kJ.ok p) ?_)
 refine bf 9 rfl sH cz (h:=bf 10 rfl sH aE (h:=dx 11 rfl dd (cH 0 [ae o] (h:=(aW dd sH (aH (by kernel_rfl) (aa (ao (bj 2 fun z=>bj 3 fun D=>bj 4 fun E=>bj 5 fun F=>?_)))))))))
 refine fk [0,1,2,3,6,7] [0] (dG 1 5) fun _ _ _ _ _ sH dd pk=>?_
 refine bf 0 rfl sH aE (h:=bT 1 rfl sH (aT 0) (h:=bf 2 rfl sH ax (h:=r' 3 rfl sH (cG y 0 0 [aK ba]) ?_)))
 obtain⟨J,q,H⟩:=ac H
 refine dx 4 rfl dd (da [0,1,2,3,4] [] (de.ok (ba:=ba) q) ?_)
 obtain⟨s,u,H⟩:=ac H
 refine dx 5 rfl dd (da [] [0,1,2,3,4] (kJ.ok u) ?_)
 refine bf 6 rfl sH cz (h:=bf 7 rfl sH aE (h:=dx 8 rfl dd (cH 0 [ae s] (h:=(aW dd sH (aH (by kernel_rfl) (aa (ah (ad aE (h:=bD (aT 0) (h:=ad cz (h:=S' aE ?_))))))))))))
 refine o' (cH 1 [.bool false] (h:=(aj ?_)))
 have h:=aN H;subst h
 exact fD [1,2,3,4,5] ⟨ag,af,az,ay,aw,ar,av,au,rfl,rfl⟩


def kp.f (p0 : aG) (p1 : Int) (p2 : Int) : Option (aG):=(fw.f p0 p1 p2).bind (fun a=>some (a))
theorem kp.ok {p0 : aG} {p1 : Int} {p2 : Int} {r : aG} (H : kp.f p0 p1 p2 = some r) : df Tryz.prog 78 #[.agg #[.pointer (some ⟨ba,0,none⟩)],.pointer (some ⟨gV,0,none⟩),.pointer (some ⟨nS,0,none⟩)] (aL ba 34 (al p0 ag af az ay aw ar av au)::(aS p0 ag af az ay aw ar av au++[aL gV 3 [ae p1],aL nS 3 [ae p2]])) (fun v B=>∃ P0_0_ q0_0_ P0_1_ q0_1_ P0_2_ q0_2_ P0_3_ q0_3_,v = .tuple #[]∧B = (aL ba 34 (al r P0_0_ q0_0_ P0_1_ q0_1_ P0_2_ q0_2_ P0_3_ q0_3_)::(aS r P0_0_ q0_0_ P0_1_ q0_1_ P0_2_ q0_2_ P0_3_ q0_3_++[aL gV 3 [ae p1],aL nS 3 [ae p2]]))):=by
 refine ai Tryz.func78 rfl rfl ?_
 unfold kp.f at H
 refine aQ (o' (bN (h:=fun q=>bC (bj 1 fun s=>bj 2 fun u=>bj 3 fun y=>bj 4 fun z=>ah (bD (cG q 0 7 [aK ba]) (h:=l' (aT 5) ?_))))))
 refine l' (aT 6) ?_
 obtain⟨D,a,H⟩:=ac H
 refine o' (dN [0,1,2,3,4] [5,6,7] (fw.ok (ba:=ba) a) fun b c d j l m o p=>?_)
 refine aj ?_
 have h:=aN H;subst h
 exact fD [0,1,2,3,4,5,6] ⟨b,c,d,j,l,m,o,p,rfl,rfl⟩


def gP.f (k : Nat) (a0 : aG) (p2000 : Int) (p2001 : Int) : Option (aG × Int):=(ei.f k a0).bind (fun a=>if (!a) = true then (some (((aG.mk (bF.mk 0 0 ([] : (List aZ))) 0 0 false (cA.mk 0 0 false false false false false false false false) 0 0 ([] : (List Int)) false false false false false false (dq.mk 0 0 false false (cA.mk 0 0 false false false false false false false false)) false (bF.mk 0 0 ([] : (List aZ))) ([] : (List Int))),2))) else ((lL.f a0).bind (fun b=>(kp.f b p2000 p2001).bind (fun oU=>some ((oU,0))))))
theorem gP.ok {a0 : aG} {p2000 : Int} {p2001 : Int} {r : aG × Int} (H : gP.f k a0 p2000 p2001 = some r) : df Tryz.prog 62 #[.agg (al a0 ag af az ay aw ar av au).toArray,.func (.func 78) #[] #[.pointer (some ⟨bJ,0,none⟩),.pointer (some ⟨dm,0,none⟩)]] (eK a0 ag af az ay aw ar av au++[aL bJ 3 [ae p2000],aL dm 3 [ae p2001]]) (fun v B=>∃ aP aO bA bv bq bp bB bw,v = .tuple #[.agg (al r.1 aP aO bA bv bq bp bB bw).toArray,ae r.2]∧B = (aS r.1 aP aO bA bv bq bp bB bw++[aL bJ 3 [ae p2000],aL dm 3 [ae p2001]])):=by
 refine ai Tryz.func62 rfl rfl ?_
 unfold gP.f at H
 refine aQ (o' (bN (h:=fun b=>o' (cy (h:=fun s=>ad aV (h:=eJ (l' (ck 6) ?_)))))))
 obtain⟨O,u,H⟩:=ac H
 refine o' (da [0,1,2,3] [0,1,2,3,4,5,6,7] (rM.ok u) ?_)
 refine ad (ca rfl) (h:=bC ?_)
 rcases bH H with⟨a,H⟩|⟨a,H⟩
 ·refine aC rfl a (aQ (bO (.agg (al cx none 0 none 0 none 0 none 0).toArray) dA (h:=o' (bg s 0 7 (al cx none 0 none 0 none 0 none 0) (h:=ad aV (h:=cE ?_))))))
  have h:=aN H;subst h
  exact lT [.cell 4 34,.tmp 5] ((Gh.nilBuf bE 55).trans ((Gh.nilBuf (Kd.int .i64) 3).trans ((Gh.nilBuf bE 55).trans ((Gh.nilBuf (Kd.int .i32) 21).trans (eY [8,9,10,11,4,5]))))) ⟨none,0,none,0,none,0,none,0,rfl,rfl⟩ ⟨cR 7,cP,trivial⟩
 refine aD rfl a (ap (aa (aQ (l' (ck 6) ?_))))
 obtain⟨y,z,H⟩:=ac H
 refine o' (dN [0,1,2,3] [0,1,2,3,4,5,6,7] (lL.ok z) fun D E F I J K L M=>?_)
 refine o' (bg b 0 10 (al y D E F I J K L M) (h:=cV (ad ax (h:=s' (.agg #[aK b]) dA ?_))))
 obtain⟨oU,N,H⟩:=ac H
 refine o' (rn [10,0,1,2,3,8,9] [4,5,6,7,11] (je (vs:=[.agg #[aK b]]) (cap:=[aK bJ,aK dm]) rfl Tryz.func78 Br rfl rfl) (kp.ok (ba:=b) (gV:=bJ) (nS:=dm) N) ?_)
 rintro _ _⟨c,d,j,l,m,o,p,q,rfl,rfl⟩
 refine cV (bD (ck 0) (h:=o' (bg s 0 11 (al oU c d j l m o p q) (h:=ad aV (h:=cF ?_)))))
 have h:=aN H;subst h
 exact dt [.cell 4 34,.tmp 5] [1,2,3,4,5,6] ⟨c,d,j,l,m,o,p,q,rfl,rfl⟩ ⟨cR 11,cP,trivial⟩


def xb.f (k : Nat) (a0 : aG) (a1 : Int) (a2 : Int) : Option (aG × Int):=(gP.f k a0 a1 a2).bind (fun a=>some ((a.1,a.2)))
theorem xb.ok {a0 : aG} {a1 : Int} {a2 : Int} {r : aG × Int} (H : xb.f k a0 a1 a2 = some r) : df Tryz.prog 30 #[.agg (al a0 ag af az ay aw ar av au).toArray,ae a1,ae a2] (eK a0 ag af az ay aw ar av au) (fun v B=>∃ aP aO bA bv bq bp bB bw,v = .tuple #[.agg (al r.1 aP aO bA bv bq bp bB bw).toArray,ae r.2]∧B = (aS r.1 aP aO bA bv bq bp bB bw)):=by
 refine ai Tryz.func30 rfl rfl ?_
 unfold xb.f at H
 refine aQ (o' (bN (h:=fun z=>o' (bN (h:=fun p=>o' (bN (h:=fun q=>o' (cy (h:=fun s=>ad aV (h:=cV (bD (ck 4) (h:=s' (.func (.func 78) #[] #[aK p,aK q]) (dy (us:=[aK p,aK q]) rfl) ?_))))))))))))
 obtain⟨u,y,H⟩:=ac H
 refine o' (dN [0,1,2,3,5,6] [0,1,2,3,4,7] (gP.ok (bJ:=p) (dm:=q) y) fun a b c d j l m o=>?_)
 refine ad cg (h:=ad cg (h:=o' (bg s 0 11 (al u.1 a b c d j l m o) (h:=ad aV (h:=cF ?_)))))
 have h:=aN H;subst h
 exact dt [.cell 6 34,.tmp 7] [0,1,2,3] ⟨a,b,c,d,j,l,m,o,rfl,rfl⟩ ⟨cR 11,cP,trivial⟩


def ja.f (k : Nat) (l0 : (List aZ)) (o0 : Int) (n0 : Int) (a1 : Int) (a2 : Int) (a3 : cA) : Option ((List aZ)):=if 0 ≤ o0∧0 ≤ n0∧o0 + n0 ≤ (l0.length : Int) then (if 0 ≤ a1∧a1 ≤ a2∧a2 ≤ n0 then ((eT.f k l0 (o0 + a1) (a2 - a1) a3).bind (fun a=>if a.length = l0.length then ((dW.f k a o0 n0).bind (fun b=>if b.length = a.length then (some (b)) else none)) else none)) else none) else none
theorem ja.ok {l0 : (List aZ)} {o0 : Int} {n0 : Int} {a1 : Int} {a2 : Int} {a3 : cA} {A0 V0 : Option Addr} {c0 v0 : Nat} (hw0 : dZ A0 V0 15 o0 n0 v0) {r : (List aZ)} (H : ja.f k l0 o0 n0 a1 a2 a3 = some r) : df Tryz.prog 129 #[.slice V0 n0.toNat v0,ae a1,ae a2,.agg (bG a3).toArray] [Buf bE 55 A0 c0 l0] (fun v B=>v = .tuple #[]∧B = [Buf bE 55 A0 c0 r]):=by
 refine ai Tryz.func129 rfl rfl ?_
 unfold ja.f at H
 obtain⟨⟨z,D,E⟩,H⟩:=aR H
 have hcv_hw0:=hw0.cap
 refine aQ (o' (bN (h:=fun K=>bC (ao (bj 0 fun J=>?_)))))
 refine fk (dG 0 5) [1] [0] fun _ _ _ _ _ sH dd pk=>?_
 refine bf 0 rfl sH ax (h:=bf 1 rfl sH ax (h:=T' 2 rfl sH ax ?_))
 obtain⟨⟨d,j,o⟩,H⟩:=aR H
 refine t' (.slice (cL V0 a1 ((v0 : Nat) : Int) 15) (a2 - a1).toNat (((v0 : Nat) : Int).toNat - a1.toNat)) 3 rfl sH (dh (l:=o0) (m:=n0) (a:=a1) (b:=a2) (q:=((v0 : Nat) : Int)) hw0 Tryz.underlying116 cl rfl rfl rfl rfl (.inr ⟨_,rfl⟩) (.inr ⟨_,rfl⟩) (.inl ⟨rfl,rfl⟩) d j o) ?_
 have p : dZ A0 (cL V0 a1 ((v0 : Nat) : Int) 15) 15 (o0 + a1) (a2 - a1) (((v0 : Nat) : Int).toNat - a1.toNat):=dZ.sub hw0 d j o (.inl rfl) (Int.le_refl _)
 refine r' 4 rfl sH (ck 0) ?_
 obtain⟨F,u,H⟩:=ac H
 obtain⟨c,H⟩:=aR H
 refine dx 5 rfl dd (da [0] [] (eT.ok (o0:=o0 + a1) (n0:=a2 - a1) (A0:=A0) (c0:=c0) (V0:=cL V0 a1 ((v0 : Nat) : Int) 15) (v0:=((v0 : Nat) : Int).toNat - a1.toNat) (hw0:=p) u) ?_)
 try unfold bG
 try rewrite [← c]
 try unfold bG at sH
 try rewrite [← c] at sH
 refine aW dd sH (aH (by kernel_rfl) (aa (ah (S' ax ?_))))
 obtain⟨I,y,H⟩:=ac H
 obtain⟨s,H⟩:=aR H
 refine o' (da [1] [0] (dW.ok (o0:=o0) (n0:=n0) (A0:=A0) (c0:=c0) (V0:=V0) (v0:=v0) (hw0:=hw0) y) ?_)
 try unfold bG
 try rewrite [← s]
 refine aj ?_
 have h:=aN H;subst h
 exact fD [0] ⟨rfl,rfl⟩


def cM.l0 (p0 : aG) (a2 : Int) : Nat → Int → (List aZ) → Option ((List aZ))
  | 0,_,_=>none
  | k + 1,c,a=>if a.length = p0.f0.f2.length then (if c < a2 then ((dJ.f ({ p0 with f0:=(bF.mk p0.f0.f0 p0.f0.f1 a) }) c).bind (fun b=>if (0 ≤ b.1∧0 ≤ b.2∧b.1 + b.2 ≤ (a.length : Int)) then ((ja.f k a b.1 b.2 0 p0.f0.f0 p0.f4).bind (fun d=>if d.length = a.length then (lt (i64.wrap (c + 1)) fun h=>cM.l0 p0 a2 k h d) else none)) else none)) else (some a)) else none
def cM.f (k : Nat) (p0 : aG) (a1 : Int) (a2 : Int) : Option (aG):=(cM.l0 p0 a2 k a1 p0.f0.f2 : Option ((List aZ))).bind (fun a=>if a.length = p0.f0.f2.length then (some (({ p0 with f0:=(bF.mk p0.f0.f0 p0.f0.f1 a) }))) else none)
theorem cM.ok {p0 : aG} {a1 : Int} {a2 : Int} {r : aG} (H : cM.f k p0 a1 a2 = some r) : df Tryz.prog 130 #[.agg #[.pointer (some ⟨ba,0,none⟩)],ae a1,ae a2] (cK ba p0 ag af az ay aw ar av au) (fun v B=>∃ P0_0_ q0_0_ P0_1_ q0_1_ P0_2_ q0_2_ P0_3_ q0_3_,v = .tuple #[]∧B = (cK ba r P0_0_ q0_0_ P0_1_ q0_1_ P0_2_ q0_2_ P0_3_ q0_3_)):=by
 refine ai Tryz.func130 rfl rfl ?_
 unfold cM.f at H
 refine aQ (o' (bN (h:=fun b=>cV (ad ax (h:=ad aV (h:=bC ?_))))))
 obtain⟨l,H,z⟩:=ac H
 refine bI (St [] [aL ba 34 (al ({ p0 with f0:=(bF.mk p0.f0.f0 p0.f0.f1 l) }) ag af az ay aw ar av au),Buf bE 55 ag af l,fm 3 az ay p0.f7,Buf bE 55 aw ar p0.f16.f2,jf 21 av au p0.f17]) ?_ ?_
 ·refine aU (cw (fun k_ e ds As=>∃ (c : Int) (a : (List aZ)),cM.l0 p0 a2 k_ c a = some l∧St [(2,ae a2),(3,aK b),(6,ae c)] [aL ba 34 (al ({ p0 with f0:=(bF.mk p0.f0.f0 p0.f0.f1 a) }) ag af az ay aw ar av au),Buf bE 55 ag af a,fm 3 az ay p0.f7,Buf bE 55 aw ar p0.f16.f2,jf 21 av au p0.f17,aL b 84 [aK ba]] e ds As) (k:=k) ⟨_,_,H,kW [0,1,2,3,4,5]⟩ ?_)
  clear H
  rintro D e ds As ⟨c,a,H,s⟩
  obtain _ | D:=D
  ·cases H
  rw [cM.l0] at H
  obtain⟨J,H⟩:=aR H
  refine SA.of_St s fun junk=>ao (aQ (ad ax (h:=ad ax (h:=ad (cn rfl rfl) (h:=bC ?_)))))
  rcases bH H with⟨m,H⟩|⟨m,H⟩
  ·refine aB rfl m (ap (aa (ao (aU (bj 1 fun M=>bj 2 fun N=>bj 3 fun O=>bj 4 fun R=>?_)))))
   refine fN (0::1::2::3::4::6::7::8::9::10::11::12::13::14::15::16::[]) (List.toArray ([]::[0]::[0,1]::[0,1,2]::[]::(dG 0 5)::[]::[6]::[6,7]::[6,7,8]::(dG 6 4)::(dG 6 5)::[]::[12]::[12,13]::[12,13,14]::(dG 12 4)::(0::1::2::3::4::6::7::8::9::10::11::12::13::14::15::16::[])::[])) [aL ba 34 (al ({ p0 with f0:=(bF.mk p0.f0.f0 p0.f0.f1 a) }) ag af az ay aw ar av au),aL b 84 [aK ba]] jy (bP.inb (bP.thn (bP.thn (bP.inb (bP.thn bP.body))))) fun U S Y pk=>?_
   refine eb (aK b) 0 [0,5] rfl (kB b 0 0) (h:=gY 1 [0,5] rfl (ig b 0 1) (h:=eb (aK ba) 2 [0,5] rfl cz (h:=eb (aK ba) 3 [0,5] rfl (kB ba 0 0) (h:=eb (ae c) 4 [0,5] rfl fM (h:=eb (aK b) 6 [0,5] rfl (kB b 0 0) (h:=gY 7 [0,5] rfl (ig b 0 1) (h:=eb (aK ba) 8 [0,5] rfl cz (h:=eb (aK ba) 9 [0,5] rfl (kB ba 0 0) (h:=vU (aK ba) 10 [0,5] rfl (kB ba 0 0) ?_)))))))))
   refine gY 11 [0,5] rfl (ig ba 0 0) (h:=eb (aK b) 12 [0,5] rfl (kB b 0 0) (h:=gY 13 [0,5] rfl (ig b 0 1) (h:=eb (aK ba) 14 [0,5] rfl cz (h:=eb (qF ba 6) 15 [0,5] rfl (kB ba 0 6) (h:=sA 16 [0,5] rfl (cG ba 6 0 (bG p0.f4)) ?_)))))
   obtain⟨o,E,H⟩:=ac H
   obtain⟨⟨hl320a,hl320b,hl320c⟩,H⟩:=aR H
   refine eU 5 (by kernel_rfl) rfl (.no rfl) (mC [0,1,2,3,4] [5] (dJ.ok (ba:=ba) E) ?_)
   rintro _ _⟨F,I,u,rfl,rfl⟩
   refine ⟨fun _=>⟨[0,5],rfl,rfl⟩,?_⟩
   obtain⟨L,y,H⟩:=ac H
   obtain⟨p,H⟩:=aR H
   refine eU 17 (by kernel_rfl) rfl (.no rfl) (da [1] [0,2,3,4,5] (ja.ok (o0:=o.1) (n0:=o.2) (A0:=ag) (c0:=af) (V0:=F) (v0:=I) (hw0:=u) y) ?_)
   try unfold cK
   try unfold kD
   try unfold al
   try rewrite [← p]
   refine ⟨fun h_=>absurd h_ (by decide),?_⟩
   refine aH (by kernel_rfl) (aF (aa (ah (ad ax (h:=S' (bV rfl rfl) ?_)))))
   obtain⟨d,q,H⟩:=br H
   refine bO (ae d) (bz (v:=ae d) (congrArg (Value.int .i64) q.symm)) (h:=aj ?_)
   exact aa ⟨D,Nat.lt_succ_self _,_,_,H,ed [1,0,2,3,4,5]⟩
  refine aA rfl m (ct (bc (bc (cr ?_))))
  have h:=aN H;subst h
  exact bM [0,1,2,3,4]
 rintro e ds As j
 clear H
 have H:=z
 clear z
 obtain⟨K,H⟩:=aR H
 have h:=aN H;subst h
 exact oc j [aL ba 34 (al ({ p0 with f0:=(bF.mk p0.f0.f0 p0.f0.f1 l) }) ag af az ay aw ar av au),Buf bE 55 ag af l,fm 3 az ay p0.f7,Buf bE 55 aw ar p0.f16.f2,jf 21 av au p0.f17] rfl (eY [0,1,2,3,4]) ⟨ag,af,az,ay,aw,ar,av,au,rfl,rfl⟩

end Go.Proofs.YtckilbegmbaeeaaGreat.Z3

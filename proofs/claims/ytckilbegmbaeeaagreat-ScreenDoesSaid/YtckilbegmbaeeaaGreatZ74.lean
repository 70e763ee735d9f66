/- Walks. -/
import Derived.Test.YtckilbegmbaeeaaGreatZ73
namespace Go.Proofs.YtckilbegmbaeeaaGreat.Z7
open Go Go.RowKit Go.Proofs.YtckilbegmbaeeaaGreat.SL
open Go.IntKind (i64)
set_option linter.unusedVariables false
set_option maxHeartbeats 20000000
set_option maxRecDepth 100000
set_option linter.unusedSimpArgs false
attribute [local irreducible] IntKind.wrap dm fE iD md lW rn lM fG ma rd sub bytesOf jD dv
variable {bg ig bS dN ox ag az av ax k : Nat}
variable {af ay au aw : Option Addr}
def iM.f (p0 : aJ) (a1 : Int) (a2 : Int) : Option (aJ):=lt (i64.wrap (p0.f0.f1 - 1)) fun m=>(if p0.f1 ≤ p0.f6 then (some p0.f6) else (some m) : Option (Int)).bind (fun j=>(if p0.f1 ≥ p0.f5 then (some p0.f5) else (some 0) : Option (Int)).bind (fun l=>(lT.f a1).bind (fun b=>(kB.f (i64.wrap (p0.f1 + b)) l j).bind (fun a=>(lT.f a2).bind (fun c=>(dx.f ({ p0 with f1:=a })).bind (fun d=>(kB.f (i64.wrap (p0.f2 + c)) 0 d).bind (fun h=>some (({ p0 with f1:=a,f2:=h,f3:=false })))))))))
theorem iM.ok {p0 : aJ} {a1 : Int} {a2 : Int} {r : aJ} (H : iM.f p0 a1 a2 = some r) : dp Tryz.prog 77 #[.agg #[.pointer (some ⟨bg,0,none⟩)],ae a1,ae a2] (cQ bg p0 af ag ay az au av aw ax) (fun v B=>∃ P0_0_ q0_0_ P0_1_ q0_1_ P0_2_ q0_2_ P0_3_ q0_3_,v = .tuple #[]∧B = (cQ bg r P0_0_ q0_0_ P0_1_ q0_1_ P0_2_ q0_2_ P0_3_ q0_3_)):=by
 refine aj Tryz.func77 rfl rfl ?_
 unfold iM.f at H
 refine aP (o' (bO (h:=fun a=>bA (ap ?_))))
 refine fg (dC 0 9) [0,5] (dC 1 4) fun _ _ _ _ _ sH dd pk=>?_
 refine bf 0 rfl sH aA (h:=bN 1 rfl sH (aO 1) (h:=bf 2 rfl sH cL (h:=bf 3 rfl sH aA (h:=bf 4 rfl sH aA (h:=bN 5 rfl sH (aO 0) (h:=bf 6 rfl sH (cV rfl rfl) (h:=T' 7 rfl sH aW ?_)))))))
 obtain⟨u,I,H⟩:=bi H
 refine kQ (ae u) 8 rfl sH (bu (v:=ae u) (congrArg (Value.int .i64) I.symm)) (h:=aV dd sH (aH (by kernel_rfl) (aa (ap (ap ?_)))))
 refine fg (dC 0 11) [0,1] (dC 2 4) fun _ _ _ _ _ sH dd pk=>?_
 refine bf 0 rfl sH aA (h:=bN 1 rfl sH (aO 1) (h:=bf 2 rfl sH cL (h:=bf 3 rfl sH aA (h:=bN 4 rfl sH (aO 0) (h:=bf 5 rfl sH aA (h:=bN 6 rfl sH (aO 1) (h:=bf 7 rfl sH cL (h:=bf 8 rfl sH aA (h:=r' 9 rfl sH (aO 0) ?_)))))))))
 refine bf 10 rfl sH (gF rfl rfl) (h:=aV dd sH (aH (by kernel_rfl) (aa ?_)))
 obtain⟨p,H,j⟩:=ac H
 refine bK (St [(1,ae a1),(2,ae a2),(3,aI a),(6,ae 0),(7,ae p)] (aL bg 34 (am p0 af ag ay az au av aw ax)::(bn p0 af ag ay az au av aw ax++[aL a 84 [aI bg]]))) ?_ ?_
 ·rcases bD H with⟨b,H⟩|⟨b,H⟩
  ·refine aC rfl b (ak (ad aA (h:=bq (aO 1) (h:=ad cL (h:=ad aA (h:=bq (aO 0) (h:=ad aW (h:=ah ?_))))))))
   have h:=aN H;subst h
   exact bH [0,2,3,4,5,1]
  refine aB rfl b (ao ?_)
  have h:=aN H;subst h
  exact bH [0,2,3,4,5,1]
 rintro e ds As q
 clear H
 have H:=j
 clear j
 refine aa (SA.of_St q fun junk=>ap (ap ?_))
 refine fg (dC 0 11) [0,5] (dC 1 4) fun _ _ _ _ _ sH dd pk=>?_
 refine bf 0 rfl sH aA (h:=bN 1 rfl sH (aO 1) (h:=bf 2 rfl sH cL (h:=bf 3 rfl sH aA (h:=bN 4 rfl sH (aO 0) (h:=bf 5 rfl sH aA (h:=bN 6 rfl sH (aO 1) (h:=bf 7 rfl sH cL (h:=bf 8 rfl sH aA (h:=r' 9 rfl sH (aO 0) ?_)))))))))
 refine bf 10 rfl sH (dU rfl rfl) (h:=aV dd sH (aH (by kernel_rfl) (aa ?_)))
 obtain⟨K,H,m⟩:=ac H
 refine bK (St [(1,ae a1),(2,ae a2),(3,aI a),(6,ae K),(7,ae p)] (aL bg 34 (am p0 af ag ay az au av aw ax)::(bn p0 af ag ay az au av aw ax++[aL a 84 [aI bg]]))) ?_ ?_
 ·rcases bD H with⟨c,H⟩|⟨c,H⟩
  ·refine aC rfl c (ak (ad aA (h:=bq (aO 1) (h:=ad cL (h:=ad aA (h:=bq (aO 0) (h:=ad aW (h:=ah ?_))))))))
   have h:=aN H;subst h
   exact bH [0,2,3,4,5,1]
  refine aB rfl c (ao ?_)
  have h:=aN H;subst h
  exact bH [0,2,3,4,5,1]
 rintro e ds As s
 clear H
 have H:=m
 clear m
 refine aa (SA.of_St s fun junk=>ap ?_)
 refine fg (0::1::2::3::4::5::6::7::9::10::11::13::14::[]) [0,5] (dC 1 4) fun _ _ _ _ _ sH dd pk=>?_
 refine bf 0 rfl sH aA (h:=bN 1 rfl sH (aO 1) (h:=bf 2 rfl sH aA (h:=bN 3 rfl sH (aO 1) (h:=bf 4 rfl sH cL (h:=bf 5 rfl sH aA (h:=bN 6 rfl sH (aO 0) (h:=bf 7 rfl sH ar (h:=bf 10 rfl sH ar (h:=T' 11 rfl sH ar ?_)))))))))
 obtain⟨R,y,H⟩:=ac H
 refine dT 8 rfl dd (da [] [0,1,2,3] (lT.ok y) ?_)
 refine T' 9 rfl sH (bX rfl rfl) ?_
 obtain⟨d,z,H⟩:=ac H
 refine dT 12 rfl dd (da [] [0,1,2,3] (kB.ok z) ?_)
 refine bf 13 rfl sH cL (h:=bf 14 rfl sH aA (h:=aV dd sH (eG 15 rfl (cJ 0 [ae d] (h:=(aH (by kernel_rfl) (aa (ap (bQ 2 fun L=>bQ 3 fun M=>bQ 4 fun N=>bQ 5 fun O=>?_)))))))))
 refine fO [0,1,2,3,4,5,6,7,9,10,13,14] (List.toArray ([]::[0]::[]::[2]::[2,3]::[2,3,4]::(dC 2 4)::[]::[7]::(dC 2 6)::[]::[7,10]::[2,3,4,5,6,7,9,10]::[0,1,2,3,4,5,6,7,9,10]::[0,1,2,3,4,5,6,7,9,10,13]::[0,1,2,3,4,5,6,7,9,10,13,14]::[])) [aL bg 34 (am ({ p0 with f1:=d }) af ag ay az au av aw ax),aL a 84 [aI bg]] jx (bV.thn bV.body) fun Y U Z pk=>?_
 refine eF (aI a) 0 [0,1] rfl (kw a 0 0) (h:=hD 1 [0,1] rfl (il a 0 1) (h:=eF (aI a) 2 [0,1] rfl (kw a 0 0) (h:=hD 3 [0,1] rfl (il a 0 1) (h:=eF (aI bg) 4 [0,1] rfl cL (h:=eF (sO bg 4) 5 [0,1] rfl (kw bg 0 4) (h:=hD 6 [0,1] rfl (il bg 4 0) (h:=eF (ae a2) 7 [0,1] rfl fP (h:=sK 10 [0,1] rfl (cx a 0 1 [aI bg]) ?_))))))))
 obtain⟨J,D,H⟩:=ac H
 refine fa 8 (by kernel_rfl) rfl (.no rfl) (da [] [0,1,2,3,4,5] (lT.ok D) ?_)
 refine ⟨fun _=>⟨[0,1],rfl,rfl⟩,?_⟩
 refine wb (ae (i64.wrap (p0.f2 + J))) 9 [0,1] rfl (bX rfl rfl) ?_
 obtain⟨S,E,H⟩:=ac H
 refine fa 11 (by kernel_rfl) rfl (.no rfl) (da [0,2,3,4,5] [1] (dx.ok (bg:=bg) E) ?_)
 refine ⟨fun _=>⟨[0,5],rfl,rfl⟩,?_⟩
 obtain⟨o,F,H⟩:=ac H
 refine fa 12 (by kernel_rfl) rfl (.no rfl) (da [] [0,1,2,3,4,5] (kB.ok F) ?_)
 refine ⟨fun _=>⟨[0,5],rfl,rfl⟩,?_⟩
 refine eF (aI bg) 13 [0,5] rfl cL (h:=eF (sO bg 4) 14 [0,5] rfl (kw bg 0 4) (h:=fa 15 (by kernel_rfl) rfl (.no rfl) (cJ 0 [ae o] (h:=?_))))
 refine ⟨fun h_=>absurd h_ (by decide),?_⟩
 refine aH (by kernel_rfl) (aa (SA.of_St (l:=[(3,aI a)]) (B:=(aL bg 34 (am ({ p0 with f1:=d,f2:=o }) af ag ay az au av aw ax)::(bn p0 af ag ay az au av aw ax++[aL a 84 [aI bg]]))) (St.mk1 (cO rfl dY) (Gh.sel [0,1,2,3,4,5] (by kernel_rfl) (by kernel_rfl))) fun junk=>ak (ad aA (h:=bq (aO 5) (h:=ad cL (h:=ad aA (h:=o' (cJ 0 [.bool false] (h:=(ah ?_))))))))))
 have h:=aN H;subst h
 exact fH [0,1,2,3,4] ⟨af,ag,ay,az,au,av,aw,ax,rfl,rfl⟩


def kc.f (p0 : aJ) (p1 : Int) (p2 : Int) : Option (aJ):=(iM.f p0 p1 p2).bind (fun a=>some (a))
theorem kc.ok {p0 : aJ} {p1 : Int} {p2 : Int} {r : aJ} (H : kc.f p0 p1 p2 = some r) : dp Tryz.prog 76 #[.agg #[.pointer (some ⟨bg,0,none⟩)],.pointer (some ⟨ig,0,none⟩),.pointer (some ⟨ox,0,none⟩)] (aL bg 34 (am p0 af ag ay az au av aw ax)::(bn p0 af ag ay az au av aw ax++[aL ig 3 [ae p1],aL ox 3 [ae p2]])) (fun v B=>∃ P0_0_ q0_0_ P0_1_ q0_1_ P0_2_ q0_2_ P0_3_ q0_3_,v = .tuple #[]∧B = (aL bg 34 (am r P0_0_ q0_0_ P0_1_ q0_1_ P0_2_ q0_2_ P0_3_ q0_3_)::(bn r P0_0_ q0_0_ P0_1_ q0_1_ P0_2_ q0_2_ P0_3_ q0_3_++[aL ig 3 [ae p1],aL ox 3 [ae p2]]))):=by
 refine aj Tryz.func76 rfl rfl ?_
 unfold kc.f at H
 refine aP (o' (bO (h:=fun q=>bA (bQ 1 fun s=>bQ 2 fun u=>bQ 3 fun y=>bQ 4 fun z=>ak (bq (cx q 0 7 [aI bg]) (h:=l' (aO 5) ?_))))))
 refine l' (aO 6) ?_
 obtain⟨D,j,H⟩:=ac H
 refine o' (ef [0,1,2,3,4] [5,6,7] (iM.ok (bg:=bg) j) fun a l b m c o d p=>?_)
 refine ah ?_
 have h:=aN H;subst h
 exact fH [0,1,2,3,4,5,6] ⟨a,l,b,m,c,o,d,p,rfl,rfl⟩


def gT.f (k : Nat) (a0 : aJ) (p2000 : Int) (p2001 : Int) : Option (aJ × Int):=(eu.f k a0).bind (fun a=>if (!a) = true then (some (((aJ.mk (bJ.mk 0 0 ([] : (List ba))) 0 0 false (cN.mk 0 0 false false false false false false false false) 0 0 ([] : (List Int)) false false false false false false (dH.mk 0 0 false false (cN.mk 0 0 false false false false false false false false)) false (bJ.mk 0 0 ([] : (List ba))) ([] : (List Int))),2))) else ((ly.f a0).bind (fun b=>(kc.f b p2000 p2001).bind (fun ou=>some ((ou,0))))))
theorem gT.ok {a0 : aJ} {p2000 : Int} {p2001 : Int} {r : aJ × Int} (H : gT.f k a0 p2000 p2001 = some r) : dp Tryz.prog 62 #[.agg (am a0 af ag ay az au av aw ax).toArray,.func (.func 76) #[] #[.pointer (some ⟨bS,0,none⟩),.pointer (some ⟨dN,0,none⟩)]] (co a0 af ag ay az au av aw ax++[aL bS 3 [ae p2000],aL dN 3 [ae p2001]]) (fun v B=>∃ aQ aR bv bx bo bp bw bz,v = .tuple #[.agg (am r.1 aQ aR bv bx bo bp bw bz).toArray,ae r.2]∧B = (bn r.1 aQ aR bv bx bo bp bw bz++[aL bS 3 [ae p2000],aL dN 3 [ae p2001]])):=by
 refine aj Tryz.func62 rfl rfl ?_
 unfold gT.f at H
 refine aP (o' (bO (h:=fun b=>o' (cC (h:=fun I=>ad aW (h:=eA (l' (cm 6) ?_)))))))
 obtain⟨O,F,H⟩:=ac H
 refine o' (da [0,1,2,3] [0,1,2,3,4,5,6,7] (qR.ok F) ?_)
 refine ad (bU rfl) (h:=bA ?_)
 rcases bD H with⟨a,H⟩|⟨a,H⟩
 ·refine aD rfl a (aP (bT (.agg (am cB none 0 none 0 none 0 none 0).toArray) dS (h:=o' (bj I 0 7 (am cB none 0 none 0 none 0 none 0) (h:=ad aW (h:=cA ?_))))))
  have h:=aN H;subst h
  exact lX [.cell 4 34,.tmp 5] ((Gh.nilBuf bI 55).trans ((Gh.nilBuf (Kd.int .i64) 3).trans ((Gh.nilBuf bI 55).trans ((Gh.nilBuf (Kd.int .i32) 21).trans (fk [8,9,10,11,4,5]))))) ⟨none,0,none,0,none,0,none,0,rfl,rfl⟩ ⟨cW 7,cX,trivial⟩
 refine aE rfl a (ao (aa (aP (l' (cm 6) ?_))))
 obtain⟨N,E,H⟩:=ac H
 refine o' (ef [0,1,2,3] [0,1,2,3,4,5,6,7] (ly.ok E) fun s J u K y L z M=>?_)
 refine o' (bj b 0 10 (am N s J u K y L z M) (h:=cR (ad ar (h:=s' (.agg #[aI b]) dS ?_))))
 obtain⟨ou,D,H⟩:=ac H
 refine o' (re [10,0,1,2,3,8,9] [4,5,6,7,11] (jj (vs:=[.agg #[aI b]]) (cap:=[aI bS,aI dN]) rfl Tryz.func76 Bg rfl rfl) (kc.ok (bg:=b) (ig:=bS) (ox:=dN) D) ?_)
 rintro _ _⟨c,m,d,o,j,p,l,q,rfl,rfl⟩
 refine cR (bq (cm 0) (h:=o' (bj I 0 11 (am ou c m d o j p l q) (h:=ad aW (h:=cD ?_)))))
 have h:=aN H;subst h
 exact dE [.cell 4 34,.tmp 5] [1,2,3,4,5,6] ⟨c,m,d,o,j,p,l,q,rfl,rfl⟩ ⟨cW 11,cX,trivial⟩


def ww.f (k : Nat) (a0 : aJ) (a1 : Int) (a2 : Int) : Option (aJ × Int):=(gT.f k a0 a1 a2).bind (fun a=>some ((a.1,a.2)))
theorem ww.ok {a0 : aJ} {a1 : Int} {a2 : Int} {r : aJ × Int} (H : ww.f k a0 a1 a2 = some r) : dp Tryz.prog 29 #[.agg (am a0 af ag ay az au av aw ax).toArray,ae a1,ae a2] (co a0 af ag ay az au av aw ax) (fun v B=>∃ aQ aR bv bx bo bp bw bz,v = .tuple #[.agg (am r.1 aQ aR bv bx bo bp bw bz).toArray,ae r.2]∧B = (bn r.1 aQ aR bv bx bo bp bw bz)):=by
 refine aj Tryz.func29 rfl rfl ?_
 unfold ww.f at H
 refine aP (o' (bO (h:=fun z=>o' (bO (h:=fun p=>o' (bO (h:=fun q=>o' (cC (h:=fun u=>ad aW (h:=cR (bq (cm 4) (h:=s' (.func (.func 76) #[] #[aI p,aI q]) (dP (us:=[aI p,aI q]) rfl) ?_))))))))))))
 obtain⟨y,s,H⟩:=ac H
 refine o' (ef [0,1,2,3,5,6] [0,1,2,3,4,7] (gT.ok (bS:=p) (dN:=q) s) fun a j b l c m d o=>?_)
 refine ad cw (h:=ad cw (h:=o' (bj u 0 11 (am y.1 a j b l c m d o) (h:=ad aW (h:=cD ?_)))))
 have h:=aN H;subst h
 exact dE [.cell 6 34,.tmp 7] [0,1,2,3] ⟨a,j,b,l,c,m,d,o,rfl,rfl⟩ ⟨cW 11,cX,trivial⟩


def fC.f (p0 : aJ) (a1 : Int) (a2 : Int) : Option (aJ):=lt (i64.wrap (p0.f0.f1 - 1)) fun j=>(if p0.f9 = true then (some (p0.f5,p0.f6)) else (some (0,j)) : Option (Int × Int)).bind (fun a=>(lT.f a1).bind (fun c=>(kB.f (i64.wrap (a.1 + c)) a.1 a.2).bind (fun b=>(dx.f ({ p0 with f1:=b })).bind (fun d=>(kB.f a2 0 d).bind (fun h=>some (({ p0 with f1:=b,f2:=h,f3:=false })))))))
theorem fC.ok {p0 : aJ} {a1 : Int} {a2 : Int} {r : aJ} (H : fC.f p0 a1 a2 = some r) : dp Tryz.prog 79 #[.agg #[.pointer (some ⟨bg,0,none⟩)],ae a1,ae a2] (cQ bg p0 af ag ay az au av aw ax) (fun v B=>∃ P0_0_ q0_0_ P0_1_ q0_1_ P0_2_ q0_2_ P0_3_ q0_3_,v = .tuple #[]∧B = (cQ bg r P0_0_ q0_0_ P0_1_ q0_1_ P0_2_ q0_2_ P0_3_ q0_3_)):=by
 refine aj Tryz.func79 rfl rfl ?_
 unfold fC.f at H
 refine aP (o' (bO (h:=fun y=>bA (ap ?_))))
 refine fg (dC 0 9) [0,5] (dC 1 4) fun _ _ _ _ _ sH dd pk=>?_
 refine bf 0 rfl sH aA (h:=bN 1 rfl sH (aO 1) (h:=bf 2 rfl sH cL (h:=bf 3 rfl sH aA (h:=bf 4 rfl sH aA (h:=bN 5 rfl sH (aO 0) (h:=bf 6 rfl sH (cV rfl rfl) (h:=T' 7 rfl sH aW ?_)))))))
 obtain⟨d,q,H⟩:=bi H
 refine kQ (ae d) 8 rfl sH (bu (v:=ae d) (congrArg (Value.int .i64) q.symm)) (h:=aV dd sH (aH (by kernel_rfl) (aa (ap (aP (ad aA (h:=bq (aO 1) (h:=ad cL (h:=ad aA (h:=bq (aO 0) (h:=bA ?_)))))))))))
 obtain⟨j,H,b⟩:=ac H
 refine bK (St [(1,ae a1),(2,ae a2),(3,aI y),(6,ae j.1),(7,ae j.2)] (aL bg 34 (am p0 af ag ay az au av aw ax)::(bn p0 af ag ay az au av aw ax++[aL y 84 [aI bg]]))) ?_ ?_
 ·rcases bD H with⟨a,H⟩|⟨a,H⟩
  ·refine aD rfl a ?_
   refine fg (dC 0 12) [0,1] (dC 2 4) fun _ _ _ _ _ sH dd pk=>?_
   refine bf 0 rfl sH aA (h:=bN 1 rfl sH (aO 1) (h:=bf 2 rfl sH cL (h:=bf 3 rfl sH aA (h:=bN 4 rfl sH (aO 0) (h:=bf 5 rfl sH aA (h:=bN 6 rfl sH (aO 1) (h:=bf 7 rfl sH cL (h:=bf 8 rfl sH aA (h:=r' 9 rfl sH (aO 0) ?_)))))))))
   refine bf 10 rfl sH aW (h:=bf 11 rfl sH aW (h:=aV dd sH (aH (by kernel_rfl) ?_)))
   have h:=aN H;subst h
   exact bH [0,2,3,4,5,1]
  refine aE rfl a (ao ?_)
  have h:=aN H;subst h
  exact bH [0,2,3,4,5,1]
 rintro e ds As c
 clear H
 have H:=b
 clear b
 refine aa (SA.of_St c fun junk=>ap ?_)
 refine fg [0,1,2,3,5,6,7,9,10] [5] (dC 0 5) fun _ _ _ _ _ sH dd pk=>?_
 refine bf 0 rfl sH aA (h:=bN 1 rfl sH (aO 0) (h:=bf 2 rfl sH ar (h:=bf 3 rfl sH ar (h:=bf 6 rfl sH ar (h:=T' 7 rfl sH ar ?_)))))
 obtain⟨I,l,H⟩:=ac H
 refine dT 4 rfl dd (da [] [0,1,2,3,4] (lT.ok l) ?_)
 refine T' 5 rfl sH (bX rfl rfl) ?_
 obtain⟨s,m,H⟩:=ac H
 refine dT 8 rfl dd (da [] [0,1,2,3,4] (kB.ok m) ?_)
 refine bf 9 rfl sH cL (h:=bf 10 rfl sH aA (h:=dT 11 rfl dd (cJ 0 [ae s] (h:=(aV dd sH (aH (by kernel_rfl) (aa (ap (bQ 2 fun z=>bQ 3 fun D=>bQ 4 fun E=>bQ 5 fun F=>?_)))))))))
 refine fg [0,1,2,3,6,7] [0] (dC 1 5) fun _ _ _ _ _ sH dd pk=>?_
 refine bf 0 rfl sH aA (h:=bN 1 rfl sH (aO 0) (h:=bf 2 rfl sH ar (h:=r' 3 rfl sH (cx y 0 0 [aI bg]) ?_)))
 obtain⟨J,o,H⟩:=ac H
 refine dT 4 rfl dd (da [0,1,2,3,4] [] (dx.ok (bg:=bg) o) ?_)
 obtain⟨u,p,H⟩:=ac H
 refine dT 5 rfl dd (da [] [0,1,2,3,4] (kB.ok p) ?_)
 refine bf 6 rfl sH cL (h:=bf 7 rfl sH aA (h:=dT 8 rfl dd (cJ 0 [ae u] (h:=(aV dd sH (aH (by kernel_rfl) (aa (ak (ad aA (h:=bq (aO 0) (h:=ad cL (h:=S' aA ?_))))))))))))
 refine o' (cJ 1 [.bool false] (h:=(ah ?_)))
 have h:=aN H;subst h
 exact fH [1,2,3,4,5] ⟨af,ag,ay,az,au,av,aw,ax,rfl,rfl⟩


def ke.f (p0 : aJ) (p1 : Int) (p2 : Int) : Option (aJ):=(fC.f p0 p1 p2).bind (fun a=>some (a))
theorem ke.ok {p0 : aJ} {p1 : Int} {p2 : Int} {r : aJ} (H : ke.f p0 p1 p2 = some r) : dp Tryz.prog 78 #[.agg #[.pointer (some ⟨bg,0,none⟩)],.pointer (some ⟨ig,0,none⟩),.pointer (some ⟨ox,0,none⟩)] (aL bg 34 (am p0 af ag ay az au av aw ax)::(bn p0 af ag ay az au av aw ax++[aL ig 3 [ae p1],aL ox 3 [ae p2]])) (fun v B=>∃ P0_0_ q0_0_ P0_1_ q0_1_ P0_2_ q0_2_ P0_3_ q0_3_,v = .tuple #[]∧B = (aL bg 34 (am r P0_0_ q0_0_ P0_1_ q0_1_ P0_2_ q0_2_ P0_3_ q0_3_)::(bn r P0_0_ q0_0_ P0_1_ q0_1_ P0_2_ q0_2_ P0_3_ q0_3_++[aL ig 3 [ae p1],aL ox 3 [ae p2]]))):=by
 refine aj Tryz.func78 rfl rfl ?_
 unfold ke.f at H
 refine aP (o' (bO (h:=fun q=>bA (bQ 1 fun s=>bQ 2 fun u=>bQ 3 fun y=>bQ 4 fun z=>ak (bq (cx q 0 7 [aI bg]) (h:=l' (aO 5) ?_))))))
 refine l' (aO 6) ?_
 obtain⟨D,j,H⟩:=ac H
 refine o' (ef [0,1,2,3,4] [5,6,7] (fC.ok (bg:=bg) j) fun a l b m c o d p=>?_)
 refine ah ?_
 have h:=aN H;subst h
 exact fH [0,1,2,3,4,5,6] ⟨a,l,b,m,c,o,d,p,rfl,rfl⟩


def gU.f (k : Nat) (a0 : aJ) (p2000 : Int) (p2001 : Int) : Option (aJ × Int):=(eu.f k a0).bind (fun a=>if (!a) = true then (some (((aJ.mk (bJ.mk 0 0 ([] : (List ba))) 0 0 false (cN.mk 0 0 false false false false false false false false) 0 0 ([] : (List Int)) false false false false false false (dH.mk 0 0 false false (cN.mk 0 0 false false false false false false false false)) false (bJ.mk 0 0 ([] : (List ba))) ([] : (List Int))),2))) else ((ly.f a0).bind (fun b=>(ke.f b p2000 p2001).bind (fun ou=>some ((ou,0))))))
theorem gU.ok {a0 : aJ} {p2000 : Int} {p2001 : Int} {r : aJ × Int} (H : gU.f k a0 p2000 p2001 = some r) : dp Tryz.prog 62 #[.agg (am a0 af ag ay az au av aw ax).toArray,.func (.func 78) #[] #[.pointer (some ⟨bS,0,none⟩),.pointer (some ⟨dN,0,none⟩)]] (co a0 af ag ay az au av aw ax++[aL bS 3 [ae p2000],aL dN 3 [ae p2001]]) (fun v B=>∃ aQ aR bv bx bo bp bw bz,v = .tuple #[.agg (am r.1 aQ aR bv bx bo bp bw bz).toArray,ae r.2]∧B = (bn r.1 aQ aR bv bx bo bp bw bz++[aL bS 3 [ae p2000],aL dN 3 [ae p2001]])):=by
 refine aj Tryz.func62 rfl rfl ?_
 unfold gU.f at H
 refine aP (o' (bO (h:=fun b=>o' (cC (h:=fun I=>ad aW (h:=eA (l' (cm 6) ?_)))))))
 obtain⟨O,F,H⟩:=ac H
 refine o' (da [0,1,2,3] [0,1,2,3,4,5,6,7] (qR.ok F) ?_)
 refine ad (bU rfl) (h:=bA ?_)
 rcases bD H with⟨a,H⟩|⟨a,H⟩
 ·refine aD rfl a (aP (bT (.agg (am cB none 0 none 0 none 0 none 0).toArray) dS (h:=o' (bj I 0 7 (am cB none 0 none 0 none 0 none 0) (h:=ad aW (h:=cA ?_))))))
  have h:=aN H;subst h
  exact lX [.cell 4 34,.tmp 5] ((Gh.nilBuf bI 55).trans ((Gh.nilBuf (Kd.int .i64) 3).trans ((Gh.nilBuf bI 55).trans ((Gh.nilBuf (Kd.int .i32) 21).trans (fk [8,9,10,11,4,5]))))) ⟨none,0,none,0,none,0,none,0,rfl,rfl⟩ ⟨cW 7,cX,trivial⟩
 refine aE rfl a (ao (aa (aP (l' (cm 6) ?_))))
 obtain⟨N,E,H⟩:=ac H
 refine o' (ef [0,1,2,3] [0,1,2,3,4,5,6,7] (ly.ok E) fun s J u K y L z M=>?_)
 refine o' (bj b 0 10 (am N s J u K y L z M) (h:=cR (ad ar (h:=s' (.agg #[aI b]) dS ?_))))
 obtain⟨ou,D,H⟩:=ac H
 refine o' (re [10,0,1,2,3,8,9] [4,5,6,7,11] (jj (vs:=[.agg #[aI b]]) (cap:=[aI bS,aI dN]) rfl Tryz.func78 Bh rfl rfl) (ke.ok (bg:=b) (ig:=bS) (ox:=dN) D) ?_)
 rintro _ _⟨c,m,d,o,j,p,l,q,rfl,rfl⟩
 refine cR (bq (cm 0) (h:=o' (bj I 0 11 (am ou c m d o j p l q) (h:=ad aW (h:=cD ?_)))))
 have h:=aN H;subst h
 exact dE [.cell 4 34,.tmp 5] [1,2,3,4,5,6] ⟨c,m,d,o,j,p,l,q,rfl,rfl⟩ ⟨cW 11,cX,trivial⟩


def wx.f (k : Nat) (a0 : aJ) (a1 : Int) (a2 : Int) : Option (aJ × Int):=(gU.f k a0 a1 a2).bind (fun a=>some ((a.1,a.2)))
theorem wx.ok {a0 : aJ} {a1 : Int} {a2 : Int} {r : aJ × Int} (H : wx.f k a0 a1 a2 = some r) : dp Tryz.prog 30 #[.agg (am a0 af ag ay az au av aw ax).toArray,ae a1,ae a2] (co a0 af ag ay az au av aw ax) (fun v B=>∃ aQ aR bv bx bo bp bw bz,v = .tuple #[.agg (am r.1 aQ aR bv bx bo bp bw bz).toArray,ae r.2]∧B = (bn r.1 aQ aR bv bx bo bp bw bz)):=by
 refine aj Tryz.func30 rfl rfl ?_
 unfold wx.f at H
 refine aP (o' (bO (h:=fun z=>o' (bO (h:=fun p=>o' (bO (h:=fun q=>o' (cC (h:=fun u=>ad aW (h:=cR (bq (cm 4) (h:=s' (.func (.func 78) #[] #[aI p,aI q]) (dP (us:=[aI p,aI q]) rfl) ?_))))))))))))
 obtain⟨y,s,H⟩:=ac H
 refine o' (ef [0,1,2,3,5,6] [0,1,2,3,4,7] (gU.ok (bS:=p) (dN:=q) s) fun a j b l c m d o=>?_)
 refine ad cw (h:=ad cw (h:=o' (bj u 0 11 (am y.1 a j b l c m d o) (h:=ad aW (h:=cD ?_)))))
 have h:=aN H;subst h
 exact dE [.cell 6 34,.tmp 7] [0,1,2,3] ⟨a,j,b,l,c,m,d,o,rfl,rfl⟩ ⟨cW 11,cX,trivial⟩


def jc.f (k : Nat) (l0 : (List ba)) (o0 : Int) (n0 : Int) (a1 : Int) (a2 : Int) (a3 : cN) : Option ((List ba)):=if 0 ≤ o0∧0 ≤ n0∧o0 + n0 ≤ (l0.length : Int) then (if 0 ≤ a1∧a1 ≤ a2∧a2 ≤ n0 then ((fb.f k l0 (o0 + a1) (a2 - a1) a3).bind (fun a=>if a.length = l0.length then ((ei.f k a o0 n0).bind (fun b=>if b.length = a.length then (some (b)) else none)) else none)) else none) else none
theorem jc.ok {l0 : (List ba)} {o0 : Int} {n0 : Int} {a1 : Int} {a2 : Int} {a3 : cN} {A0 V0 : Option Addr} {c0 v0 : Nat} (hw0 : ey A0 V0 15 o0 n0 v0) {r : (List ba)} (H : jc.f k l0 o0 n0 a1 a2 a3 = some r) : dp Tryz.prog 129 #[.slice V0 n0.toNat v0,ae a1,ae a2,.agg (bF a3).toArray] [Buf bI 55 A0 c0 l0] (fun v B=>v = .tuple #[]∧B = [Buf bI 55 A0 c0 r]):=by
 refine aj Tryz.func129 rfl rfl ?_
 unfold jc.f at H
 obtain⟨⟨z,D,E⟩,H⟩:=aS H
 have hcv_hw0:=hw0.cap
 refine aP (o' (bO (h:=fun K=>bA (ap (bQ 0 fun J=>?_)))))
 refine fg (dC 0 5) [1] [0] fun _ _ _ _ _ sH dd pk=>?_
 refine bf 0 rfl sH ar (h:=bf 1 rfl sH ar (h:=T' 2 rfl sH ar ?_))
 obtain⟨⟨d,j,o⟩,H⟩:=aS H
 refine t' (.slice (dv V0 a1 ((v0 : Nat) : Int) 15) (a2 - a1).toNat (((v0 : Nat) : Int).toNat - a1.toNat)) 3 rfl sH (dA (l:=o0) (m:=n0) (a:=a1) (b:=a2) (q:=((v0 : Nat) : Int)) hw0 Tryz.underlying116 ck rfl rfl rfl rfl (.inr ⟨_,rfl⟩) (.inr ⟨_,rfl⟩) (.inl ⟨rfl,rfl⟩) d j o) ?_
 have p : ey A0 (dv V0 a1 ((v0 : Nat) : Int) 15) 15 (o0 + a1) (a2 - a1) (((v0 : Nat) : Int).toNat - a1.toNat):=ey.sub hw0 d j o (.inl rfl) (Int.le_refl _)
 refine r' 4 rfl sH (cm 0) ?_
 obtain⟨F,u,H⟩:=ac H
 obtain⟨c,H⟩:=aS H
 refine dT 5 rfl dd (da [0] [] (fb.ok (o0:=o0 + a1) (n0:=a2 - a1) (A0:=A0) (c0:=c0) (V0:=dv V0 a1 ((v0 : Nat) : Int) 15) (v0:=((v0 : Nat) : Int).toNat - a1.toNat) (hw0:=p) u) ?_)
 try unfold bF
 try rewrite [← c]
 try unfold bF at sH
 try rewrite [← c] at sH
 refine aV dd sH (aH (by kernel_rfl) (aa (ak (S' ar ?_))))
 obtain⟨I,y,H⟩:=ac H
 obtain⟨s,H⟩:=aS H
 refine o' (da [1] [0] (ei.ok (o0:=o0) (n0:=n0) (A0:=A0) (c0:=c0) (V0:=V0) (v0:=v0) (hw0:=hw0) y) ?_)
 try unfold bF
 try rewrite [← s]
 refine ah ?_
 have h:=aN H;subst h
 exact fH [0] ⟨rfl,rfl⟩


def cY.l0 (p0 : aJ) (a2 : Int) : Nat → Int → (List ba) → Option ((List ba))
  | 0,_,_=>none
  | k + 1,c,a=>if a.length = p0.f0.f2.length then (if c < a2 then ((dZ.f ({ p0 with f0:=(bJ.mk p0.f0.f0 p0.f0.f1 a) }) c).bind (fun b=>if (0 ≤ b.1∧0 ≤ b.2∧b.1 + b.2 ≤ (a.length : Int)) then ((jc.f k a b.1 b.2 0 p0.f0.f0 p0.f4).bind (fun d=>if d.length = a.length then (lt (i64.wrap (c + 1)) fun h=>cY.l0 p0 a2 k h d) else none)) else none)) else (some a)) else none
def cY.f (k : Nat) (p0 : aJ) (a1 : Int) (a2 : Int) : Option (aJ):=(cY.l0 p0 a2 k a1 p0.f0.f2 : Option ((List ba))).bind (fun a=>if a.length = p0.f0.f2.length then (some (({ p0 with f0:=(bJ.mk p0.f0.f0 p0.f0.f1 a) }))) else none)
theorem cY.ok {p0 : aJ} {a1 : Int} {a2 : Int} {r : aJ} (H : cY.f k p0 a1 a2 = some r) : dp Tryz.prog 130 #[.agg #[.pointer (some ⟨bg,0,none⟩)],ae a1,ae a2] (cQ bg p0 af ag ay az au av aw ax) (fun v B=>∃ P0_0_ q0_0_ P0_1_ q0_1_ P0_2_ q0_2_ P0_3_ q0_3_,v = .tuple #[]∧B = (cQ bg r P0_0_ q0_0_ P0_1_ q0_1_ P0_2_ q0_2_ P0_3_ q0_3_)):=by
 refine aj Tryz.func130 rfl rfl ?_
 unfold cY.f at H
 refine aP (o' (bO (h:=fun b=>cR (ad ar (h:=ad aW (h:=bA ?_))))))
 obtain⟨q,H,z⟩:=ac H
 refine bK (St [] [aL bg 34 (am ({ p0 with f0:=(bJ.mk p0.f0.f0 p0.f0.f1 q) }) af ag ay az au av aw ax),Buf bI 55 af ag q,gL 3 ay az p0.f7,Buf bI 55 au av p0.f16.f2,lZ 21 aw ax p0.f17]) ?_ ?_
 ·refine aT (cl (fun k_ e ds As=>∃ (c : Int) (a : (List ba)),cY.l0 p0 a2 k_ c a = some q∧St [(2,ae a2),(3,aI b),(6,ae c)] [aL bg 34 (am ({ p0 with f0:=(bJ.mk p0.f0.f0 p0.f0.f1 a) }) af ag ay az au av aw ax),Buf bI 55 af ag a,gL 3 ay az p0.f7,Buf bI 55 au av p0.f16.f2,lZ 21 aw ax p0.f17,aL b 84 [aI bg]] e ds As) (k:=k) ⟨_,_,H,jQ [0,1,2,3,4,5]⟩ ?_)
  clear H
  rintro F e ds As ⟨c,a,H,y⟩
  obtain _ | F:=F
  ·cases H
  rw [cY.l0] at H
  obtain⟨J,H⟩:=aS H
  refine SA.of_St y fun junk=>ap (aP (ad ar (h:=ad ar (h:=ad (cg rfl rfl) (h:=bA ?_)))))
  rcases bD H with⟨l,H⟩|⟨l,H⟩
  ·refine aC rfl l (ao (aa (ap (aT (bQ 1 fun M=>bQ 2 fun N=>bQ 3 fun O=>bQ 4 fun R=>?_)))))
   refine fO (0::1::2::3::4::6::7::8::9::10::11::12::13::14::15::16::[]) (List.toArray ([]::[0]::[0,1]::[0,1,2]::[]::(dC 0 5)::[]::[6]::[6,7]::[6,7,8]::(dC 6 4)::(dC 6 5)::[]::[12]::[12,13]::[12,13,14]::(dC 12 4)::(0::1::2::3::4::6::7::8::9::10::11::12::13::14::15::16::[])::[])) [aL bg 34 (am ({ p0 with f0:=(bJ.mk p0.f0.f0 p0.f0.f1 a) }) af ag ay az au av aw ax),aL b 84 [aI bg]] jx (bV.inb (bV.thn (bV.thn (bV.inb (bV.thn bV.body))))) fun U S Y pk=>?_
   refine eF (aI b) 0 [0,5] rfl (kw b 0 0) (h:=hD 1 [0,5] rfl (il b 0 1) (h:=eF (aI bg) 2 [0,5] rfl cL (h:=eF (aI bg) 3 [0,5] rfl (kw bg 0 0) (h:=eF (ae c) 4 [0,5] rfl fP (h:=eF (aI b) 6 [0,5] rfl (kw b 0 0) (h:=hD 7 [0,5] rfl (il b 0 1) (h:=eF (aI bg) 8 [0,5] rfl cL (h:=eF (aI bg) 9 [0,5] rfl (kw bg 0 0) (h:=wb (aI bg) 10 [0,5] rfl (kw bg 0 0) ?_)))))))))
   refine hD 11 [0,5] rfl (il bg 0 0) (h:=eF (aI b) 12 [0,5] rfl (kw b 0 0) (h:=hD 13 [0,5] rfl (il b 0 1) (h:=eF (aI bg) 14 [0,5] rfl cL (h:=eF (sO bg 6) 15 [0,5] rfl (kw bg 0 6) (h:=sK 16 [0,5] rfl (cx bg 6 0 (bF p0.f4)) ?_)))))
   obtain⟨p,D,H⟩:=ac H
   obtain⟨⟨hl320a,hl320b,hl320c⟩,H⟩:=aS H
   refine fa 5 (by kernel_rfl) rfl (.no rfl) (mu [0,1,2,3,4] [5] (dZ.ok (bg:=bg) D) ?_)
   rintro _ _⟨E,I,u,rfl,rfl⟩
   refine ⟨fun _=>⟨[0,5],rfl,rfl⟩,?_⟩
   obtain⟨L,s,H⟩:=ac H
   obtain⟨m,H⟩:=aS H
   refine fa 17 (by kernel_rfl) rfl (.no rfl) (da [1] [0,2,3,4,5] (jc.ok (o0:=p.1) (n0:=p.2) (A0:=af) (c0:=ag) (V0:=E) (v0:=I) (hw0:=u) s) ?_)
   try unfold cQ
   try unfold eD
   try unfold am
   try rewrite [← m]
   refine ⟨fun h_=>absurd h_ (by decide),?_⟩
   refine aH (by kernel_rfl) (aG (aa (ak (ad ar (h:=S' (bX rfl rfl) ?_)))))
   obtain⟨d,o,H⟩:=bi H
   refine bT (ae d) (bu (v:=ae d) (congrArg (Value.int .i64) o.symm)) (h:=ah ?_)
   exact aa ⟨F,Nat.lt_succ_self _,_,_,H,eb [1,0,2,3,4,5]⟩
  refine aB rfl l (ci (aX (aX (cj ?_))))
  have h:=aN H;subst h
  exact bH [0,1,2,3,4]
 rintro e ds As j
 clear H
 have H:=z
 clear z
 obtain⟨K,H⟩:=aS H
 have h:=aN H;subst h
 exact nD j [aL bg 34 (am ({ p0 with f0:=(bJ.mk p0.f0.f0 p0.f0.f1 q) }) af ag ay az au av aw ax),Buf bI 55 af ag q,gL 3 ay az p0.f7,Buf bI 55 au av p0.f16.f2,lZ 21 aw ax p0.f17] rfl (fk [0,1,2,3,4]) ⟨af,ag,ay,az,au,av,aw,ax,rfl,rfl⟩


def iN.f (k : Nat) (p0 : aJ) (a1 : Bool) (a2 : Int) : Option (aJ):=(if a2 = 0 then (some (p0.f2,p0.f0.f0,0,p0.f0.f1)) else (if a2 = 1 then (lt (i64.wrap (p0.f2 + 1)) fun h=>some (0,h,p0.f1,0)) else (if a2 = 2 then (some (0,p0.f0.f0,p0.f1,p0.f0.f1)) else (some (0,0,0,0)))) : Option (Int × Int × Int × Int)).bind (fun b=>(ed.f p0).bind (fun a=>if (0 ≤ a.1∧0 ≤ a.2∧a.1 + a.2 ≤ (p0.f0.f2.length : Int)) then ((jc.f k p0.f0.f2 a.1 a.2 b.1 b.2.1 p0.f4).bind (fun c=>if c.length = p0.f0.f2.length then ((if a1 = true then ((cY.f k ({ p0 with f0:=(bJ.mk p0.f0.f0 p0.f0.f1 c) }) 0 b.2.2.1).bind (fun d=>(cY.f k d (i64.wrap (d.f1 + 1)) b.2.2.2).bind (fun j=>some j))) else (some ({ p0 with f0:=(bJ.mk p0.f0.f0 p0.f0.f1 c) })) : Option (aJ)).bind (fun l=>some (({ l with f3:=false })))) else none)) else none))
theorem iN.ok {p0 : aJ} {a1 : Bool} {a2 : Int} {r : aJ} (H : iN.f k p0 a1 a2 = some r) : dp Tryz.prog 81 #[.agg #[.pointer (some ⟨bg,0,none⟩)],.bool a1,ae a2] (cQ bg p0 af ag ay az au av aw ax) (fun v B=>∃ P0_0_ q0_0_ P0_1_ q0_1_ P0_2_ q0_2_ P0_3_ q0_3_,v = .tuple #[]∧B = (cQ bg r P0_0_ q0_0_ P0_1_ q0_1_ P0_2_ q0_2_ P0_3_ q0_3_)):=by
 refine aj Tryz.func81 rfl rfl ?_
 unfold iN.f at H
 refine aP (o' (bO (h:=fun b=>bA (ap ?_))))
 refine fg (dC 0 8) [0,5] (dC 1 4) fun _ _ _ _ _ sH dd pk=>?_
 refine bf 0 rfl sH aA (h:=bN 1 rfl sH (aO 1) (h:=bf 2 rfl sH cL (h:=bf 3 rfl sH aA (h:=bf 4 rfl sH aA (h:=bN 5 rfl sH (aO 0) (h:=bf 6 rfl sH aW (h:=bf 7 rfl sH aW (h:=aV dd sH (aH (by kernel_rfl) ?_)))))))))
 refine aa (ap ?_)
 refine fg (dC 0 13) [0,1] (dC 2 4) fun _ _ _ _ _ sH dd pk=>?_
 refine bf 0 rfl sH aA (h:=bN 1 rfl sH (aO 1) (h:=bf 2 rfl sH cL (h:=bf 3 rfl sH aA (h:=bN 4 rfl sH (aO 0) (h:=bf 5 rfl sH aA (h:=bN 6 rfl sH (aO 1) (h:=bf 7 rfl sH cL (h:=bf 8 rfl sH aA (h:=T' 9 rfl sH aA ?_)))))))))
 refine bN 10 rfl sH (aO 0) (h:=bf 11 rfl sH aW (h:=bf 12 rfl sH aW (h:=aV dd sH (aH (by kernel_rfl) (aa (ap (aP (ad ar (h:=bA ?_)))))))))
 obtain⟨a,H,E⟩:=ac H
 refine bK (St [(1,.bool a1),(3,aI b),(6,ae a.1),(7,ae a.2.1),(8,ae a.2.2.1),(9,ae a.2.2.2)] (aL bg 34 (am p0 af ag ay az au av aw ax)::(bn p0 af ag ay az au av aw ax++[aL b 84 [aI bg]]))) ?_ ?_
 ·refine aT (aP (ad (bk rfl rfl) (h:=ad aW (h:=bA (SA.of_St (l:=[(1,.bool a1),(3,aI b),(6,ae 0),(7,ae p0.f0.f0),(8,ae p0.f1),(9,ae p0.f0.f1),(27,ae a2),(28,.bool (decide (a2 = 0)))]) (B:=(aL bg 34 (am p0 af ag ay az au av aw ax)::(bn p0 af ag ay az au av aw ax++[aL b 84 [aI bg]]))) (St.mk1 (cO rfl (cO rfl (cO rfl (cO rfl (cO rfl (cO rfl (cO rfl (cO rfl dY)))))))) (Gh.sel [0,2,3,4,5,1] (by kernel_rfl) (by kernel_rfl))) fun junk=>?_)))))
  rcases bD H with⟨u,H⟩|⟨u,H⟩
  ·refine aC rfl u (ak (ad aA (h:=bq (aO 5) (h:=ad cL (h:=ad aA (h:=bq (aO 0) (h:=ad aW (h:=ad aW (h:=ah (aG ?_))))))))))
   have h:=aN H;subst h
   exact bH [0,1,2,3,4,5]
  refine aB rfl u (aP (ad (bk rfl rfl) (h:=ad aW (h:=bA ?_))))
  rcases bD H with⟨y,H⟩|⟨y,H⟩
  ·refine aC rfl y (ak (ad aA (h:=bq (aO 5) (h:=ad cL (h:=ad aA (h:=bq (aO 0) (h:=S' (bX rfl rfl) ?_)))))))
   obtain⟨I,R,H⟩:=bi H
   refine bT (ae I) (bu (v:=ae I) (congrArg (Value.int .i64) R.symm)) (h:=ad aW (h:=ah (aG ?_)))
   have h:=aN H;subst h
   exact bH [0,1,2,3,4,5]
  refine aB rfl y (aP (ad (bk rfl rfl) (h:=ad aW (h:=bA ?_))))
  rcases bD H with⟨z,H⟩|⟨z,H⟩
  ·refine aC rfl z (ao (aG ?_))
   have h:=aN H;subst h
   exact bH [0,1,2,3,4,5]
  refine aB rfl z (ak (ad aW (h:=ad aW (h:=ad aW (h:=ah (aG ?_))))))
  have h:=aN H;subst h
  exact bH [0,1,2,3,4,5]
 rintro e ds As L
 clear H
 have H:=E
 clear E
 refine aa (SA.of_St L fun junk=>ap (bQ 1 fun b2=>bQ 2 fun b3=>bQ 3 fun b4=>bQ 4 fun b5=>?_))
 refine fO [0,2,3,4,5,6,7,8] #[[],[0],[],[],[],[4],[4,5],[4,5,6],(dC 4 4),[0,2,3,4,5,6,7,8]] [aL bg 34 (am p0 af ag ay az au av aw ax),aL b 84 [aI bg]] jx (bV.thn bV.body) fun I0 d7 w0 pk=>?_
 refine hD 0 [0,5] rfl (cx b 0 1 [aI bg]) (h:=eF (ae a.1) 2 [0,5] rfl fP (h:=eF (ae a.2.1) 3 [0,5] rfl fP (h:=eF (aI b) 4 [0,5] rfl (kw b 0 0) (h:=hD 5 [0,5] rfl (il b 0 1) (h:=eF (aI bg) 6 [0,5] rfl cL (h:=eF (sO bg 6) 7 [0,5] rfl (kw bg 0 6) (h:=sK 8 [0,5] rfl (cx bg 6 0 (bF p0.f4)) ?_)))))))
 obtain⟨J,a0,H⟩:=ac H
 obtain⟨⟨hl1344a,hl1344b,hl1344c⟩,H⟩:=aS H
 refine fa 1 (by kernel_rfl) rfl (.no rfl) (mu [0,1,2,3,4] [5] (ed.ok (bg:=bg) a0) ?_)
 rintro _ _⟨a6,b1,N,rfl,rfl⟩
 refine ⟨fun _=>⟨[0,5],rfl,rfl⟩,?_⟩
 obtain⟨d4,a3,H⟩:=ac H
 obtain⟨O,H⟩:=aS H
 refine fa 9 (by kernel_rfl) rfl (.no rfl) (da [1] [0,2,3,4,5] (jc.ok (o0:=J.1) (n0:=J.2) (A0:=af) (c0:=ag) (V0:=a6) (v0:=b1) (hw0:=N) a3) ?_)
 try unfold cQ
 try unfold eD
 try unfold am
 try rewrite [← O]
 refine ⟨fun h_=>absurd h_ (by decide),?_⟩
 refine aH (by kernel_rfl) (aa (ap (aP (ad ar (h:=bA ?_)))))
 obtain⟨K,H,F⟩:=ac H
 refine bK (fun e ds As=>∃ (c : Option Addr) (o : Nat),∃ (d : Option Addr) (p : Nat),∃ (j : Option Addr) (q : Nat),∃ (m : Option Addr) (s : Nat),St [(3,aI b)] (aL bg 34 (am K c o d p j q m s)::(bn K c o d p j q m s++[aL b 84 [aI bg]])) e ds As) ?_ ?_
 ·rcases bD H with⟨D,H⟩|⟨D,H⟩
  ·refine aD rfl D (aP (bq (cx b 0 5 [aI bg]) (h:=S' ar ?_)))
   obtain⟨d5,a5,H⟩:=ac H
   refine o' (ef [1,0,2,3,4] [5] (cY.ok (bg:=bg) a5) fun c6 d0 c7 d1 c8 d2 c9 d3=>?_)
   refine bA (bQ 1 fun b7=>bQ 2 fun b8=>bQ 3 fun b9=>bQ 4 fun c5=>?_)
   refine fg (dC 0 8) [0,5] (dC 1 4) fun _ _ _ _ _ sH dd pk=>?_
   refine bN 0 rfl sH (cx b 0 1 [aI bg]) (h:=bf 1 rfl sH aA (h:=bN 2 rfl sH (aO 1) (h:=bf 3 rfl sH cL (h:=bf 4 rfl sH aA (h:=bN 5 rfl sH (aO 0) (h:=bf 6 rfl sH (bX rfl rfl) (h:=bf 7 rfl sH ar (h:=aV dd sH ?_))))))))
   obtain⟨d6,a4,H⟩:=ac H
   refine eG 8 rfl (ef [0,2,3,4,5] [1] (cY.ok (bg:=bg) a4) fun S a7 U a8 Y a9 Z b0=>?_)
   refine aH (by kernel_rfl) ?_
   have h:=aN H;subst h
   exact aa ⟨S,a7,U,a8,Y,a9,Z,b0,eb [0,1,2,3,4,5]⟩
  refine aE rfl D (ao ?_)
  have h:=aN H;subst h
  exact aa ⟨af,ag,ay,az,au,av,aw,ax,eb [1,0,2,3,4,5]⟩
 rintro e ds As ⟨c,o,d,p,j,q,m,s,M⟩
 clear H
 have H:=F
 clear F
 refine aa (SA.of_St M fun junk=>ak (ad aA (h:=bq (aO 5) (h:=ad cL (h:=ad aA (h:=o' (cJ 0 [.bool false] (h:=(ah ?_)))))))))
 have h:=aN H;subst h
 exact fH [0,1,2,3,4] ⟨c,o,d,p,j,q,m,s,rfl,rfl⟩


def kf.f (k : Nat) (p0 : aJ) (p1 : Bool) (p2 : Int) : Option (aJ):=(iN.f k p0 p1 p2).bind (fun a=>some (a))
theorem kf.ok {p0 : aJ} {p1 : Bool} {p2 : Int} {r : aJ} (H : kf.f k p0 p1 p2 = some r) : dp Tryz.prog 80 #[.agg #[.pointer (some ⟨bg,0,none⟩)],.pointer (some ⟨ig,0,none⟩),.pointer (some ⟨ox,0,none⟩)] (aL bg 34 (am p0 af ag ay az au av aw ax)::(bn p0 af ag ay az au av aw ax++[aL ig 4 [.bool p1],aL ox 3 [ae p2]])) (fun v B=>∃ P0_0_ q0_0_ P0_1_ q0_1_ P0_2_ q0_2_ P0_3_ q0_3_,v = .tuple #[]∧B = (aL bg 34 (am r P0_0_ q0_0_ P0_1_ q0_1_ P0_2_ q0_2_ P0_3_ q0_3_)::(bn r P0_0_ q0_0_ P0_1_ q0_1_ P0_2_ q0_2_ P0_3_ q0_3_++[aL ig 4 [.bool p1],aL ox 3 [ae p2]]))):=by
 refine aj Tryz.func80 rfl rfl ?_
 unfold kf.f at H
 refine aP (o' (bO (h:=fun q=>bA (bQ 1 fun s=>bQ 2 fun u=>bQ 3 fun y=>bQ 4 fun z=>ak (bq (cx q 0 7 [aI bg]) (h:=l' (aO 5) ?_))))))
 refine l' (aO 6) ?_
 obtain⟨D,j,H⟩:=ac H
 refine o' (ef [0,1,2,3,4] [5,6,7] (iN.ok (bg:=bg) j) fun a l b m c o d p=>?_)
 refine ah ?_
 have h:=aN H;subst h
 exact fH [0,1,2,3,4,5,6] ⟨a,l,b,m,c,o,d,p,rfl,rfl⟩


def gV.f (k : Nat) (a0 : aJ) (p2000 : Bool) (p2001 : Int) : Option (aJ × Int):=(eu.f k a0).bind (fun a=>if (!a) = true then (some (((aJ.mk (bJ.mk 0 0 ([] : (List ba))) 0 0 false (cN.mk 0 0 false false false false false false false false) 0 0 ([] : (List Int)) false false false false false false (dH.mk 0 0 false false (cN.mk 0 0 false false false false false false false false)) false (bJ.mk 0 0 ([] : (List ba))) ([] : (List Int))),2))) else ((ly.f a0).bind (fun b=>(kf.f k b p2000 p2001).bind (fun ou=>some ((ou,0))))))
theorem gV.ok {a0 : aJ} {p2000 : Bool} {p2001 : Int} {r : aJ × Int} (H : gV.f k a0 p2000 p2001 = some r) : dp Tryz.prog 62 #[.agg (am a0 af ag ay az au av aw ax).toArray,.func (.func 80) #[] #[.pointer (some ⟨bS,0,none⟩),.pointer (some ⟨dN,0,none⟩)]] (co a0 af ag ay az au av aw ax++[aL bS 4 [.bool p2000],aL dN 3 [ae p2001]]) (fun v B=>∃ aQ aR bv bx bo bp bw bz,v = .tuple #[.agg (am r.1 aQ aR bv bx bo bp bw bz).toArray,ae r.2]∧B = (bn r.1 aQ aR bv bx bo bp bw bz++[aL bS 4 [.bool p2000],aL dN 3 [ae p2001]])):=by
 refine aj Tryz.func62 rfl rfl ?_
 unfold gV.f at H
 refine aP (o' (bO (h:=fun b=>o' (cC (h:=fun I=>ad aW (h:=eA (l' (cm 6) ?_)))))))
 obtain⟨O,F,H⟩:=ac H
 refine o' (da [0,1,2,3] [0,1,2,3,4,5,6,7] (qR.ok F) ?_)
 refine ad (bU rfl) (h:=bA ?_)
 rcases bD H with⟨a,H⟩|⟨a,H⟩
 ·refine aD rfl a (aP (bT (.agg (am cB none 0 none 0 none 0 none 0).toArray) dS (h:=o' (bj I 0 7 (am cB none 0 none 0 none 0 none 0) (h:=ad aW (h:=cA ?_))))))
  have h:=aN H;subst h
  exact lX [.cell 4 34,.tmp 5] ((Gh.nilBuf bI 55).trans ((Gh.nilBuf (Kd.int .i64) 3).trans ((Gh.nilBuf bI 55).trans ((Gh.nilBuf (Kd.int .i32) 21).trans (fk [8,9,10,11,4,5]))))) ⟨none,0,none,0,none,0,none,0,rfl,rfl⟩ ⟨cW 7,cX,trivial⟩
 refine aE rfl a (ao (aa (aP (l' (cm 6) ?_))))
 obtain⟨N,E,H⟩:=ac H
 refine o' (ef [0,1,2,3] [0,1,2,3,4,5,6,7] (ly.ok E) fun s J u K y L z M=>?_)
 refine o' (bj b 0 10 (am N s J u K y L z M) (h:=cR (ad ar (h:=s' (.agg #[aI b]) dS ?_))))
 obtain⟨ou,D,H⟩:=ac H
 refine o' (re [10,0,1,2,3,8,9] [4,5,6,7,11] (jj (vs:=[.agg #[aI b]]) (cap:=[aI bS,aI dN]) rfl Tryz.func80 Bi rfl rfl) (kf.ok (bg:=b) (ig:=bS) (ox:=dN) D) ?_)
 rintro _ _⟨c,m,d,o,j,p,l,q,rfl,rfl⟩
 refine cR (bq (cm 0) (h:=o' (bj I 0 11 (am ou c m d o j p l q) (h:=ad aW (h:=cD ?_)))))
 have h:=aN H;subst h
 exact dE [.cell 4 34,.tmp 5] [1,2,3,4,5,6] ⟨c,m,d,o,j,p,l,q,rfl,rfl⟩ ⟨cW 11,cX,trivial⟩


def wy.f (k : Nat) (a0 : aJ) (a1 : Bool) (a2 : Int) : Option (aJ × Int):=(gV.f k a0 a1 a2).bind (fun a=>some ((a.1,a.2)))
theorem wy.ok {a0 : aJ} {a1 : Bool} {a2 : Int} {r : aJ × Int} (H : wy.f k a0 a1 a2 = some r) : dp Tryz.prog 31 #[.agg (am a0 af ag ay az au av aw ax).toArray,.bool a1,ae a2] (co a0 af ag ay az au av aw ax) (fun v B=>∃ aQ aR bv bx bo bp bw bz,v = .tuple #[.agg (am r.1 aQ aR bv bx bo bp bw bz).toArray,ae r.2]∧B = (bn r.1 aQ aR bv bx bo bp bw bz)):=by
 refine aj Tryz.func31 rfl rfl ?_
 unfold wy.f at H
 refine aP (o' (bO (h:=fun z=>o' (bO (h:=fun p=>o' (bO (h:=fun q=>o' (cC (h:=fun u=>ad aW (h:=cR (bq (cm 4) (h:=s' (.func (.func 80) #[] #[aI p,aI q]) (dP (us:=[aI p,aI q]) rfl) ?_))))))))))))
 obtain⟨y,s,H⟩:=ac H
 refine o' (ef [0,1,2,3,5,6] [0,1,2,3,4,7] (gV.ok (bS:=p) (dN:=q) s) fun a j b l c m d o=>?_)
 refine ad cw (h:=ad cw (h:=o' (bj u 0 11 (am y.1 a j b l c m d o) (h:=ad aW (h:=cD ?_)))))
 have h:=aN H;subst h
 exact dE [.cell 6 34,.tmp 7] [0,1,2,3] ⟨a,j,b,l,c,m,d,o,rfl,rfl⟩ ⟨cW 11,cX,trivial⟩


def iO.f (k : Nat) (p0 : aJ) (a1 : Int) : Option (aJ):=(if p0.f1 < p0.f5 then (some true) else (some (decide (p0.f1 > p0.f6))) : Option (Bool)).bind (fun c=>if c = true then (some (p0)) else ((lT.f a1).bind (fun a=>(dk.f k p0 p0.f1 p0.f6 (i64.wrap (0 - a)) p0.f4).bind (fun b=>some (({ b with f2:=0,f3:=false }))))))
theorem iO.ok {p0 : aJ} {a1 : Int} {r : aJ} (H : iO.f k p0 a1 = some r) : dp Tryz.prog 83 #[.agg #[.pointer (some ⟨bg,0,none⟩)],ae a1] (cQ bg p0 af ag ay az au av aw ax) (fun v B=>∃ P0_0_ q0_0_ P0_1_ q0_1_ P0_2_ q0_2_ P0_3_ q0_3_,v = .tuple #[]∧B = (cQ bg r P0_0_ q0_0_ P0_1_ q0_1_ P0_2_ q0_2_ P0_3_ q0_3_)):=by
 refine aj Tryz.func83 rfl rfl ?_
 unfold iO.f at H
 refine aP (o' (bO (h:=fun E=>bA (ap (ap ?_)))))
 obtain⟨M,H,D⟩:=ac H
 refine bK (St [(1,ae a1),(2,aI E),(27,.bool M)] (aL bg 34 (am p0 af ag ay az au av aw ax)::(bn p0 af ag ay az au av aw ax++[aL E 84 [aI bg]]))) ?_ ?_
 ·refine fg (dC 0 24) [0,5] (dC 1 4) fun _ _ _ _ _ sH dd pk=>?_
  refine bf 0 rfl sH aA (h:=bN 1 rfl sH (aO 1) (h:=bf 2 rfl sH cL (h:=bf 3 rfl sH aA (h:=bN 4 rfl sH (aO 0) (h:=bf 5 rfl sH aA (h:=bN 6 rfl sH (aO 1) (h:=bf 7 rfl sH cL (h:=bf 8 rfl sH aA (h:=r' 9 rfl sH (aO 0) ?_)))))))))
  refine bf 10 rfl sH (cg rfl rfl) (h:=T' 11 rfl sH ar ?_)
  rcases bD H with⟨a,H⟩|⟨a,H⟩
  ·refine bM 12 rfl (ai a) (bM 13 rfl (ai a) (bM 14 rfl (ai a) (bM 15 rfl (ai a) (bM 16 rfl (ai a) (bM 17 rfl (ai a) (bM 18 rfl (ai a) (bM 19 rfl (ai a) (bM 20 rfl (ai a) (bM 21 rfl (ai a) ?_)))))))))
   refine bM 22 rfl (ai a) (bN 23 rfl sH (VR.ofV (bR rfl (ai a) rfl)) (h:=aV dd sH (aH (by kernel_rfl) ?_)))
   have h:=aN H;subst h
   exact bH [0,2,3,4,5,1]
  refine cU 12 rfl (al a) sH aA (h:=cH 13 rfl (al a) sH (aO 1) (h:=cU 14 rfl (al a) sH cL (h:=cU 15 rfl (al a) sH aA (h:=cH 16 rfl (al a) sH (aO 0) (h:=cU 17 rfl (al a) sH aA (h:=cH 18 rfl (al a) sH (aO 1) (h:=cU 19 rfl (al a) sH cL (h:=cU 20 rfl (al a) sH aA (h:=xT 21 rfl (al a) sH (aO 0) ?_)))))))))
  refine cU 22 rfl (al a) sH (eN rfl rfl) (h:=bN 23 rfl sH (VR.ofV (bL rfl (al a) rfl)) (h:=aV dd sH (aH (by kernel_rfl) ?_)))
  have h:=aN H;subst h
  exact bH [0,2,3,4,5,1]
 rintro e ds As c
 clear H
 have H:=D
 clear D
 refine aa (SA.of_St c fun junk=>?_)
 rcases bD H with⟨b,H⟩|⟨b,H⟩
 ·refine aD rfl b (eM (aF ?_))
  have h:=aN H;subst h
  exact kO (cQ bg p0 af ag ay az au av aw ax) rfl (fk [0,1,2,3,4]) ⟨af,ag,ay,az,au,av,aw,ax,rfl,rfl⟩
 refine aE rfl b (ao (aa (ap (bQ 1 fun F=>bQ 2 fun I=>bQ 3 fun J=>bQ 4 fun K=>?_))))
 refine fg (0::1::2::3::4::5::6::7::8::9::10::11::12::13::14::16::17::18::19::20::21::[]) [0,5] (dC 1 4) fun _ _ _ _ _ sH dd pk=>?_
 refine bf 0 rfl sH aA (h:=bN 1 rfl sH (aO 1) (h:=bf 2 rfl sH cL (h:=bf 3 rfl sH aA (h:=bf 4 rfl sH aA (h:=bN 5 rfl sH (aO 1) (h:=bf 6 rfl sH cL (h:=bf 7 rfl sH aA (h:=bN 8 rfl sH (aO 0) (h:=T' 9 rfl sH aA ?_)))))))))
 refine bN 10 rfl sH (aO 1) (h:=bf 11 rfl sH cL (h:=bf 12 rfl sH aA (h:=bN 13 rfl sH (aO 0) (h:=bf 14 rfl sH ar (h:=bf 17 rfl sH aA (h:=bN 18 rfl sH (aO 1) (h:=bf 19 rfl sH cL (h:=bf 20 rfl sH aA (h:=r' 21 rfl sH (cx bg 6 0 (bF p0.f4)) ?_)))))))))
 obtain⟨z,o,H⟩:=ac H
 refine dT 15 rfl dd (da [] [0,1,2,3] (lT.ok o) ?_)
 refine kQ (ae (i64.wrap (0 - z))) 16 rfl sH (ms rfl) (h:=aV dd sH ?_)
 obtain⟨L,p,H⟩:=ac H
 refine eG 22 rfl (ef [0,2,3,4,5] [1] (dk.ok (bg:=bg) p) fun d q j s l u m y=>?_)
 refine aH (by kernel_rfl) (aa ?_)
 refine fg [0,1,2,3,4,5,7,8] [5] (dC 0 5) fun _ _ _ _ _ sH dd pk=>?_
 refine bf 0 rfl sH aA (h:=bN 1 rfl sH (aO 0) (h:=bf 2 rfl sH aA (h:=bN 3 rfl sH (aO 0) (h:=bf 4 rfl sH cL (h:=bf 5 rfl sH aA (h:=dT 6 rfl dd (cJ 0 [ae 0] (h:=(bf 7 rfl sH cL (h:=bf 8 rfl sH aA (h:=dT 9 rfl dd (cJ 0 [.bool false] (h:=?_)))))))))))))
 refine aV dd sH (aH (by kernel_rfl) ?_)
 have h:=aN H;subst h
 exact fH [1,2,3,4,5] ⟨d,q,j,s,l,u,m,y,rfl,rfl⟩


def kg.f (k : Nat) (p0 : aJ) (p1 : Int) : Option (aJ):=(iO.f k p0 p1).bind (fun a=>some (a))
theorem kg.ok {p0 : aJ} {p1 : Int} {r : aJ} (H : kg.f k p0 p1 = some r) : dp Tryz.prog 82 #[.agg #[.pointer (some ⟨bg,0,none⟩)],.pointer (some ⟨ig,0,none⟩)] (aL bg 34 (am p0 af ag ay az au av aw ax)::(bn p0 af ag ay az au av aw ax++[aL ig 3 [ae p1]])) (fun v B=>∃ P0_0_ q0_0_ P0_1_ q0_1_ P0_2_ q0_2_ P0_3_ q0_3_,v = .tuple #[]∧B = (aL bg 34 (am r P0_0_ q0_0_ P0_1_ q0_1_ P0_2_ q0_2_ P0_3_ q0_3_)::(bn r P0_0_ q0_0_ P0_1_ q0_1_ P0_2_ q0_2_ P0_3_ q0_3_++[aL ig 3 [ae p1]]))):=by
 refine aj Tryz.func82 rfl rfl ?_
 unfold kg.f at H
 refine aP (o' (bO (h:=fun q=>bA (bQ 1 fun z=>bQ 2 fun s=>bQ 3 fun u=>bQ 4 fun y=>ak (bq (cx q 0 6 [aI bg]) (h:=l' (aO 5) ?_))))))
 obtain⟨D,j,H⟩:=ac H
 refine o' (ef [0,1,2,3,4] [5,6] (iO.ok (bg:=bg) j) fun a l b m c o d p=>?_)
 refine ah ?_
 have h:=aN H;subst h
 exact fH [0,1,2,3,4,5] ⟨a,l,b,m,c,o,d,p,rfl,rfl⟩


def iy.f (k : Nat) (a0 : aJ) (p2000 : Int) : Option (aJ × Int):=(eu.f k a0).bind (fun a=>if (!a) = true then (some (((aJ.mk (bJ.mk 0 0 ([] : (List ba))) 0 0 false (cN.mk 0 0 false false false false false false false false) 0 0 ([] : (List Int)) false false false false false false (dH.mk 0 0 false false (cN.mk 0 0 false false false false false false false false)) false (bJ.mk 0 0 ([] : (List ba))) ([] : (List Int))),2))) else ((ly.f a0).bind (fun b=>(kg.f k b p2000).bind (fun c=>some ((c,0))))))
theorem iy.ok {a0 : aJ} {p2000 : Int} {r : aJ × Int} (H : iy.f k a0 p2000 = some r) : dp Tryz.prog 62 #[.agg (am a0 af ag ay az au av aw ax).toArray,.func (.func 82) #[] #[.pointer (some ⟨bS,0,none⟩)]] (co a0 af ag ay az au av aw ax++[aL bS 3 [ae p2000]]) (fun v B=>∃ aQ aR bv bx bo bp bw bz,v = .tuple #[.agg (am r.1 aQ aR bv bx bo bp bw bz).toArray,ae r.2]∧B = (bn r.1 aQ aR bv bx bo bp bw bz++[aL bS 3 [ae p2000]])):=by
 refine aj Tryz.func62 rfl rfl ?_
 unfold iy.f at H
 refine aP (o' (bO (h:=fun b=>o' (cC (h:=fun I=>ad aW (h:=eA (l' (cm 5) ?_)))))))
 obtain⟨R,F,H⟩:=ac H
 refine o' (da [0,1,2,3] [0,1,2,3,4,5,6] (qR.ok F) ?_)
 refine ad (bU rfl) (h:=bA ?_)
 rcases bD H with⟨a,H⟩|⟨a,H⟩
 ·refine aD rfl a (aP (bT (.agg (am cB none 0 none 0 none 0 none 0).toArray) dS (h:=o' (bj I 0 6 (am cB none 0 none 0 none 0 none 0) (h:=ad aW (h:=cA ?_))))))
  have h:=aN H;subst h
  exact lX [.cell 4 34,.tmp 5] ((Gh.nilBuf bI 55).trans ((Gh.nilBuf (Kd.int .i64) 3).trans ((Gh.nilBuf bI 55).trans ((Gh.nilBuf (Kd.int .i32) 21).trans (fk [7,8,9,10,4]))))) ⟨none,0,none,0,none,0,none,0,rfl,rfl⟩ ⟨cW 6,cX,trivial⟩
 refine aE rfl a (ao (aa (aP (l' (cm 5) ?_))))
 obtain⟨N,E,H⟩:=ac H
 refine o' (ef [0,1,2,3] [0,1,2,3,4,5,6] (ly.ok E) fun s J u K y L z M=>?_)
 refine o' (bj b 0 9 (am N s J u K y L z M) (h:=cR (ad ar (h:=s' (.agg #[aI b]) dS ?_))))
 obtain⟨O,D,H⟩:=ac H
 refine o' (re [9,0,1,2,3,8] [4,5,6,7,10] (jj (vs:=[.agg #[aI b]]) (cap:=[aI bS]) rfl Tryz.func82 Bj rfl rfl) (kg.ok (bg:=b) (ig:=bS) D) ?_)
 rintro _ _⟨c,m,d,o,j,p,l,q,rfl,rfl⟩
 refine cR (bq (cm 0) (h:=o' (bj I 0 10 (am O c m d o j p l q) (h:=ad aW (h:=cD ?_)))))
 have h:=aN H;subst h
 exact dE [.cell 4 34,.tmp 5] [1,2,3,4,5] ⟨c,m,d,o,j,p,l,q,rfl,rfl⟩ ⟨cW 10,cX,trivial⟩


def wz.f (k : Nat) (a0 : aJ) (a1 : Int) : Option (aJ × Int):=(iy.f k a0 a1).bind (fun a=>some ((a.1,a.2)))
theorem wz.ok {a0 : aJ} {a1 : Int} {r : aJ × Int} (H : wz.f k a0 a1 = some r) : dp Tryz.prog 32 #[.agg (am a0 af ag ay az au av aw ax).toArray,ae a1] (co a0 af ag ay az au av aw ax) (fun v B=>∃ aQ aR bv bx bo bp bw bz,v = .tuple #[.agg (am r.1 aQ aR bv bx bo bp bw bz).toArray,ae r.2]∧B = (bn r.1 aQ aR bv bx bo bp bw bz)):=by
 refine aj Tryz.func32 rfl rfl ?_
 unfold wz.f at H
 refine aP (o' (bO (h:=fun y=>o' (bO (h:=fun p=>o' (cC (h:=fun u=>ad aW (h:=cR (bq (cm 4) (h:=s' (.func (.func 82) #[] #[aI p]) (dP (us:=[aI p]) rfl) ?_))))))))))
 obtain⟨s,q,H⟩:=ac H
 refine o' (ef [0,1,2,3,5] [0,1,2,3,4,6] (iy.ok (bS:=p) q) fun a j b l c m d o=>?_)
 refine ad cw (h:=ad cw (h:=o' (bj u 0 10 (am s.1 a j b l c m d o) (h:=ad aW (h:=cD ?_)))))
 have h:=aN H;subst h
 exact dE [.cell 4 34,.tmp 5] [0,1,2,3] ⟨a,j,b,l,c,m,d,o,rfl,rfl⟩ ⟨cW 10,cX,trivial⟩


def iP.f (k : Nat) (p0 : aJ) (a1 : Int) : Option (aJ):=(ed.f p0).bind (fun a=>if (0 ≤ a.1∧0 ≤ a.2∧a.1 + a.2 ≤ (p0.f0.f2.length : Int)) then ((jb.f k p0.f0.f2 a.1 a.2 p0.f2 a1 p0.f4).bind (fun b=>if b.length = p0.f0.f2.length then (some (({ p0 with f0:=(bJ.mk p0.f0.f0 p0.f0.f1 b),f3:=false }))) else none)) else none)
theorem iP.ok {p0 : aJ} {a1 : Int} {r : aJ} (H : iP.f k p0 a1 = some r) : dp Tryz.prog 85 #[.agg #[.pointer (some ⟨bg,0,none⟩)],ae a1] (cQ bg p0 af ag ay az au av aw ax) (fun v B=>∃ P0_0_ q0_0_ P0_1_ q0_1_ P0_2_ q0_2_ P0_3_ q0_3_,v = .tuple #[]∧B = (cQ bg r P0_0_ q0_0_ P0_1_ q0_1_ P0_2_ q0_2_ P0_3_ q0_3_)):=by
 refine aj Tryz.func85 rfl rfl ?_
 unfold iP.f at H
 refine aP (o' (bO (h:=fun a=>bA (ap (bQ 1 fun u=>bQ 2 fun y=>bQ 3 fun p=>bQ 4 fun q=>?_)))))
 refine fO [0,2,3,4,5,6,7,8,9,10,11,12] (List.toArray ([]::[0]::[]::[2]::[2,3]::[2,3,4]::(dC 2 4)::[]::[]::[8]::[8,9]::[8,9,10]::(dC 8 4)::[0,2,3,4,5,6,7,8,9,10,11,12]::[])) [aL bg 34 (am p0 af ag ay az au av aw ax),aL a 84 [aI bg]] jx (bV.thn bV.body) fun D z E pk=>?_
 refine hD 0 [0,5] rfl (cx a 0 1 [aI bg]) (h:=eF (aI a) 2 [0,5] rfl (kw a 0 0) (h:=hD 3 [0,5] rfl (il a 0 1) (h:=eF (aI bg) 4 [0,5] rfl cL (h:=eF (sO bg 4) 5 [0,5] rfl (kw bg 0 4) (h:=hD 6 [0,5] rfl (il bg 4 0) (h:=eF (ae a1) 7 [0,5] rfl fP (h:=eF (aI a) 8 [0,5] rfl (kw a 0 0) (h:=hD 9 [0,5] rfl (il a 0 1) (h:=wb (aI bg) 10 [0,5] rfl cL ?_)))))))))
 refine eF (sO bg 6) 11 [0,5] rfl (kw bg 0 6) (h:=sK 12 [0,5] rfl (cx bg 6 0 (bF p0.f4)) ?_)
 obtain⟨c,l,H⟩:=ac H
 obtain⟨⟨hl76a,hl76b,hl76c⟩,H⟩:=aS H
 refine fa 1 (by kernel_rfl) rfl (.no rfl) (mu [0,1,2,3,4] [5] (ed.ok (bg:=bg) l) ?_)
 rintro _ _⟨m,o,j,rfl,rfl⟩
 refine ⟨fun _=>⟨[0,5],rfl,rfl⟩,?_⟩
 obtain⟨s,d,H⟩:=ac H
 obtain⟨b,H⟩:=aS H
 refine fa 13 (by kernel_rfl) rfl (.no rfl) (da [1] [0,2,3,4,5] (jb.ok (o0:=c.1) (n0:=c.2) (A0:=af) (c0:=ag) (V0:=m) (v0:=o) (hw0:=j) d) ?_)
 try unfold cQ
 try unfold eD
 try unfold am
 try rewrite [← b]
 refine ⟨fun h_=>absurd h_ (by decide),?_⟩
 refine aH (by kernel_rfl) (aa (ak (ad aA (h:=bq (aO 5) (h:=ad cL (h:=ad aA (h:=o' (cJ 1 [.bool false] (h:=(ah ?_))))))))))
 have h:=aN H;subst h
 exact fH [1,0,2,3,4] ⟨af,ag,ay,az,au,av,aw,ax,rfl,rfl⟩


def ki.f (k : Nat) (p0 : aJ) (p1 : Int) : Option (aJ):=(iP.f k p0 p1).bind (fun a=>some (a))
theorem ki.ok {p0 : aJ} {p1 : Int} {r : aJ} (H : ki.f k p0 p1 = some r) : dp Tryz.prog 84 #[.agg #[.pointer (some ⟨bg,0,none⟩)],.pointer (some ⟨ig,0,none⟩)] (aL bg 34 (am p0 af ag ay az au av aw ax)::(bn p0 af ag ay az au av aw ax++[aL ig 3 [ae p1]])) (fun v B=>∃ P0_0_ q0_0_ P0_1_ q0_1_ P0_2_ q0_2_ P0_3_ q0_3_,v = .tuple #[]∧B = (aL bg 34 (am r P0_0_ q0_0_ P0_1_ q0_1_ P0_2_ q0_2_ P0_3_ q0_3_)::(bn r P0_0_ q0_0_ P0_1_ q0_1_ P0_2_ q0_2_ P0_3_ q0_3_++[aL ig 3 [ae p1]]))):=by
 refine aj Tryz.func84 rfl rfl ?_
 unfold ki.f at H
 refine aP (o' (bO (h:=fun q=>bA (bQ 1 fun z=>bQ 2 fun s=>bQ 3 fun u=>bQ 4 fun y=>ak (bq (cx q 0 6 [aI bg]) (h:=l' (aO 5) ?_))))))
 obtain⟨D,j,H⟩:=ac H
 refine o' (ef [0,1,2,3,4] [5,6] (iP.ok (bg:=bg) j) fun a l b m c o d p=>?_)
 refine ah ?_
 have h:=aN H;subst h
 exact fH [0,1,2,3,4,5] ⟨a,l,b,m,c,o,d,p,rfl,rfl⟩


def iz.f (k : Nat) (a0 : aJ) (p2000 : Int) : Option (aJ × Int):=(eu.f k a0).bind (fun a=>if (!a) = true then (some (((aJ.mk (bJ.mk 0 0 ([] : (List ba))) 0 0 false (cN.mk 0 0 false false false false false false false false) 0 0 ([] : (List Int)) false false false false false false (dH.mk 0 0 false false (cN.mk 0 0 false false false false false false false false)) false (bJ.mk 0 0 ([] : (List ba))) ([] : (List Int))),2))) else ((ly.f a0).bind (fun b=>(ki.f k b p2000).bind (fun c=>some ((c,0))))))
theorem iz.ok {a0 : aJ} {p2000 : Int} {r : aJ × Int} (H : iz.f k a0 p2000 = some r) : dp Tryz.prog 62 #[.agg (am a0 af ag ay az au av aw ax).toArray,.func (.func 84) #[] #[.pointer (some ⟨bS,0,none⟩)]] (co a0 af ag ay az au av aw ax++[aL bS 3 [ae p2000]]) (fun v B=>∃ aQ aR bv bx bo bp bw bz,v = .tuple #[.agg (am r.1 aQ aR bv bx bo bp bw bz).toArray,ae r.2]∧B = (bn r.1 aQ aR bv bx bo bp bw bz++[aL bS 3 [ae p2000]])):=by
 refine aj Tryz.func62 rfl rfl ?_
 unfold iz.f at H
 refine aP (o' (bO (h:=fun b=>o' (cC (h:=fun I=>ad aW (h:=eA (l' (cm 5) ?_)))))))
 obtain⟨R,F,H⟩:=ac H
 refine o' (da [0,1,2,3] [0,1,2,3,4,5,6] (qR.ok F) ?_)
 refine ad (bU rfl) (h:=bA ?_)
 rcases bD H with⟨a,H⟩|⟨a,H⟩
 ·refine aD rfl a (aP (bT (.agg (am cB none 0 none 0 none 0 none 0).toArray) dS (h:=o' (bj I 0 6 (am cB none 0 none 0 none 0 none 0) (h:=ad aW (h:=cA ?_))))))
  have h:=aN H;subst h
  exact lX [.cell 4 34,.tmp 5] ((Gh.nilBuf bI 55).trans ((Gh.nilBuf (Kd.int .i64) 3).trans ((Gh.nilBuf bI 55).trans ((Gh.nilBuf (Kd.int .i32) 21).trans (fk [7,8,9,10,4]))))) ⟨none,0,none,0,none,0,none,0,rfl,rfl⟩ ⟨cW 6,cX,trivial⟩
 refine aE rfl a (ao (aa (aP (l' (cm 5) ?_))))
 obtain⟨N,E,H⟩:=ac H
 refine o' (ef [0,1,2,3] [0,1,2,3,4,5,6] (ly.ok E) fun s J u K y L z M=>?_)
 refine o' (bj b 0 9 (am N s J u K y L z M) (h:=cR (ad ar (h:=s' (.agg #[aI b]) dS ?_))))
 obtain⟨O,D,H⟩:=ac H
 refine o' (re [9,0,1,2,3,8] [4,5,6,7,10] (jj (vs:=[.agg #[aI b]]) (cap:=[aI bS]) rfl Tryz.func84 Bl rfl rfl) (ki.ok (bg:=b) (ig:=bS) D) ?_)
 rintro _ _⟨c,m,d,o,j,p,l,q,rfl,rfl⟩
 refine cR (bq (cm 0) (h:=o' (bj I 0 10 (am O c m d o j p l q) (h:=ad aW (h:=cD ?_)))))
 have h:=aN H;subst h
 exact dE [.cell 4 34,.tmp 5] [1,2,3,4,5] ⟨c,m,d,o,j,p,l,q,rfl,rfl⟩ ⟨cW 10,cX,trivial⟩


def wA.f (k : Nat) (a0 : aJ) (a1 : Int) : Option (aJ × Int):=(iz.f k a0 a1).bind (fun a=>some ((a.1,a.2)))
theorem wA.ok {a0 : aJ} {a1 : Int} {r : aJ × Int} (H : wA.f k a0 a1 = some r) : dp Tryz.prog 33 #[.agg (am a0 af ag ay az au av aw ax).toArray,ae a1] (co a0 af ag ay az au av aw ax) (fun v B=>∃ aQ aR bv bx bo bp bw bz,v = .tuple #[.agg (am r.1 aQ aR bv bx bo bp bw bz).toArray,ae r.2]∧B = (bn r.1 aQ aR bv bx bo bp bw bz)):=by
 refine aj Tryz.func33 rfl rfl ?_
 unfold wA.f at H
 refine aP (o' (bO (h:=fun y=>o' (bO (h:=fun p=>o' (cC (h:=fun u=>ad aW (h:=cR (bq (cm 4) (h:=s' (.func (.func 84) #[] #[aI p]) (dP (us:=[aI p]) rfl) ?_))))))))))
 obtain⟨s,q,H⟩:=ac H
 refine o' (ef [0,1,2,3,5] [0,1,2,3,4,6] (iz.ok (bS:=p) q) fun a j b l c m d o=>?_)
 refine ad cw (h:=ad cw (h:=o' (bj u 0 10 (am s.1 a j b l c m d o) (h:=ad aW (h:=cD ?_)))))
 have h:=aN H;subst h
 exact dE [.cell 4 34,.tmp 5] [0,1,2,3] ⟨a,j,b,l,c,m,d,o,rfl,rfl⟩ ⟨cW 10,cX,trivial⟩


def iQ.f (k : Nat) (p0 : aJ) (a1 : Int) : Option (aJ):=(dk.f k p0 p0.f5 p0.f6 a1 p0.f4).bind (fun a=>some (({ a with f3:=false })))
theorem iQ.ok {p0 : aJ} {a1 : Int} {r : aJ} (H : iQ.f k p0 a1 = some r) : dp Tryz.prog 87 #[.agg #[.pointer (some ⟨bg,0,none⟩)],ae a1] (cQ bg p0 af ag ay az au av aw ax) (fun v B=>∃ P0_0_ q0_0_ P0_1_ q0_1_ P0_2_ q0_2_ P0_3_ q0_3_,v = .tuple #[]∧B = (cQ bg r P0_0_ q0_0_ P0_1_ q0_1_ P0_2_ q0_2_ P0_3_ q0_3_)):=by
 refine aj Tryz.func87 rfl rfl ?_
 unfold iQ.f at H
 refine aP (o' (bO (h:=fun D=>bA (ap (bQ 1 fun y=>bQ 2 fun z=>bQ 3 fun s=>bQ 4 fun u=>?_)))))
 refine fg (dC 0 20) [0,5] (dC 1 4) fun _ _ _ _ _ sH dd pk=>?_
 refine bf 0 rfl sH aA (h:=bN 1 rfl sH (aO 1) (h:=bf 2 rfl sH cL (h:=bf 3 rfl sH aA (h:=bf 4 rfl sH aA (h:=bN 5 rfl sH (aO 1) (h:=bf 6 rfl sH cL (h:=bf 7 rfl sH aA (h:=bN 8 rfl sH (aO 0) (h:=T' 9 rfl sH aA ?_)))))))))
 refine bN 10 rfl sH (aO 1) (h:=bf 11 rfl sH cL (h:=bf 12 rfl sH aA (h:=bN 13 rfl sH (aO 0) (h:=bf 14 rfl sH ar (h:=bf 15 rfl sH aA (h:=bN 16 rfl sH (aO 1) (h:=bf 17 rfl sH cL (h:=bf 18 rfl sH aA (h:=r' 19 rfl sH (cx bg 6 0 (bF p0.f4)) ?_)))))))))
 refine aV dd sH ?_
 obtain⟨q,j,H⟩:=ac H
 refine eG 20 rfl (ef [0,2,3,4,5] [1] (dk.ok (bg:=bg) j) fun a l b m c o d p=>?_)
 refine aH (by kernel_rfl) (aa (ak (ad aA (h:=bq (aO 5) (h:=ad cL (h:=ad aA (h:=o' (cJ 0 [.bool false] (h:=(ah ?_))))))))))
 have h:=aN H;subst h
 exact fH [0,1,2,3,4] ⟨a,l,b,m,c,o,d,p,rfl,rfl⟩


def kj.f (k : Nat) (p0 : aJ) (p1 : Int) : Option (aJ):=(iQ.f k p0 p1).bind (fun a=>some (a))
theorem kj.ok {p0 : aJ} {p1 : Int} {r : aJ} (H : kj.f k p0 p1 = some r) : dp Tryz.prog 86 #[.agg #[.pointer (some ⟨bg,0,none⟩)],.pointer (some ⟨ig,0,none⟩)] (aL bg 34 (am p0 af ag ay az au av aw ax)::(bn p0 af ag ay az au av aw ax++[aL ig 3 [ae p1]])) (fun v B=>∃ P0_0_ q0_0_ P0_1_ q0_1_ P0_2_ q0_2_ P0_3_ q0_3_,v = .tuple #[]∧B = (aL bg 34 (am r P0_0_ q0_0_ P0_1_ q0_1_ P0_2_ q0_2_ P0_3_ q0_3_)::(bn r P0_0_ q0_0_ P0_1_ q0_1_ P0_2_ q0_2_ P0_3_ q0_3_++[aL ig 3 [ae p1]]))):=by
 refine aj Tryz.func86 rfl rfl ?_
 unfold kj.f at H
 refine aP (o' (bO (h:=fun q=>bA (bQ 1 fun z=>bQ 2 fun s=>bQ 3 fun u=>bQ 4 fun y=>ak (bq (cx q 0 6 [aI bg]) (h:=l' (aO 5) ?_))))))
 obtain⟨D,j,H⟩:=ac H
 refine o' (ef [0,1,2,3,4] [5,6] (iQ.ok (bg:=bg) j) fun a l b m c o d p=>?_)
 refine ah ?_
 have h:=aN H;subst h
 exact fH [0,1,2,3,4,5] ⟨a,l,b,m,c,o,d,p,rfl,rfl⟩


def iA.f (k : Nat) (a0 : aJ) (p2000 : Int) : Option (aJ × Int):=(eu.f k a0).bind (fun a=>if (!a) = true then (some (((aJ.mk (bJ.mk 0 0 ([] : (List ba))) 0 0 false (cN.mk 0 0 false false false false false false false false) 0 0 ([] : (List Int)) false false false false false false (dH.mk 0 0 false false (cN.mk 0 0 false false false false false false false false)) false (bJ.mk 0 0 ([] : (List ba))) ([] : (List Int))),2))) else ((ly.f a0).bind (fun b=>(kj.f k b p2000).bind (fun c=>some ((c,0))))))
theorem iA.ok {a0 : aJ} {p2000 : Int} {r : aJ × Int} (H : iA.f k a0 p2000 = some r) : dp Tryz.prog 62 #[.agg (am a0 af ag ay az au av aw ax).toArray,.func (.func 86) #[] #[.pointer (some ⟨bS,0,none⟩)]] (co a0 af ag ay az au av aw ax++[aL bS 3 [ae p2000]]) (fun v B=>∃ aQ aR bv bx bo bp bw bz,v = .tuple #[.agg (am r.1 aQ aR bv bx bo bp bw bz).toArray,ae r.2]∧B = (bn r.1 aQ aR bv bx bo bp bw bz++[aL bS 3 [ae p2000]])):=by
 refine aj Tryz.func62 rfl rfl ?_
 unfold iA.f at H
 refine aP (o' (bO (h:=fun b=>o' (cC (h:=fun I=>ad aW (h:=eA (l' (cm 5) ?_)))))))
 obtain⟨R,F,H⟩:=ac H
 refine o' (da [0,1,2,3] [0,1,2,3,4,5,6] (qR.ok F) ?_)
 refine ad (bU rfl) (h:=bA ?_)
 rcases bD H with⟨a,H⟩|⟨a,H⟩
 ·refine aD rfl a (aP (bT (.agg (am cB none 0 none 0 none 0 none 0).toArray) dS (h:=o' (bj I 0 6 (am cB none 0 none 0 none 0 none 0) (h:=ad aW (h:=cA ?_))))))
  have h:=aN H;subst h
  exact lX [.cell 4 34,.tmp 5] ((Gh.nilBuf bI 55).trans ((Gh.nilBuf (Kd.int .i64) 3).trans ((Gh.nilBuf bI 55).trans ((Gh.nilBuf (Kd.int .i32) 21).trans (fk [7,8,9,10,4]))))) ⟨none,0,none,0,none,0,none,0,rfl,rfl⟩ ⟨cW 6,cX,trivial⟩
 refine aE rfl a (ao (aa (aP (l' (cm 5) ?_))))
 obtain⟨N,E,H⟩:=ac H
 refine o' (ef [0,1,2,3] [0,1,2,3,4,5,6] (ly.ok E) fun s J u K y L z M=>?_)
 refine o' (bj b 0 9 (am N s J u K y L z M) (h:=cR (ad ar (h:=s' (.agg #[aI b]) dS ?_))))
 obtain⟨O,D,H⟩:=ac H
 refine o' (re [9,0,1,2,3,8] [4,5,6,7,10] (jj (vs:=[.agg #[aI b]]) (cap:=[aI bS]) rfl Tryz.func86 Bm rfl rfl) (kj.ok (bg:=b) (ig:=bS) D) ?_)
 rintro _ _⟨c,m,d,o,j,p,l,q,rfl,rfl⟩
 refine cR (bq (cm 0) (h:=o' (bj I 0 10 (am O c m d o j p l q) (h:=ad aW (h:=cD ?_)))))
 have h:=aN H;subst h
 exact dE [.cell 4 34,.tmp 5] [1,2,3,4,5] ⟨c,m,d,o,j,p,l,q,rfl,rfl⟩ ⟨cW 10,cX,trivial⟩


def wB.f (k : Nat) (a0 : aJ) (a1 : Int) : Option (aJ × Int):=(iA.f k a0 a1).bind (fun a=>some ((a.1,a.2)))
theorem wB.ok {a0 : aJ} {a1 : Int} {r : aJ × Int} (H : wB.f k a0 a1 = some r) : dp Tryz.prog 34 #[.agg (am a0 af ag ay az au av aw ax).toArray,ae a1] (co a0 af ag ay az au av aw ax) (fun v B=>∃ aQ aR bv bx bo bp bw bz,v = .tuple #[.agg (am r.1 aQ aR bv bx bo bp bw bz).toArray,ae r.2]∧B = (bn r.1 aQ aR bv bx bo bp bw bz)):=by
 refine aj Tryz.func34 rfl rfl ?_
 unfold wB.f at H
 refine aP (o' (bO (h:=fun y=>o' (bO (h:=fun p=>o' (cC (h:=fun u=>ad aW (h:=cR (bq (cm 4) (h:=s' (.func (.func 86) #[] #[aI p]) (dP (us:=[aI p]) rfl) ?_))))))))))
 obtain⟨s,q,H⟩:=ac H
 refine o' (ef [0,1,2,3,5] [0,1,2,3,4,6] (iA.ok (bS:=p) q) fun a j b l c m d o=>?_)
 refine ad cw (h:=ad cw (h:=o' (bj u 0 10 (am s.1 a j b l c m d o) (h:=ad aW (h:=cD ?_)))))
 have h:=aN H;subst h
 exact dE [.cell 4 34,.tmp 5] [0,1,2,3] ⟨a,j,b,l,c,m,d,o,rfl,rfl⟩ ⟨cW 10,cX,trivial⟩


def iR.f (p0 : aJ) (a1 : Int) (a2 : Int) : Option (aJ):=lt ((decide (a1 < 0)) || (decide (a1 ≥ a2))) fun c=>lt (c || (decide (a2 ≥ p0.f0.f1))) fun b=>if b = true then (some (p0)) else ((fC.f ({ p0 with f5:=a1,f6:=a2 }) 0 0).bind (fun a=>some (a)))
theorem iR.ok {p0 : aJ} {a1 : Int} {a2 : Int} {r : aJ} (H : iR.f p0 a1 a2 = some r) : dp Tryz.prog 89 #[.agg #[.pointer (some ⟨bg,0,none⟩)],ae a1,ae a2] (cQ bg p0 af ag ay az au av aw ax) (fun v B=>∃ P0_0_ q0_0_ P0_1_ q0_1_ P0_2_ q0_2_ P0_3_ q0_3_,v = .tuple #[]∧B = (cQ bg r P0_0_ q0_0_ P0_1_ q0_1_ P0_2_ q0_2_ P0_3_ q0_3_)):=by
 refine aj Tryz.func89 rfl rfl ?_
 unfold iR.f at H
 refine aP (o' (bO (h:=fun c=>eA (ad ar (h:=ad (cg rfl rfl) (h:=S' ar ?_))))))
 obtain⟨I,m,H⟩:=bi H
 refine dy 4 [(1,ae a1),(2,ae a2),(3,aI c),(12,.bool I)] (aL bg 34 (am p0 af ag ay az au av aw ax)::(bn p0 af ag ay az au av aw ax++[aL c 84 [aI bg]])) ?_ fun junk=>?_
 ·by_cases b : a1 < 0
  ·refine ct 3 (ai b) (bY (ai b) (h:=ah ?_))
   have x_:=ik m ((ai b));exact bH [0,1,2,3,4,5]
  refine aZ (al b) ar (h:=aZ (al b) ar (h:=aZ (al b) (dU rfl rfl) (h:=ca (al b) (h:=ah ?_))))
  have x_:=ij m ((al b));exact bH [0,1,2,3,4,5]
 refine S' ar ?_
 obtain⟨F,j,H⟩:=bi H
 refine cI 9 (St [(1,ae a1),(2,ae a2),(3,aI c),(22,.bool F)] (aL bg 34 (am p0 af ag ay az au av aw ax)::(bn p0 af ag ay az au av aw ax++[aL c 84 [aI bg]]))) ?_ ?_
 ·by_cases a : I = true
  ·refine ct 8 a (bY a (h:=ah ?_))
   have x_:=ik j a;exact bH [0,1,2,3,4,5]
  refine aZ (aK a) ar (h:=aZ (aK a) aA (h:=cn (aK a) (aO 5) (h:=aZ (aK a) cL (h:=aZ (aK a) aA (h:=aZ (aK a) aA (h:=cn (aK a) (aO 0) (h:=aZ (aK a) (dU rfl rfl) (h:=ca (aK a) (h:=ah ?_)))))))))
  have x_:=ij j ((aK a));exact bH [0,1,2,3,4,5]
 rintro e ds As l
 refine bA (SA.of_St l fun junk=>?_)
 rcases bD H with⟨d,H⟩|⟨d,H⟩
 ·refine aD rfl d (eM (aF ?_))
  have h:=aN H;subst h
  exact kO (cQ bg p0 af ag ay az au av aw ax) rfl (fk [0,1,2,3,4]) ⟨af,ag,ay,az,au,av,aw,ax,rfl,rfl⟩
 refine aE rfl d (ao (aa (ap ?_)))
 refine fg [0,1,2,3,4,5,6,7,9,10] [5] (dC 0 5) fun _ _ _ _ _ sH dd pk=>?_
 refine bf 0 rfl sH aA (h:=bN 1 rfl sH (aO 0) (h:=bf 2 rfl sH aA (h:=bN 3 rfl sH (aO 0) (h:=bf 4 rfl sH ar (h:=bf 5 rfl sH ar (h:=bf 6 rfl sH cL (h:=bf 7 rfl sH aA (h:=dT 8 rfl dd (cJ 0 [ae a1] (h:=(T' 9 rfl sH cL ?_)))))))))))
 refine bf 10 rfl sH aA (h:=dT 11 rfl dd (cJ 0 [ae a2] (h:=(aV dd sH (aH (by kernel_rfl) (aa (bQ 2 fun J=>bQ 3 fun K=>bQ 4 fun L=>bQ 5 fun M=>ak ?_)))))))
 refine l' (cx c 0 0 [aI bg]) ?_
 obtain⟨N,u,H⟩:=ac H
 refine o' (ef [1,2,3,4,5] [0] (fC.ok (bg:=bg) u) fun o y p z q D s E=>?_)
 refine ah ?_
 have h:=aN H;subst h
 exact fH [0,1,2,3,4] ⟨o,y,p,z,q,D,s,E,rfl,rfl⟩


def ko.f (p0 : aJ) (p1 : Int) (p2 : Int) : Option (aJ):=(iR.f p0 p1 p2).bind (fun a=>some (a))
theorem ko.ok {p0 : aJ} {p1 : Int} {p2 : Int} {r : aJ} (H : ko.f p0 p1 p2 = some r) : dp Tryz.prog 88 #[.agg #[.pointer (some ⟨bg,0,none⟩)],.pointer (some ⟨ig,0,none⟩),.pointer (some ⟨ox,0,none⟩)] (aL bg 34 (am p0 af ag ay az au av aw ax)::(bn p0 af ag ay az au av aw ax++[aL ig 3 [ae p1],aL ox 3 [ae p2]])) (fun v B=>∃ P0_0_ q0_0_ P0_1_ q0_1_ P0_2_ q0_2_ P0_3_ q0_3_,v = .tuple #[]∧B = (aL bg 34 (am r P0_0_ q0_0_ P0_1_ q0_1_ P0_2_ q0_2_ P0_3_ q0_3_)::(bn r P0_0_ q0_0_ P0_1_ q0_1_ P0_2_ q0_2_ P0_3_ q0_3_++[aL ig 3 [ae p1],aL ox 3 [ae p2]]))):=by
 refine aj Tryz.func88 rfl rfl ?_
 unfold ko.f at H
 refine aP (o' (bO (h:=fun q=>bA (bQ 1 fun s=>bQ 2 fun u=>bQ 3 fun y=>bQ 4 fun z=>ak (bq (cx q 0 7 [aI bg]) (h:=l' (aO 5) ?_))))))
 refine l' (aO 6) ?_
 obtain⟨D,j,H⟩:=ac H
 refine o' (ef [0,1,2,3,4] [5,6,7] (iR.ok (bg:=bg) j) fun a l b m c o d p=>?_)
 refine ah ?_
 have h:=aN H;subst h
 exact fH [0,1,2,3,4,5,6] ⟨a,l,b,m,c,o,d,p,rfl,rfl⟩


def gW.f (k : Nat) (a0 : aJ) (p2000 : Int) (p2001 : Int) : Option (aJ × Int):=(eu.f k a0).bind (fun a=>if (!a) = true then (some (((aJ.mk (bJ.mk 0 0 ([] : (List ba))) 0 0 false (cN.mk 0 0 false false false false false false false false) 0 0 ([] : (List Int)) false false false false false false (dH.mk 0 0 false false (cN.mk 0 0 false false false false false false false false)) false (bJ.mk 0 0 ([] : (List ba))) ([] : (List Int))),2))) else ((ly.f a0).bind (fun b=>(ko.f b p2000 p2001).bind (fun ou=>some ((ou,0))))))
theorem gW.ok {a0 : aJ} {p2000 : Int} {p2001 : Int} {r : aJ × Int} (H : gW.f k a0 p2000 p2001 = some r) : dp Tryz.prog 62 #[.agg (am a0 af ag ay az au av aw ax).toArray,.func (.func 88) #[] #[.pointer (some ⟨bS,0,none⟩),.pointer (some ⟨dN,0,none⟩)]] (co a0 af ag ay az au av aw ax++[aL bS 3 [ae p2000],aL dN 3 [ae p2001]]) (fun v B=>∃ aQ aR bv bx bo bp bw bz,v = .tuple #[.agg (am r.1 aQ aR bv bx bo bp bw bz).toArray,ae r.2]∧B = (bn r.1 aQ aR bv bx bo bp bw bz++[aL bS 3 [ae p2000],aL dN 3 [ae p2001]])):=by
 refine aj Tryz.func62 rfl rfl ?_
 unfold gW.f at H
 refine aP (o' (bO (h:=fun b=>o' (cC (h:=fun I=>ad aW (h:=eA (l' (cm 6) ?_)))))))
 obtain⟨O,F,H⟩:=ac H
 refine o' (da [0,1,2,3] [0,1,2,3,4,5,6,7] (qR.ok F) ?_)
 refine ad (bU rfl) (h:=bA ?_)
 rcases bD H with⟨a,H⟩|⟨a,H⟩
 ·refine aD rfl a (aP (bT (.agg (am cB none 0 none 0 none 0 none 0).toArray) dS (h:=o' (bj I 0 7 (am cB none 0 none 0 none 0 none 0) (h:=ad aW (h:=cA ?_))))))
  have h:=aN H;subst h
  exact lX [.cell 4 34,.tmp 5] ((Gh.nilBuf bI 55).trans ((Gh.nilBuf (Kd.int .i64) 3).trans ((Gh.nilBuf bI 55).trans ((Gh.nilBuf (Kd.int .i32) 21).trans (fk [8,9,10,11,4,5]))))) ⟨none,0,none,0,none,0,none,0,rfl,rfl⟩ ⟨cW 7,cX,trivial⟩
 refine aE rfl a (ao (aa (aP (l' (cm 6) ?_))))
 obtain⟨N,E,H⟩:=ac H
 refine o' (ef [0,1,2,3] [0,1,2,3,4,5,6,7] (ly.ok E) fun s J u K y L z M=>?_)
 refine o' (bj b 0 10 (am N s J u K y L z M) (h:=cR (ad ar (h:=s' (.agg #[aI b]) dS ?_))))
 obtain⟨ou,D,H⟩:=ac H
 refine o' (re [10,0,1,2,3,8,9] [4,5,6,7,11] (jj (vs:=[.agg #[aI b]]) (cap:=[aI bS,aI dN]) rfl Tryz.func88 Bn rfl rfl) (ko.ok (bg:=b) (ig:=bS) (ox:=dN) D) ?_)
 rintro _ _⟨c,m,d,o,j,p,l,q,rfl,rfl⟩
 refine cR (bq (cm 0) (h:=o' (bj I 0 11 (am ou c m d o j p l q) (h:=ad aW (h:=cD ?_)))))
 have h:=aN H;subst h
 exact dE [.cell 4 34,.tmp 5] [1,2,3,4,5,6] ⟨c,m,d,o,j,p,l,q,rfl,rfl⟩ ⟨cW 11,cX,trivial⟩


def wC.f (k : Nat) (a0 : aJ) (a1 : Int) (a2 : Int) : Option (aJ × Int):=(gW.f k a0 a1 a2).bind (fun a=>some ((a.1,a.2)))
theorem wC.ok {a0 : aJ} {a1 : Int} {a2 : Int} {r : aJ × Int} (H : wC.f k a0 a1 a2 = some r) : dp Tryz.prog 35 #[.agg (am a0 af ag ay az au av aw ax).toArray,ae a1,ae a2] (co a0 af ag ay az au av aw ax) (fun v B=>∃ aQ aR bv bx bo bp bw bz,v = .tuple #[.agg (am r.1 aQ aR bv bx bo bp bw bz).toArray,ae r.2]∧B = (bn r.1 aQ aR bv bx bo bp bw bz)):=by
 refine aj Tryz.func35 rfl rfl ?_
 unfold wC.f at H
 refine aP (o' (bO (h:=fun z=>o' (bO (h:=fun p=>o' (bO (h:=fun q=>o' (cC (h:=fun u=>ad aW (h:=cR (bq (cm 4) (h:=s' (.func (.func 88) #[] #[aI p,aI q]) (dP (us:=[aI p,aI q]) rfl) ?_))))))))))))
 obtain⟨y,s,H⟩:=ac H
 refine o' (ef [0,1,2,3,5,6] [0,1,2,3,4,7] (gW.ok (bS:=p) (dN:=q) s) fun a j b l c m d o=>?_)
 refine ad cw (h:=ad cw (h:=o' (bj u 0 11 (am y.1 a j b l c m d o) (h:=ad aW (h:=cD ?_)))))
 have h:=aN H;subst h
 exact dE [.cell 6 34,.tmp 7] [0,1,2,3] ⟨a,j,b,l,c,m,d,o,rfl,rfl⟩ ⟨cW 11,cX,trivial⟩


def fN.f (p0 : aJ) (a1 : Bool) : Option (aJ):=if a1 = true then (some (({ p0 with f1:=p0.f14.f0,f2:=p0.f14.f1,f3:=p0.f14.f2,f4:=p0.f14.f4,f9:=p0.f14.f3 }))) else (some (({ p0 with f14:=(dH.mk p0.f1 p0.f2 p0.f3 p0.f9 p0.f4) })))
theorem fN.ok {p0 : aJ} {a1 : Bool} {r : aJ} (H : fN.f p0 a1 = some r) : dp Tryz.prog 64 #[.agg #[.pointer (some ⟨bg,0,none⟩)],.bool a1] (cQ bg p0 af ag ay az au av aw ax) (fun v B=>∃ P0_0_ q0_0_ P0_1_ q0_1_ P0_2_ q0_2_ P0_3_ q0_3_,v = .tuple #[]∧B = (cQ bg r P0_0_ q0_0_ P0_1_ q0_1_ P0_2_ q0_2_ P0_3_ q0_3_)):=by
 refine aj Tryz.func64 rfl rfl ?_
 unfold fN.f at H
 refine aP (o' (bO (h:=fun c=>eA (ad ar (h:=bA ?_)))))
 rcases bD H with⟨a,H⟩|⟨a,H⟩
 ·refine aD rfl a (aP (ad aA (h:=bq (aO 5) (h:=ad cL (h:=ad aA (h:=bq (cx bg 25 0 (gM p0.f14)) (h:=o' (cC (h:=fun b=>o' (bj b 0 6 (gM p0.f14) (h:=bA (ap ?_))))))))))))
  refine fg (0::1::2::3::4::5::6::7::8::9::10::11::12::13::14::15::16::17::18::19::20::21::23::24::26::27::29::30::32::33::[]) [5,6] (dC 0 5) fun _ _ _ _ _ sH dd pk=>?_
  refine bf 0 rfl sH aA (h:=bN 1 rfl sH (aO 0) (h:=bf 2 rfl sH aA (h:=bN 3 rfl sH (aO 0) (h:=bf 4 rfl sH aA (h:=bN 5 rfl sH (aO 0) (h:=bf 6 rfl sH aA (h:=bN 7 rfl sH (aO 0) (h:=bf 8 rfl sH aA (h:=r' 9 rfl sH (aO 0) ?_)))))))))
  refine bf 10 rfl sH aA (h:=bN 11 rfl sH (aO 1) (h:=bf 12 rfl sH aA (h:=bN 13 rfl sH (aO 1) (h:=bf 14 rfl sH aA (h:=bN 15 rfl sH (aO 1) (h:=bf 16 rfl sH aA (h:=bN 17 rfl sH (aO 1) (h:=bf 18 rfl sH aA (h:=r' 19 rfl sH (cx b 4 1 (bF p0.f14.f4)) ?_)))))))))
  refine bf 20 rfl sH cL (h:=bf 21 rfl sH aA (h:=dT 22 rfl dd (cJ 0 [ae p0.f14.f0] (h:=(bf 23 rfl sH cL (h:=bf 24 rfl sH aA (h:=dT 25 rfl dd (cJ 0 [ae p0.f14.f1] (h:=(bf 26 rfl sH cL (h:=bf 27 rfl sH aA (h:=dT 28 rfl dd (cJ 0 [.bool p0.f14.f2] (h:=(T' 29 rfl sH cL ?_)))))))))))))))
  refine bf 30 rfl sH aA (h:=dT 31 rfl dd (cJ 0 [.bool p0.f14.f3] (h:=(bf 32 rfl sH cL (h:=bf 33 rfl sH aA (h:=dT 34 rfl dd (cJ 0 (bF p0.f14.f4) (h:=(aV dd sH (aH (by kernel_rfl) (aa (eM (aF ?_)))))))))))))
  have h:=aN H;subst h
  exact kO (aL bg 34 (am ({ p0 with f1:=p0.f14.f0,f2:=p0.f14.f1,f3:=p0.f14.f2,f4:=p0.f14.f4,f9:=p0.f14.f3 }) af ag ay az au av aw ax)::bn p0 af ag ay az au av aw ax) rfl (fk [2,3,4,5,6]) ⟨af,ag,ay,az,au,av,aw,ax,rfl,rfl⟩
 refine aE rfl a (ao (aa ?_))
 refine fg (dC 0 30) [0,5] (dC 1 4) fun _ _ _ _ _ sH dd pk=>?_
 refine bf 0 rfl sH aA (h:=bN 1 rfl sH (aO 1) (h:=bf 2 rfl sH aA (h:=bN 3 rfl sH (aO 1) (h:=bf 4 rfl sH cL (h:=bf 5 rfl sH aA (h:=bN 6 rfl sH (aO 0) (h:=bf 7 rfl sH aA (h:=bN 8 rfl sH (aO 1) (h:=T' 9 rfl sH cL ?_)))))))))
 refine bf 10 rfl sH aA (h:=bN 11 rfl sH (aO 0) (h:=bf 12 rfl sH aA (h:=bN 13 rfl sH (aO 1) (h:=bf 14 rfl sH cL (h:=bf 15 rfl sH aA (h:=bN 16 rfl sH (aO 0) (h:=bf 17 rfl sH aA (h:=bN 18 rfl sH (aO 1) (h:=T' 19 rfl sH cL ?_)))))))))
 refine bf 20 rfl sH aA (h:=bN 21 rfl sH (aO 0) (h:=bf 22 rfl sH aA (h:=bN 23 rfl sH (aO 1) (h:=bf 24 rfl sH cL (h:=bf 25 rfl sH aA (h:=bN 26 rfl sH (cx bg 6 0 (bF p0.f4)) (h:=kQ (.agg (gM (dH.mk p0.f1 p0.f2 p0.f3 p0.f9 p0.f4)).toArray) 27 rfl sH dS (h:=bf 28 rfl sH cL (h:=T' 29 rfl sH aA ?_)))))))))
 refine aV dd sH (eG 30 rfl (cJ 0 (gM (dH.mk p0.f1 p0.f2 p0.f3 p0.f9 p0.f4)) (h:=(aH (by kernel_rfl) ?_))))
 have h:=aN H;subst h
 exact fH [0,2,3,4,5] ⟨af,ag,ay,az,au,av,aw,ax,rfl,rfl⟩


def jZ.f (p0 : aJ) (p1 : Bool) : Option (aJ):=(fN.f p0 p1).bind (fun a=>some (a))
theorem jZ.ok {p0 : aJ} {p1 : Bool} {r : aJ} (H : jZ.f p0 p1 = some r) : dp Tryz.prog 63 #[.agg #[.pointer (some ⟨bg,0,none⟩)],.pointer (some ⟨ig,0,none⟩)] (aL bg 34 (am p0 af ag ay az au av aw ax)::(bn p0 af ag ay az au av aw ax++[aL ig 4 [.bool p1]])) (fun v B=>∃ P0_0_ q0_0_ P0_1_ q0_1_ P0_2_ q0_2_ P0_3_ q0_3_,v = .tuple #[]∧B = (aL bg 34 (am r P0_0_ q0_0_ P0_1_ q0_1_ P0_2_ q0_2_ P0_3_ q0_3_)::(bn r P0_0_ q0_0_ P0_1_ q0_1_ P0_2_ q0_2_ P0_3_ q0_3_++[aL ig 4 [.bool p1]]))):=by
 refine aj Tryz.func63 rfl rfl ?_
 unfold jZ.f at H
 refine aP (o' (bO (h:=fun q=>bA (bQ 1 fun z=>bQ 2 fun s=>bQ 3 fun u=>bQ 4 fun y=>ak (bq (cx q 0 6 [aI bg]) (h:=l' (aO 5) ?_))))))
 obtain⟨D,j,H⟩:=ac H
 refine o' (ef [0,1,2,3,4] [5,6] (fN.ok (bg:=bg) j) fun a l b m c o d p=>?_)
 refine ah ?_
 have h:=aN H;subst h
 exact fH [0,1,2,3,4,5] ⟨a,l,b,m,c,o,d,p,rfl,rfl⟩

end Go.Proofs.YtckilbegmbaeeaaGreat.Z7

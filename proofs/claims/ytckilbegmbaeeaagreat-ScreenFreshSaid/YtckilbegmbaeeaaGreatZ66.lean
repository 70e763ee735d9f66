/- Walks. -/
import Derived.Test.YtckilbegmbaeeaaGreatZ65
namespace Go.Proofs.YtckilbegmbaeeaaGreat.Z6
open Go Go.RowKit Go.Proofs.YtckilbegmbaeeaaGreat.SL
open Go.IntKind (i64)
set_option linter.unusedVariables false
set_option maxHeartbeats 20000000
set_option maxRecDepth 100000
set_option linter.unusedSimpArgs false
attribute [local irreducible] IntKind.wrap da fk gR kN kD po ky eS kF rd sub bytesOf ib dj
variable {bg hM bN dA om ag az av ax k : Nat}
variable {af ay au aw : Option Addr}
def iN.f (k : Nat) (p0 : aJ) (a1 : Int) : Option (aJ):=(if p0.f1 < p0.f5 then (some true) else (some (decide (p0.f1 > p0.f6))) : Option (Bool)).bind (fun c=>if c = true then (some (p0)) else ((lX.f a1).bind (fun a=>(de.f k p0 p0.f1 p0.f6 (i64.wrap (0 - a)) p0.f4).bind (fun b=>some (({ b with f2:=0,f3:=false }))))))
theorem iN.ok {p0 : aJ} {a1 : Int} {r : aJ} (H : iN.f k p0 a1 = some r) : dk Tryz.prog 83 #[.agg #[.pointer (some ⟨bg,0,none⟩)],ae a1] (cN bg p0 af ag ay az au av aw ax) (fun v B=>∃ P0_0_ q0_0_ P0_1_ q0_1_ P0_2_ q0_2_ P0_3_ q0_3_,v = .tuple #[]∧B = (cN bg r P0_0_ q0_0_ P0_1_ q0_1_ P0_2_ q0_2_ P0_3_ q0_3_)):=by
 refine aj Tryz.func83 rfl rfl ?_
 unfold iN.f at H
 refine aR (o' (bO (h:=fun E=>bA (ao (ao ?_)))))
 obtain⟨M,H,D⟩:=ac H
 refine bI (St [(1,ae a1),(2,aH E),(27,.bool M)] (aK bg 34 (al p0 af ag ay az au av aw ax)::(bn p0 af ag ay az au av aw ax++[aK E 84 [aH bg]]))) ?_ ?_
 ·refine fj (dt 0 24) [0,5] (dt 1 4) fun _ _ _ _ _ sH dd pk=>?_
  refine bc 0 rfl sH aA (h:=bQ 1 rfl sH (aP 1) (h:=bc 2 rfl sH cI (h:=bc 3 rfl sH aA (h:=bQ 4 rfl sH (aP 0) (h:=bc 5 rfl sH aA (h:=bQ 6 rfl sH (aP 1) (h:=bc 7 rfl sH cI (h:=bc 8 rfl sH aA (h:=r' 9 rfl sH (aP 0) ?_)))))))))
  refine bc 10 rfl sH (ce rfl rfl) (h:=T' 11 rfl sH ar ?_)
  rcases bE H with⟨a,H⟩|⟨a,H⟩
  ·refine bT 12 rfl (ai a) (bT 13 rfl (ai a) (bT 14 rfl (ai a) (bT 15 rfl (ai a) (bT 16 rfl (ai a) (bT 17 rfl (ai a) (bT 18 rfl (ai a) (bT 19 rfl (ai a) (bT 20 rfl (ai a) (bT 21 rfl (ai a) ?_)))))))))
   refine bT 22 rfl (ai a) (bQ 23 rfl sH (VR.ofV (bS rfl (ai a) rfl)) (h:=aV dd sH (aI (by kernel_rfl) ?_)))
   have h:=aN H;subst h
   exact bK [0,2,3,4,5,1]
  refine cY 12 rfl (am a) sH aA (h:=cJ 13 rfl (am a) sH (aP 1) (h:=cY 14 rfl (am a) sH cI (h:=cY 15 rfl (am a) sH aA (h:=cJ 16 rfl (am a) sH (aP 0) (h:=cY 17 rfl (am a) sH aA (h:=cJ 18 rfl (am a) sH (aP 1) (h:=cY 19 rfl (am a) sH cI (h:=cY 20 rfl (am a) sH aA (h:=zG 21 rfl (am a) sH (aP 0) ?_)))))))))
  refine cY 22 rfl (am a) sH (eK rfl rfl) (h:=bQ 23 rfl sH (VR.ofV (bR rfl (am a) rfl)) (h:=aV dd sH (aI (by kernel_rfl) ?_)))
  have h:=aN H;subst h
  exact bK [0,2,3,4,5,1]
 rintro e ds As c
 clear H
 have H:=D
 clear D
 refine aa (SA.of_St c fun junk=>?_)
 rcases bE H with⟨b,H⟩|⟨b,H⟩
 ·refine aD rfl b (fm (aG ?_))
  have h:=aN H;subst h
  exact kR (cN bg p0 af ag ay az au av aw ax) rfl (eZ [0,1,2,3,4]) ⟨af,ag,ay,az,au,av,aw,ax,rfl,rfl⟩
 refine aE rfl b (ap (aa (ao (bM 1 fun F=>bM 2 fun I=>bM 3 fun J=>bM 4 fun K=>?_))))
 refine fj (0::1::2::3::4::5::6::7::8::9::10::11::12::13::14::16::17::18::19::20::21::[]) [0,5] (dt 1 4) fun _ _ _ _ _ sH dd pk=>?_
 refine bc 0 rfl sH aA (h:=bQ 1 rfl sH (aP 1) (h:=bc 2 rfl sH cI (h:=bc 3 rfl sH aA (h:=bc 4 rfl sH aA (h:=bQ 5 rfl sH (aP 1) (h:=bc 6 rfl sH cI (h:=bc 7 rfl sH aA (h:=bQ 8 rfl sH (aP 0) (h:=T' 9 rfl sH aA ?_)))))))))
 refine bQ 10 rfl sH (aP 1) (h:=bc 11 rfl sH cI (h:=bc 12 rfl sH aA (h:=bQ 13 rfl sH (aP 0) (h:=bc 14 rfl sH ar (h:=bc 17 rfl sH aA (h:=bQ 18 rfl sH (aP 1) (h:=bc 19 rfl sH cI (h:=bc 20 rfl sH aA (h:=r' 21 rfl sH (cz bg 6 0 (bF p0.f4)) ?_)))))))))
 obtain⟨z,o,H⟩:=ac H
 refine dU 15 rfl dd (dc [] [0,1,2,3] (lX.ok o) ?_)
 refine kV (ae (i64.wrap (0 - z))) 16 rfl sH (mr rfl) (h:=aV dd sH ?_)
 obtain⟨L,p,H⟩:=ac H
 refine eC 22 rfl (ed [0,2,3,4,5] [1] (de.ok (bg:=bg) p) fun d q j s l u m y=>?_)
 refine aI (by kernel_rfl) (aa ?_)
 refine fj [0,1,2,3,4,5,7,8] [5] (dt 0 5) fun _ _ _ _ _ sH dd pk=>?_
 refine bc 0 rfl sH aA (h:=bQ 1 rfl sH (aP 0) (h:=bc 2 rfl sH aA (h:=bQ 3 rfl sH (aP 0) (h:=bc 4 rfl sH cI (h:=bc 5 rfl sH aA (h:=dU 6 rfl dd (cF 0 [ae 0] (h:=(bc 7 rfl sH cI (h:=bc 8 rfl sH aA (h:=dU 9 rfl dd (cF 0 [.bool false] (h:=?_)))))))))))))
 refine aV dd sH (aI (by kernel_rfl) ?_)
 have h:=aN H;subst h
 exact fG [1,2,3,4,5] ⟨d,q,j,s,l,u,m,y,rfl,rfl⟩


def ke.f (k : Nat) (p0 : aJ) (p1 : Int) : Option (aJ):=(iN.f k p0 p1).bind (fun a=>some (a))
theorem ke.ok {p0 : aJ} {p1 : Int} {r : aJ} (H : ke.f k p0 p1 = some r) : dk Tryz.prog 82 #[.agg #[.pointer (some ⟨bg,0,none⟩)],.pointer (some ⟨hM,0,none⟩)] (aK bg 34 (al p0 af ag ay az au av aw ax)::(bn p0 af ag ay az au av aw ax++[aK hM 3 [ae p1]])) (fun v B=>∃ P0_0_ q0_0_ P0_1_ q0_1_ P0_2_ q0_2_ P0_3_ q0_3_,v = .tuple #[]∧B = (aK bg 34 (al r P0_0_ q0_0_ P0_1_ q0_1_ P0_2_ q0_2_ P0_3_ q0_3_)::(bn r P0_0_ q0_0_ P0_1_ q0_1_ P0_2_ q0_2_ P0_3_ q0_3_++[aK hM 3 [ae p1]]))):=by
 refine aj Tryz.func82 rfl rfl ?_
 unfold ke.f at H
 refine aR (o' (bO (h:=fun q=>bA (bM 1 fun z=>bM 2 fun s=>bM 3 fun u=>bM 4 fun y=>ak (bp (cz q 0 6 [aH bg]) (h:=l' (aP 5) ?_))))))
 obtain⟨D,j,H⟩:=ac H
 refine o' (ed [0,1,2,3,4] [5,6] (iN.ok (bg:=bg) j) fun a l b m c o d p=>?_)
 refine ah ?_
 have h:=aN H;subst h
 exact fG [0,1,2,3,4,5] ⟨a,l,b,m,c,o,d,p,rfl,rfl⟩


def iw.f (k : Nat) (a0 : aJ) (p2000 : Int) : Option (aJ × Int):=(eF.f k a0).bind (fun a=>if (!a) = true then (some (((aJ.mk (bH.mk 0 0 ([] : (List aY))) 0 0 false (cM.mk 0 0 false false false false false false false false) 0 0 ([] : (List Int)) false false false false false false (dz.mk 0 0 false false (cM.mk 0 0 false false false false false false false false)) false (bH.mk 0 0 ([] : (List aY))) ([] : (List Int))),2))) else ((lE.f a0).bind (fun b=>(ke.f k b p2000).bind (fun c=>some ((c,0))))))
theorem iw.ok {a0 : aJ} {p2000 : Int} {r : aJ × Int} (H : iw.f k a0 p2000 = some r) : dk Tryz.prog 62 #[.agg (al a0 af ag ay az au av aw ax).toArray,.func (.func 82) #[] #[.pointer (some ⟨bN,0,none⟩)]] (cH a0 af ag ay az au av aw ax++[aK bN 3 [ae p2000]]) (fun v B=>∃ aS aT bv bx bq br bw bz,v = .tuple #[.agg (al r.1 aS aT bv bx bq br bw bz).toArray,ae r.2]∧B = (bn r.1 aS aT bv bx bq br bw bz++[aK bN 3 [ae p2000]])):=by
 refine aj Tryz.func62 rfl rfl ?_
 unfold iw.f at H
 refine aR (o' (bO (h:=fun b=>o' (cw (h:=fun I=>ad aW (h:=eD (l' (cm 5) ?_)))))))
 obtain⟨R,F,H⟩:=ac H
 refine o' (dc [0,1,2,3] [0,1,2,3,4,5,6] (rJ.ok F) ?_)
 refine ad (bX rfl) (h:=bA ?_)
 rcases bE H with⟨a,H⟩|⟨a,H⟩
 ·refine aD rfl a (aR (bP (.agg (al cy none 0 none 0 none 0 none 0).toArray) dP (h:=o' (bi I 0 6 (al cy none 0 none 0 none 0 none 0) (h:=ad aW (h:=cD ?_))))))
  have h:=aN H;subst h
  exact ma [.cell 4 34,.tmp 5] ((Gh.nilBuf bD 55).trans ((Gh.nilBuf (Kd.int .i64) 3).trans ((Gh.nilBuf bD 55).trans ((Gh.nilBuf (Kd.int .i32) 21).trans (eZ [7,8,9,10,4]))))) ⟨none,0,none,0,none,0,none,0,rfl,rfl⟩ ⟨cV 6,cW,trivial⟩
 refine aE rfl a (ap (aa (aR (l' (cm 5) ?_))))
 obtain⟨N,E,H⟩:=ac H
 refine o' (ed [0,1,2,3] [0,1,2,3,4,5,6] (lE.ok E) fun s J u K y L z M=>?_)
 refine o' (bi b 0 9 (al N s J u K y L z M) (h:=cP (ad ar (h:=s' (.agg #[aH b]) dP ?_))))
 obtain⟨O,D,H⟩:=ac H
 refine o' (ra [9,0,1,2,3,8] [4,5,6,7,10] (jg (vs:=[.agg #[aH b]]) (cap:=[aH bN]) rfl Tryz.func82 AV rfl rfl) (ke.ok (bg:=b) (hM:=bN) D) ?_)
 rintro _ _⟨c,m,d,o,j,p,l,q,rfl,rfl⟩
 refine cP (bp (cm 0) (h:=o' (bi I 0 10 (al O c m d o j p l q) (h:=ad aW (h:=cC ?_)))))
 have h:=aN H;subst h
 exact du [.cell 4 34,.tmp 5] [1,2,3,4,5] ⟨c,m,d,o,j,p,l,q,rfl,rfl⟩ ⟨cV 10,cW,trivial⟩


def wj.f (k : Nat) (a0 : aJ) (a1 : Int) : Option (aJ × Int):=(iw.f k a0 a1).bind (fun a=>some ((a.1,a.2)))
theorem wj.ok {a0 : aJ} {a1 : Int} {r : aJ × Int} (H : wj.f k a0 a1 = some r) : dk Tryz.prog 32 #[.agg (al a0 af ag ay az au av aw ax).toArray,ae a1] (cH a0 af ag ay az au av aw ax) (fun v B=>∃ aS aT bv bx bq br bw bz,v = .tuple #[.agg (al r.1 aS aT bv bx bq br bw bz).toArray,ae r.2]∧B = (bn r.1 aS aT bv bx bq br bw bz)):=by
 refine aj Tryz.func32 rfl rfl ?_
 unfold wj.f at H
 refine aR (o' (bO (h:=fun y=>o' (bO (h:=fun p=>o' (cw (h:=fun u=>ad aW (h:=cP (bp (cm 4) (h:=s' (.func (.func 82) #[] #[aH p]) (dJ (us:=[aH p]) rfl) ?_))))))))))
 obtain⟨s,q,H⟩:=ac H
 refine o' (ed [0,1,2,3,5] [0,1,2,3,4,6] (iw.ok (bN:=p) q) fun a j b l c m d o=>?_)
 refine ad cr (h:=ad cr (h:=o' (bi u 0 10 (al s.1 a j b l c m d o) (h:=ad aW (h:=cC ?_)))))
 have h:=aN H;subst h
 exact du [.cell 4 34,.tmp 5] [0,1,2,3] ⟨a,j,b,l,c,m,d,o,rfl,rfl⟩ ⟨cV 10,cW,trivial⟩


def iO.f (k : Nat) (p0 : aJ) (a1 : Int) : Option (aJ):=(ef.f p0).bind (fun a=>if (0 ≤ a.1∧0 ≤ a.2∧a.1 + a.2 ≤ (p0.f0.f2.length : Int)) then ((ja.f k p0.f0.f2 a.1 a.2 p0.f2 a1 p0.f4).bind (fun b=>if b.length = p0.f0.f2.length then (some (({ p0 with f0:=(bH.mk p0.f0.f0 p0.f0.f1 b),f3:=false }))) else none)) else none)
theorem iO.ok {p0 : aJ} {a1 : Int} {r : aJ} (H : iO.f k p0 a1 = some r) : dk Tryz.prog 85 #[.agg #[.pointer (some ⟨bg,0,none⟩)],ae a1] (cN bg p0 af ag ay az au av aw ax) (fun v B=>∃ P0_0_ q0_0_ P0_1_ q0_1_ P0_2_ q0_2_ P0_3_ q0_3_,v = .tuple #[]∧B = (cN bg r P0_0_ q0_0_ P0_1_ q0_1_ P0_2_ q0_2_ P0_3_ q0_3_)):=by
 refine aj Tryz.func85 rfl rfl ?_
 unfold iO.f at H
 refine aR (o' (bO (h:=fun a=>bA (ao (bM 1 fun u=>bM 2 fun y=>bM 3 fun p=>bM 4 fun q=>?_)))))
 refine fN [0,2,3,4,5,6,7,8,9,10,11,12] (List.toArray ([]::[0]::[]::[2]::[2,3]::[2,3,4]::(dt 2 4)::[]::[]::[8]::[8,9]::[8,9,10]::(dt 8 4)::[0,2,3,4,5,6,7,8,9,10,11,12]::[])) [aK bg 34 (al p0 af ag ay az au av aw ax),aK a 84 [aH bg]] jw (bU.thn bU.body) fun D z E pk=>?_
 refine gZ 0 [0,5] rfl (cz a 0 1 [aH bg]) (h:=eA (aH a) 2 [0,5] rfl (kv a 0 0) (h:=gZ 3 [0,5] rfl (ij a 0 1) (h:=eA (aH bg) 4 [0,5] rfl cI (h:=eA (sM bg 4) 5 [0,5] rfl (kv bg 0 4) (h:=gZ 6 [0,5] rfl (ij bg 4 0) (h:=eA (ae a1) 7 [0,5] rfl fO (h:=eA (aH a) 8 [0,5] rfl (kv a 0 0) (h:=gZ 9 [0,5] rfl (ij a 0 1) (h:=vS (aH bg) 10 [0,5] rfl cI ?_)))))))))
 refine eA (sM bg 6) 11 [0,5] rfl (kv bg 0 6) (h:=sI 12 [0,5] rfl (cz bg 6 0 (bF p0.f4)) ?_)
 obtain⟨c,l,H⟩:=ac H
 obtain⟨⟨hl76a,hl76b,hl76c⟩,H⟩:=aO H
 refine eX 1 (by kernel_rfl) rfl (.no rfl) (ms [0,1,2,3,4] [5] (ef.ok (bg:=bg) l) ?_)
 rintro _ _⟨m,o,j,rfl,rfl⟩
 refine ⟨fun _=>⟨[0,5],rfl,rfl⟩,?_⟩
 obtain⟨s,d,H⟩:=ac H
 obtain⟨b,H⟩:=aO H
 refine eX 13 (by kernel_rfl) rfl (.no rfl) (dc [1] [0,2,3,4,5] (ja.ok (o0:=c.1) (n0:=c.2) (A0:=af) (c0:=ag) (V0:=m) (v0:=o) (hw0:=j) d) ?_)
 try unfold cN
 try unfold fc
 try unfold al
 try rewrite [← b]
 refine ⟨fun h_=>absurd h_ (by decide),?_⟩
 refine aI (by kernel_rfl) (aa (ak (ad aA (h:=bp (aP 5) (h:=ad cI (h:=ad aA (h:=o' (cF 1 [.bool false] (h:=(ah ?_))))))))))
 have h:=aN H;subst h
 exact fG [1,0,2,3,4] ⟨af,ag,ay,az,au,av,aw,ax,rfl,rfl⟩


def kf.f (k : Nat) (p0 : aJ) (p1 : Int) : Option (aJ):=(iO.f k p0 p1).bind (fun a=>some (a))
theorem kf.ok {p0 : aJ} {p1 : Int} {r : aJ} (H : kf.f k p0 p1 = some r) : dk Tryz.prog 84 #[.agg #[.pointer (some ⟨bg,0,none⟩)],.pointer (some ⟨hM,0,none⟩)] (aK bg 34 (al p0 af ag ay az au av aw ax)::(bn p0 af ag ay az au av aw ax++[aK hM 3 [ae p1]])) (fun v B=>∃ P0_0_ q0_0_ P0_1_ q0_1_ P0_2_ q0_2_ P0_3_ q0_3_,v = .tuple #[]∧B = (aK bg 34 (al r P0_0_ q0_0_ P0_1_ q0_1_ P0_2_ q0_2_ P0_3_ q0_3_)::(bn r P0_0_ q0_0_ P0_1_ q0_1_ P0_2_ q0_2_ P0_3_ q0_3_++[aK hM 3 [ae p1]]))):=by
 refine aj Tryz.func84 rfl rfl ?_
 unfold kf.f at H
 refine aR (o' (bO (h:=fun q=>bA (bM 1 fun z=>bM 2 fun s=>bM 3 fun u=>bM 4 fun y=>ak (bp (cz q 0 6 [aH bg]) (h:=l' (aP 5) ?_))))))
 obtain⟨D,j,H⟩:=ac H
 refine o' (ed [0,1,2,3,4] [5,6] (iO.ok (bg:=bg) j) fun a l b m c o d p=>?_)
 refine ah ?_
 have h:=aN H;subst h
 exact fG [0,1,2,3,4,5] ⟨a,l,b,m,c,o,d,p,rfl,rfl⟩


def ix.f (k : Nat) (a0 : aJ) (p2000 : Int) : Option (aJ × Int):=(eF.f k a0).bind (fun a=>if (!a) = true then (some (((aJ.mk (bH.mk 0 0 ([] : (List aY))) 0 0 false (cM.mk 0 0 false false false false false false false false) 0 0 ([] : (List Int)) false false false false false false (dz.mk 0 0 false false (cM.mk 0 0 false false false false false false false false)) false (bH.mk 0 0 ([] : (List aY))) ([] : (List Int))),2))) else ((lE.f a0).bind (fun b=>(kf.f k b p2000).bind (fun c=>some ((c,0))))))
theorem ix.ok {a0 : aJ} {p2000 : Int} {r : aJ × Int} (H : ix.f k a0 p2000 = some r) : dk Tryz.prog 62 #[.agg (al a0 af ag ay az au av aw ax).toArray,.func (.func 84) #[] #[.pointer (some ⟨bN,0,none⟩)]] (cH a0 af ag ay az au av aw ax++[aK bN 3 [ae p2000]]) (fun v B=>∃ aS aT bv bx bq br bw bz,v = .tuple #[.agg (al r.1 aS aT bv bx bq br bw bz).toArray,ae r.2]∧B = (bn r.1 aS aT bv bx bq br bw bz++[aK bN 3 [ae p2000]])):=by
 refine aj Tryz.func62 rfl rfl ?_
 unfold ix.f at H
 refine aR (o' (bO (h:=fun b=>o' (cw (h:=fun I=>ad aW (h:=eD (l' (cm 5) ?_)))))))
 obtain⟨R,F,H⟩:=ac H
 refine o' (dc [0,1,2,3] [0,1,2,3,4,5,6] (rJ.ok F) ?_)
 refine ad (bX rfl) (h:=bA ?_)
 rcases bE H with⟨a,H⟩|⟨a,H⟩
 ·refine aD rfl a (aR (bP (.agg (al cy none 0 none 0 none 0 none 0).toArray) dP (h:=o' (bi I 0 6 (al cy none 0 none 0 none 0 none 0) (h:=ad aW (h:=cD ?_))))))
  have h:=aN H;subst h
  exact ma [.cell 4 34,.tmp 5] ((Gh.nilBuf bD 55).trans ((Gh.nilBuf (Kd.int .i64) 3).trans ((Gh.nilBuf bD 55).trans ((Gh.nilBuf (Kd.int .i32) 21).trans (eZ [7,8,9,10,4]))))) ⟨none,0,none,0,none,0,none,0,rfl,rfl⟩ ⟨cV 6,cW,trivial⟩
 refine aE rfl a (ap (aa (aR (l' (cm 5) ?_))))
 obtain⟨N,E,H⟩:=ac H
 refine o' (ed [0,1,2,3] [0,1,2,3,4,5,6] (lE.ok E) fun s J u K y L z M=>?_)
 refine o' (bi b 0 9 (al N s J u K y L z M) (h:=cP (ad ar (h:=s' (.agg #[aH b]) dP ?_))))
 obtain⟨O,D,H⟩:=ac H
 refine o' (ra [9,0,1,2,3,8] [4,5,6,7,10] (jg (vs:=[.agg #[aH b]]) (cap:=[aH bN]) rfl Tryz.func84 AW rfl rfl) (kf.ok (bg:=b) (hM:=bN) D) ?_)
 rintro _ _⟨c,m,d,o,j,p,l,q,rfl,rfl⟩
 refine cP (bp (cm 0) (h:=o' (bi I 0 10 (al O c m d o j p l q) (h:=ad aW (h:=cC ?_)))))
 have h:=aN H;subst h
 exact du [.cell 4 34,.tmp 5] [1,2,3,4,5] ⟨c,m,d,o,j,p,l,q,rfl,rfl⟩ ⟨cV 10,cW,trivial⟩


def wk.f (k : Nat) (a0 : aJ) (a1 : Int) : Option (aJ × Int):=(ix.f k a0 a1).bind (fun a=>some ((a.1,a.2)))
theorem wk.ok {a0 : aJ} {a1 : Int} {r : aJ × Int} (H : wk.f k a0 a1 = some r) : dk Tryz.prog 33 #[.agg (al a0 af ag ay az au av aw ax).toArray,ae a1] (cH a0 af ag ay az au av aw ax) (fun v B=>∃ aS aT bv bx bq br bw bz,v = .tuple #[.agg (al r.1 aS aT bv bx bq br bw bz).toArray,ae r.2]∧B = (bn r.1 aS aT bv bx bq br bw bz)):=by
 refine aj Tryz.func33 rfl rfl ?_
 unfold wk.f at H
 refine aR (o' (bO (h:=fun y=>o' (bO (h:=fun p=>o' (cw (h:=fun u=>ad aW (h:=cP (bp (cm 4) (h:=s' (.func (.func 84) #[] #[aH p]) (dJ (us:=[aH p]) rfl) ?_))))))))))
 obtain⟨s,q,H⟩:=ac H
 refine o' (ed [0,1,2,3,5] [0,1,2,3,4,6] (ix.ok (bN:=p) q) fun a j b l c m d o=>?_)
 refine ad cr (h:=ad cr (h:=o' (bi u 0 10 (al s.1 a j b l c m d o) (h:=ad aW (h:=cC ?_)))))
 have h:=aN H;subst h
 exact du [.cell 4 34,.tmp 5] [0,1,2,3] ⟨a,j,b,l,c,m,d,o,rfl,rfl⟩ ⟨cV 10,cW,trivial⟩


def iP.f (k : Nat) (p0 : aJ) (a1 : Int) : Option (aJ):=(de.f k p0 p0.f5 p0.f6 a1 p0.f4).bind (fun a=>some (({ a with f3:=false })))
theorem iP.ok {p0 : aJ} {a1 : Int} {r : aJ} (H : iP.f k p0 a1 = some r) : dk Tryz.prog 87 #[.agg #[.pointer (some ⟨bg,0,none⟩)],ae a1] (cN bg p0 af ag ay az au av aw ax) (fun v B=>∃ P0_0_ q0_0_ P0_1_ q0_1_ P0_2_ q0_2_ P0_3_ q0_3_,v = .tuple #[]∧B = (cN bg r P0_0_ q0_0_ P0_1_ q0_1_ P0_2_ q0_2_ P0_3_ q0_3_)):=by
 refine aj Tryz.func87 rfl rfl ?_
 unfold iP.f at H
 refine aR (o' (bO (h:=fun D=>bA (ao (bM 1 fun y=>bM 2 fun z=>bM 3 fun s=>bM 4 fun u=>?_)))))
 refine fj (dt 0 20) [0,5] (dt 1 4) fun _ _ _ _ _ sH dd pk=>?_
 refine bc 0 rfl sH aA (h:=bQ 1 rfl sH (aP 1) (h:=bc 2 rfl sH cI (h:=bc 3 rfl sH aA (h:=bc 4 rfl sH aA (h:=bQ 5 rfl sH (aP 1) (h:=bc 6 rfl sH cI (h:=bc 7 rfl sH aA (h:=bQ 8 rfl sH (aP 0) (h:=T' 9 rfl sH aA ?_)))))))))
 refine bQ 10 rfl sH (aP 1) (h:=bc 11 rfl sH cI (h:=bc 12 rfl sH aA (h:=bQ 13 rfl sH (aP 0) (h:=bc 14 rfl sH ar (h:=bc 15 rfl sH aA (h:=bQ 16 rfl sH (aP 1) (h:=bc 17 rfl sH cI (h:=bc 18 rfl sH aA (h:=r' 19 rfl sH (cz bg 6 0 (bF p0.f4)) ?_)))))))))
 refine aV dd sH ?_
 obtain⟨q,j,H⟩:=ac H
 refine eC 20 rfl (ed [0,2,3,4,5] [1] (de.ok (bg:=bg) j) fun a l b m c o d p=>?_)
 refine aI (by kernel_rfl) (aa (ak (ad aA (h:=bp (aP 5) (h:=ad cI (h:=ad aA (h:=o' (cF 0 [.bool false] (h:=(ah ?_))))))))))
 have h:=aN H;subst h
 exact fG [0,1,2,3,4] ⟨a,l,b,m,c,o,d,p,rfl,rfl⟩


def kg.f (k : Nat) (p0 : aJ) (p1 : Int) : Option (aJ):=(iP.f k p0 p1).bind (fun a=>some (a))
theorem kg.ok {p0 : aJ} {p1 : Int} {r : aJ} (H : kg.f k p0 p1 = some r) : dk Tryz.prog 86 #[.agg #[.pointer (some ⟨bg,0,none⟩)],.pointer (some ⟨hM,0,none⟩)] (aK bg 34 (al p0 af ag ay az au av aw ax)::(bn p0 af ag ay az au av aw ax++[aK hM 3 [ae p1]])) (fun v B=>∃ P0_0_ q0_0_ P0_1_ q0_1_ P0_2_ q0_2_ P0_3_ q0_3_,v = .tuple #[]∧B = (aK bg 34 (al r P0_0_ q0_0_ P0_1_ q0_1_ P0_2_ q0_2_ P0_3_ q0_3_)::(bn r P0_0_ q0_0_ P0_1_ q0_1_ P0_2_ q0_2_ P0_3_ q0_3_++[aK hM 3 [ae p1]]))):=by
 refine aj Tryz.func86 rfl rfl ?_
 unfold kg.f at H
 refine aR (o' (bO (h:=fun q=>bA (bM 1 fun z=>bM 2 fun s=>bM 3 fun u=>bM 4 fun y=>ak (bp (cz q 0 6 [aH bg]) (h:=l' (aP 5) ?_))))))
 obtain⟨D,j,H⟩:=ac H
 refine o' (ed [0,1,2,3,4] [5,6] (iP.ok (bg:=bg) j) fun a l b m c o d p=>?_)
 refine ah ?_
 have h:=aN H;subst h
 exact fG [0,1,2,3,4,5] ⟨a,l,b,m,c,o,d,p,rfl,rfl⟩


def iy.f (k : Nat) (a0 : aJ) (p2000 : Int) : Option (aJ × Int):=(eF.f k a0).bind (fun a=>if (!a) = true then (some (((aJ.mk (bH.mk 0 0 ([] : (List aY))) 0 0 false (cM.mk 0 0 false false false false false false false false) 0 0 ([] : (List Int)) false false false false false false (dz.mk 0 0 false false (cM.mk 0 0 false false false false false false false false)) false (bH.mk 0 0 ([] : (List aY))) ([] : (List Int))),2))) else ((lE.f a0).bind (fun b=>(kg.f k b p2000).bind (fun c=>some ((c,0))))))
theorem iy.ok {a0 : aJ} {p2000 : Int} {r : aJ × Int} (H : iy.f k a0 p2000 = some r) : dk Tryz.prog 62 #[.agg (al a0 af ag ay az au av aw ax).toArray,.func (.func 86) #[] #[.pointer (some ⟨bN,0,none⟩)]] (cH a0 af ag ay az au av aw ax++[aK bN 3 [ae p2000]]) (fun v B=>∃ aS aT bv bx bq br bw bz,v = .tuple #[.agg (al r.1 aS aT bv bx bq br bw bz).toArray,ae r.2]∧B = (bn r.1 aS aT bv bx bq br bw bz++[aK bN 3 [ae p2000]])):=by
 refine aj Tryz.func62 rfl rfl ?_
 unfold iy.f at H
 refine aR (o' (bO (h:=fun b=>o' (cw (h:=fun I=>ad aW (h:=eD (l' (cm 5) ?_)))))))
 obtain⟨R,F,H⟩:=ac H
 refine o' (dc [0,1,2,3] [0,1,2,3,4,5,6] (rJ.ok F) ?_)
 refine ad (bX rfl) (h:=bA ?_)
 rcases bE H with⟨a,H⟩|⟨a,H⟩
 ·refine aD rfl a (aR (bP (.agg (al cy none 0 none 0 none 0 none 0).toArray) dP (h:=o' (bi I 0 6 (al cy none 0 none 0 none 0 none 0) (h:=ad aW (h:=cD ?_))))))
  have h:=aN H;subst h
  exact ma [.cell 4 34,.tmp 5] ((Gh.nilBuf bD 55).trans ((Gh.nilBuf (Kd.int .i64) 3).trans ((Gh.nilBuf bD 55).trans ((Gh.nilBuf (Kd.int .i32) 21).trans (eZ [7,8,9,10,4]))))) ⟨none,0,none,0,none,0,none,0,rfl,rfl⟩ ⟨cV 6,cW,trivial⟩
 refine aE rfl a (ap (aa (aR (l' (cm 5) ?_))))
 obtain⟨N,E,H⟩:=ac H
 refine o' (ed [0,1,2,3] [0,1,2,3,4,5,6] (lE.ok E) fun s J u K y L z M=>?_)
 refine o' (bi b 0 9 (al N s J u K y L z M) (h:=cP (ad ar (h:=s' (.agg #[aH b]) dP ?_))))
 obtain⟨O,D,H⟩:=ac H
 refine o' (ra [9,0,1,2,3,8] [4,5,6,7,10] (jg (vs:=[.agg #[aH b]]) (cap:=[aH bN]) rfl Tryz.func86 AX rfl rfl) (kg.ok (bg:=b) (hM:=bN) D) ?_)
 rintro _ _⟨c,m,d,o,j,p,l,q,rfl,rfl⟩
 refine cP (bp (cm 0) (h:=o' (bi I 0 10 (al O c m d o j p l q) (h:=ad aW (h:=cC ?_)))))
 have h:=aN H;subst h
 exact du [.cell 4 34,.tmp 5] [1,2,3,4,5] ⟨c,m,d,o,j,p,l,q,rfl,rfl⟩ ⟨cV 10,cW,trivial⟩


def wm.f (k : Nat) (a0 : aJ) (a1 : Int) : Option (aJ × Int):=(iy.f k a0 a1).bind (fun a=>some ((a.1,a.2)))
theorem wm.ok {a0 : aJ} {a1 : Int} {r : aJ × Int} (H : wm.f k a0 a1 = some r) : dk Tryz.prog 34 #[.agg (al a0 af ag ay az au av aw ax).toArray,ae a1] (cH a0 af ag ay az au av aw ax) (fun v B=>∃ aS aT bv bx bq br bw bz,v = .tuple #[.agg (al r.1 aS aT bv bx bq br bw bz).toArray,ae r.2]∧B = (bn r.1 aS aT bv bx bq br bw bz)):=by
 refine aj Tryz.func34 rfl rfl ?_
 unfold wm.f at H
 refine aR (o' (bO (h:=fun y=>o' (bO (h:=fun p=>o' (cw (h:=fun u=>ad aW (h:=cP (bp (cm 4) (h:=s' (.func (.func 86) #[] #[aH p]) (dJ (us:=[aH p]) rfl) ?_))))))))))
 obtain⟨s,q,H⟩:=ac H
 refine o' (ed [0,1,2,3,5] [0,1,2,3,4,6] (iy.ok (bN:=p) q) fun a j b l c m d o=>?_)
 refine ad cr (h:=ad cr (h:=o' (bi u 0 10 (al s.1 a j b l c m d o) (h:=ad aW (h:=cC ?_)))))
 have h:=aN H;subst h
 exact du [.cell 4 34,.tmp 5] [0,1,2,3] ⟨a,j,b,l,c,m,d,o,rfl,rfl⟩ ⟨cV 10,cW,trivial⟩


def iQ.f (p0 : aJ) (a1 : Int) (a2 : Int) : Option (aJ):=lt ((decide (a1 < 0)) || (decide (a1 ≥ a2))) fun c=>lt (c || (decide (a2 ≥ p0.f0.f1))) fun b=>if b = true then (some (p0)) else ((fB.f ({ p0 with f5:=a1,f6:=a2 }) 0 0).bind (fun a=>some (a)))
theorem iQ.ok {p0 : aJ} {a1 : Int} {a2 : Int} {r : aJ} (H : iQ.f p0 a1 a2 = some r) : dk Tryz.prog 89 #[.agg #[.pointer (some ⟨bg,0,none⟩)],ae a1,ae a2] (cN bg p0 af ag ay az au av aw ax) (fun v B=>∃ P0_0_ q0_0_ P0_1_ q0_1_ P0_2_ q0_2_ P0_3_ q0_3_,v = .tuple #[]∧B = (cN bg r P0_0_ q0_0_ P0_1_ q0_1_ P0_2_ q0_2_ P0_3_ q0_3_)):=by
 refine aj Tryz.func89 rfl rfl ?_
 unfold iQ.f at H
 refine aR (o' (bO (h:=fun c=>eD (ad ar (h:=ad (ce rfl rfl) (h:=S' ar ?_))))))
 obtain⟨I,m,H⟩:=bj H
 refine dy 4 [(1,ae a1),(2,ae a2),(3,aH c),(12,.bool I)] (aK bg 34 (al p0 af ag ay az au av aw ax)::(bn p0 af ag ay az au av aw ax++[aK c 84 [aH bg]])) ?_ fun junk=>?_
 ·by_cases b : a1 < 0
  ·refine cu 3 (ai b) (cd (ai b) (h:=ah ?_))
   have x_:=ji m ((ai b));exact bK [0,1,2,3,4,5]
  refine bf (am b) ar (h:=bf (am b) ar (h:=bf (am b) (dT rfl rfl) (h:=ck (am b) (h:=ah ?_))))
  have x_:=jh m ((am b));exact bK [0,1,2,3,4,5]
 refine S' ar ?_
 obtain⟨F,j,H⟩:=bj H
 refine cK 9 (St [(1,ae a1),(2,ae a2),(3,aH c),(22,.bool F)] (aK bg 34 (al p0 af ag ay az au av aw ax)::(bn p0 af ag ay az au av aw ax++[aK c 84 [aH bg]]))) ?_ ?_
 ·by_cases a : I = true
  ·refine cu 8 a (cd a (h:=ah ?_))
   have x_:=ji j a;exact bK [0,1,2,3,4,5]
  refine bf (aM a) ar (h:=bf (aM a) aA (h:=cE (aM a) (aP 5) (h:=bf (aM a) cI (h:=bf (aM a) aA (h:=bf (aM a) aA (h:=cE (aM a) (aP 0) (h:=bf (aM a) (dT rfl rfl) (h:=ck (aM a) (h:=ah ?_)))))))))
  have x_:=jh j ((aM a));exact bK [0,1,2,3,4,5]
 rintro e ds As l
 refine bA (SA.of_St l fun junk=>?_)
 rcases bE H with⟨d,H⟩|⟨d,H⟩
 ·refine aD rfl d (fm (aG ?_))
  have h:=aN H;subst h
  exact kR (cN bg p0 af ag ay az au av aw ax) rfl (eZ [0,1,2,3,4]) ⟨af,ag,ay,az,au,av,aw,ax,rfl,rfl⟩
 refine aE rfl d (ap (aa (ao ?_)))
 refine fj [0,1,2,3,4,5,6,7,9,10] [5] (dt 0 5) fun _ _ _ _ _ sH dd pk=>?_
 refine bc 0 rfl sH aA (h:=bQ 1 rfl sH (aP 0) (h:=bc 2 rfl sH aA (h:=bQ 3 rfl sH (aP 0) (h:=bc 4 rfl sH ar (h:=bc 5 rfl sH ar (h:=bc 6 rfl sH cI (h:=bc 7 rfl sH aA (h:=dU 8 rfl dd (cF 0 [ae a1] (h:=(T' 9 rfl sH cI ?_)))))))))))
 refine bc 10 rfl sH aA (h:=dU 11 rfl dd (cF 0 [ae a2] (h:=(aV dd sH (aI (by kernel_rfl) (aa (bM 2 fun J=>bM 3 fun K=>bM 4 fun L=>bM 5 fun M=>ak ?_)))))))
 refine l' (cz c 0 0 [aH bg]) ?_
 obtain⟨N,u,H⟩:=ac H
 refine o' (ed [1,2,3,4,5] [0] (fB.ok (bg:=bg) u) fun o y p z q D s E=>?_)
 refine ah ?_
 have h:=aN H;subst h
 exact fG [0,1,2,3,4] ⟨o,y,p,z,q,D,s,E,rfl,rfl⟩


def ki.f (p0 : aJ) (p1 : Int) (p2 : Int) : Option (aJ):=(iQ.f p0 p1 p2).bind (fun a=>some (a))
theorem ki.ok {p0 : aJ} {p1 : Int} {p2 : Int} {r : aJ} (H : ki.f p0 p1 p2 = some r) : dk Tryz.prog 88 #[.agg #[.pointer (some ⟨bg,0,none⟩)],.pointer (some ⟨hM,0,none⟩),.pointer (some ⟨om,0,none⟩)] (aK bg 34 (al p0 af ag ay az au av aw ax)::(bn p0 af ag ay az au av aw ax++[aK hM 3 [ae p1],aK om 3 [ae p2]])) (fun v B=>∃ P0_0_ q0_0_ P0_1_ q0_1_ P0_2_ q0_2_ P0_3_ q0_3_,v = .tuple #[]∧B = (aK bg 34 (al r P0_0_ q0_0_ P0_1_ q0_1_ P0_2_ q0_2_ P0_3_ q0_3_)::(bn r P0_0_ q0_0_ P0_1_ q0_1_ P0_2_ q0_2_ P0_3_ q0_3_++[aK hM 3 [ae p1],aK om 3 [ae p2]]))):=by
 refine aj Tryz.func88 rfl rfl ?_
 unfold ki.f at H
 refine aR (o' (bO (h:=fun q=>bA (bM 1 fun s=>bM 2 fun u=>bM 3 fun y=>bM 4 fun z=>ak (bp (cz q 0 7 [aH bg]) (h:=l' (aP 5) ?_))))))
 refine l' (aP 6) ?_
 obtain⟨D,j,H⟩:=ac H
 refine o' (ed [0,1,2,3,4] [5,6,7] (iQ.ok (bg:=bg) j) fun a l b m c o d p=>?_)
 refine ah ?_
 have h:=aN H;subst h
 exact fG [0,1,2,3,4,5,6] ⟨a,l,b,m,c,o,d,p,rfl,rfl⟩


def gV.f (k : Nat) (a0 : aJ) (p2000 : Int) (p2001 : Int) : Option (aJ × Int):=(eF.f k a0).bind (fun a=>if (!a) = true then (some (((aJ.mk (bH.mk 0 0 ([] : (List aY))) 0 0 false (cM.mk 0 0 false false false false false false false false) 0 0 ([] : (List Int)) false false false false false false (dz.mk 0 0 false false (cM.mk 0 0 false false false false false false false false)) false (bH.mk 0 0 ([] : (List aY))) ([] : (List Int))),2))) else ((lE.f a0).bind (fun b=>(ki.f b p2000 p2001).bind (fun oq=>some ((oq,0))))))
theorem gV.ok {a0 : aJ} {p2000 : Int} {p2001 : Int} {r : aJ × Int} (H : gV.f k a0 p2000 p2001 = some r) : dk Tryz.prog 62 #[.agg (al a0 af ag ay az au av aw ax).toArray,.func (.func 88) #[] #[.pointer (some ⟨bN,0,none⟩),.pointer (some ⟨dA,0,none⟩)]] (cH a0 af ag ay az au av aw ax++[aK bN 3 [ae p2000],aK dA 3 [ae p2001]]) (fun v B=>∃ aS aT bv bx bq br bw bz,v = .tuple #[.agg (al r.1 aS aT bv bx bq br bw bz).toArray,ae r.2]∧B = (bn r.1 aS aT bv bx bq br bw bz++[aK bN 3 [ae p2000],aK dA 3 [ae p2001]])):=by
 refine aj Tryz.func62 rfl rfl ?_
 unfold gV.f at H
 refine aR (o' (bO (h:=fun b=>o' (cw (h:=fun I=>ad aW (h:=eD (l' (cm 6) ?_)))))))
 obtain⟨O,F,H⟩:=ac H
 refine o' (dc [0,1,2,3] [0,1,2,3,4,5,6,7] (rJ.ok F) ?_)
 refine ad (bX rfl) (h:=bA ?_)
 rcases bE H with⟨a,H⟩|⟨a,H⟩
 ·refine aD rfl a (aR (bP (.agg (al cy none 0 none 0 none 0 none 0).toArray) dP (h:=o' (bi I 0 7 (al cy none 0 none 0 none 0 none 0) (h:=ad aW (h:=cD ?_))))))
  have h:=aN H;subst h
  exact ma [.cell 4 34,.tmp 5] ((Gh.nilBuf bD 55).trans ((Gh.nilBuf (Kd.int .i64) 3).trans ((Gh.nilBuf bD 55).trans ((Gh.nilBuf (Kd.int .i32) 21).trans (eZ [8,9,10,11,4,5]))))) ⟨none,0,none,0,none,0,none,0,rfl,rfl⟩ ⟨cV 7,cW,trivial⟩
 refine aE rfl a (ap (aa (aR (l' (cm 6) ?_))))
 obtain⟨N,E,H⟩:=ac H
 refine o' (ed [0,1,2,3] [0,1,2,3,4,5,6,7] (lE.ok E) fun s J u K y L z M=>?_)
 refine o' (bi b 0 10 (al N s J u K y L z M) (h:=cP (ad ar (h:=s' (.agg #[aH b]) dP ?_))))
 obtain⟨oq,D,H⟩:=ac H
 refine o' (ra [10,0,1,2,3,8,9] [4,5,6,7,11] (jg (vs:=[.agg #[aH b]]) (cap:=[aH bN,aH dA]) rfl Tryz.func88 AY rfl rfl) (ki.ok (bg:=b) (hM:=bN) (om:=dA) D) ?_)
 rintro _ _⟨c,m,d,o,j,p,l,q,rfl,rfl⟩
 refine cP (bp (cm 0) (h:=o' (bi I 0 11 (al oq c m d o j p l q) (h:=ad aW (h:=cC ?_)))))
 have h:=aN H;subst h
 exact du [.cell 4 34,.tmp 5] [1,2,3,4,5,6] ⟨c,m,d,o,j,p,l,q,rfl,rfl⟩ ⟨cV 11,cW,trivial⟩


def wn.f (k : Nat) (a0 : aJ) (a1 : Int) (a2 : Int) : Option (aJ × Int):=(gV.f k a0 a1 a2).bind (fun a=>some ((a.1,a.2)))
theorem wn.ok {a0 : aJ} {a1 : Int} {a2 : Int} {r : aJ × Int} (H : wn.f k a0 a1 a2 = some r) : dk Tryz.prog 35 #[.agg (al a0 af ag ay az au av aw ax).toArray,ae a1,ae a2] (cH a0 af ag ay az au av aw ax) (fun v B=>∃ aS aT bv bx bq br bw bz,v = .tuple #[.agg (al r.1 aS aT bv bx bq br bw bz).toArray,ae r.2]∧B = (bn r.1 aS aT bv bx bq br bw bz)):=by
 refine aj Tryz.func35 rfl rfl ?_
 unfold wn.f at H
 refine aR (o' (bO (h:=fun z=>o' (bO (h:=fun p=>o' (bO (h:=fun q=>o' (cw (h:=fun u=>ad aW (h:=cP (bp (cm 4) (h:=s' (.func (.func 88) #[] #[aH p,aH q]) (dJ (us:=[aH p,aH q]) rfl) ?_))))))))))))
 obtain⟨y,s,H⟩:=ac H
 refine o' (ed [0,1,2,3,5,6] [0,1,2,3,4,7] (gV.ok (bN:=p) (dA:=q) s) fun a j b l c m d o=>?_)
 refine ad cr (h:=ad cr (h:=o' (bi u 0 11 (al y.1 a j b l c m d o) (h:=ad aW (h:=cC ?_)))))
 have h:=aN H;subst h
 exact du [.cell 6 34,.tmp 7] [0,1,2,3] ⟨a,j,b,l,c,m,d,o,rfl,rfl⟩ ⟨cV 11,cW,trivial⟩


def fM.f (p0 : aJ) (a1 : Bool) : Option (aJ):=if a1 = true then (some (({ p0 with f1:=p0.f14.f0,f2:=p0.f14.f1,f3:=p0.f14.f2,f4:=p0.f14.f4,f9:=p0.f14.f3 }))) else (some (({ p0 with f14:=(dz.mk p0.f1 p0.f2 p0.f3 p0.f9 p0.f4) })))
theorem fM.ok {p0 : aJ} {a1 : Bool} {r : aJ} (H : fM.f p0 a1 = some r) : dk Tryz.prog 64 #[.agg #[.pointer (some ⟨bg,0,none⟩)],.bool a1] (cN bg p0 af ag ay az au av aw ax) (fun v B=>∃ P0_0_ q0_0_ P0_1_ q0_1_ P0_2_ q0_2_ P0_3_ q0_3_,v = .tuple #[]∧B = (cN bg r P0_0_ q0_0_ P0_1_ q0_1_ P0_2_ q0_2_ P0_3_ q0_3_)):=by
 refine aj Tryz.func64 rfl rfl ?_
 unfold fM.f at H
 refine aR (o' (bO (h:=fun c=>eD (ad ar (h:=bA ?_)))))
 rcases bE H with⟨a,H⟩|⟨a,H⟩
 ·refine aD rfl a (aR (ad aA (h:=bp (aP 5) (h:=ad cI (h:=ad aA (h:=bp (cz bg 25 0 (ii p0.f14)) (h:=o' (cw (h:=fun b=>o' (bi b 0 6 (ii p0.f14) (h:=bA (ao ?_))))))))))))
  refine fj (0::1::2::3::4::5::6::7::8::9::10::11::12::13::14::15::16::17::18::19::20::21::23::24::26::27::29::30::32::33::[]) [5,6] (dt 0 5) fun _ _ _ _ _ sH dd pk=>?_
  refine bc 0 rfl sH aA (h:=bQ 1 rfl sH (aP 0) (h:=bc 2 rfl sH aA (h:=bQ 3 rfl sH (aP 0) (h:=bc 4 rfl sH aA (h:=bQ 5 rfl sH (aP 0) (h:=bc 6 rfl sH aA (h:=bQ 7 rfl sH (aP 0) (h:=bc 8 rfl sH aA (h:=r' 9 rfl sH (aP 0) ?_)))))))))
  refine bc 10 rfl sH aA (h:=bQ 11 rfl sH (aP 1) (h:=bc 12 rfl sH aA (h:=bQ 13 rfl sH (aP 1) (h:=bc 14 rfl sH aA (h:=bQ 15 rfl sH (aP 1) (h:=bc 16 rfl sH aA (h:=bQ 17 rfl sH (aP 1) (h:=bc 18 rfl sH aA (h:=r' 19 rfl sH (cz b 4 1 (bF p0.f14.f4)) ?_)))))))))
  refine bc 20 rfl sH cI (h:=bc 21 rfl sH aA (h:=dU 22 rfl dd (cF 0 [ae p0.f14.f0] (h:=(bc 23 rfl sH cI (h:=bc 24 rfl sH aA (h:=dU 25 rfl dd (cF 0 [ae p0.f14.f1] (h:=(bc 26 rfl sH cI (h:=bc 27 rfl sH aA (h:=dU 28 rfl dd (cF 0 [.bool p0.f14.f2] (h:=(T' 29 rfl sH cI ?_)))))))))))))))
  refine bc 30 rfl sH aA (h:=dU 31 rfl dd (cF 0 [.bool p0.f14.f3] (h:=(bc 32 rfl sH cI (h:=bc 33 rfl sH aA (h:=dU 34 rfl dd (cF 0 (bF p0.f14.f4) (h:=(aV dd sH (aI (by kernel_rfl) (aa (fm (aG ?_)))))))))))))
  have h:=aN H;subst h
  exact kR (aK bg 34 (al ({ p0 with f1:=p0.f14.f0,f2:=p0.f14.f1,f3:=p0.f14.f2,f4:=p0.f14.f4,f9:=p0.f14.f3 }) af ag ay az au av aw ax)::bn p0 af ag ay az au av aw ax) rfl (eZ [2,3,4,5,6]) ⟨af,ag,ay,az,au,av,aw,ax,rfl,rfl⟩
 refine aE rfl a (ap (aa ?_))
 refine fj (dt 0 30) [0,5] (dt 1 4) fun _ _ _ _ _ sH dd pk=>?_
 refine bc 0 rfl sH aA (h:=bQ 1 rfl sH (aP 1) (h:=bc 2 rfl sH aA (h:=bQ 3 rfl sH (aP 1) (h:=bc 4 rfl sH cI (h:=bc 5 rfl sH aA (h:=bQ 6 rfl sH (aP 0) (h:=bc 7 rfl sH aA (h:=bQ 8 rfl sH (aP 1) (h:=T' 9 rfl sH cI ?_)))))))))
 refine bc 10 rfl sH aA (h:=bQ 11 rfl sH (aP 0) (h:=bc 12 rfl sH aA (h:=bQ 13 rfl sH (aP 1) (h:=bc 14 rfl sH cI (h:=bc 15 rfl sH aA (h:=bQ 16 rfl sH (aP 0) (h:=bc 17 rfl sH aA (h:=bQ 18 rfl sH (aP 1) (h:=T' 19 rfl sH cI ?_)))))))))
 refine bc 20 rfl sH aA (h:=bQ 21 rfl sH (aP 0) (h:=bc 22 rfl sH aA (h:=bQ 23 rfl sH (aP 1) (h:=bc 24 rfl sH cI (h:=bc 25 rfl sH aA (h:=bQ 26 rfl sH (cz bg 6 0 (bF p0.f4)) (h:=kV (.agg (ii (dz.mk p0.f1 p0.f2 p0.f3 p0.f9 p0.f4)).toArray) 27 rfl sH dP (h:=bc 28 rfl sH cI (h:=T' 29 rfl sH aA ?_)))))))))
 refine aV dd sH (eC 30 rfl (cF 0 (ii (dz.mk p0.f1 p0.f2 p0.f3 p0.f9 p0.f4)) (h:=(aI (by kernel_rfl) ?_))))
 have h:=aN H;subst h
 exact fG [0,2,3,4,5] ⟨af,ag,ay,az,au,av,aw,ax,rfl,rfl⟩


def jX.f (p0 : aJ) (p1 : Bool) : Option (aJ):=(fM.f p0 p1).bind (fun a=>some (a))
theorem jX.ok {p0 : aJ} {p1 : Bool} {r : aJ} (H : jX.f p0 p1 = some r) : dk Tryz.prog 63 #[.agg #[.pointer (some ⟨bg,0,none⟩)],.pointer (some ⟨hM,0,none⟩)] (aK bg 34 (al p0 af ag ay az au av aw ax)::(bn p0 af ag ay az au av aw ax++[aK hM 4 [.bool p1]])) (fun v B=>∃ P0_0_ q0_0_ P0_1_ q0_1_ P0_2_ q0_2_ P0_3_ q0_3_,v = .tuple #[]∧B = (aK bg 34 (al r P0_0_ q0_0_ P0_1_ q0_1_ P0_2_ q0_2_ P0_3_ q0_3_)::(bn r P0_0_ q0_0_ P0_1_ q0_1_ P0_2_ q0_2_ P0_3_ q0_3_++[aK hM 4 [.bool p1]]))):=by
 refine aj Tryz.func63 rfl rfl ?_
 unfold jX.f at H
 refine aR (o' (bO (h:=fun q=>bA (bM 1 fun z=>bM 2 fun s=>bM 3 fun u=>bM 4 fun y=>ak (bp (cz q 0 6 [aH bg]) (h:=l' (aP 5) ?_))))))
 obtain⟨D,j,H⟩:=ac H
 refine o' (ed [0,1,2,3,4] [5,6] (fM.ok (bg:=bg) j) fun a l b m c o d p=>?_)
 refine ah ?_
 have h:=aN H;subst h
 exact fG [0,1,2,3,4,5] ⟨a,l,b,m,c,o,d,p,rfl,rfl⟩


def ir.f (k : Nat) (a0 : aJ) (p2000 : Bool) : Option (aJ × Int):=(eF.f k a0).bind (fun a=>if (!a) = true then (some (((aJ.mk (bH.mk 0 0 ([] : (List aY))) 0 0 false (cM.mk 0 0 false false false false false false false false) 0 0 ([] : (List Int)) false false false false false false (dz.mk 0 0 false false (cM.mk 0 0 false false false false false false false false)) false (bH.mk 0 0 ([] : (List aY))) ([] : (List Int))),2))) else ((lE.f a0).bind (fun b=>(jX.f b p2000).bind (fun c=>some ((c,0))))))
theorem ir.ok {a0 : aJ} {p2000 : Bool} {r : aJ × Int} (H : ir.f k a0 p2000 = some r) : dk Tryz.prog 62 #[.agg (al a0 af ag ay az au av aw ax).toArray,.func (.func 63) #[] #[.pointer (some ⟨bN,0,none⟩)]] (cH a0 af ag ay az au av aw ax++[aK bN 4 [.bool p2000]]) (fun v B=>∃ aS aT bv bx bq br bw bz,v = .tuple #[.agg (al r.1 aS aT bv bx bq br bw bz).toArray,ae r.2]∧B = (bn r.1 aS aT bv bx bq br bw bz++[aK bN 4 [.bool p2000]])):=by
 refine aj Tryz.func62 rfl rfl ?_
 unfold ir.f at H
 refine aR (o' (bO (h:=fun b=>o' (cw (h:=fun I=>ad aW (h:=eD (l' (cm 5) ?_)))))))
 obtain⟨R,F,H⟩:=ac H
 refine o' (dc [0,1,2,3] [0,1,2,3,4,5,6] (rJ.ok F) ?_)
 refine ad (bX rfl) (h:=bA ?_)
 rcases bE H with⟨a,H⟩|⟨a,H⟩
 ·refine aD rfl a (aR (bP (.agg (al cy none 0 none 0 none 0 none 0).toArray) dP (h:=o' (bi I 0 6 (al cy none 0 none 0 none 0 none 0) (h:=ad aW (h:=cD ?_))))))
  have h:=aN H;subst h
  exact ma [.cell 4 34,.tmp 5] ((Gh.nilBuf bD 55).trans ((Gh.nilBuf (Kd.int .i64) 3).trans ((Gh.nilBuf bD 55).trans ((Gh.nilBuf (Kd.int .i32) 21).trans (eZ [7,8,9,10,4]))))) ⟨none,0,none,0,none,0,none,0,rfl,rfl⟩ ⟨cV 6,cW,trivial⟩
 refine aE rfl a (ap (aa (aR (l' (cm 5) ?_))))
 obtain⟨N,E,H⟩:=ac H
 refine o' (ed [0,1,2,3] [0,1,2,3,4,5,6] (lE.ok E) fun s J u K y L z M=>?_)
 refine o' (bi b 0 9 (al N s J u K y L z M) (h:=cP (ad ar (h:=s' (.agg #[aH b]) dP ?_))))
 obtain⟨O,D,H⟩:=ac H
 refine o' (ra [9,0,1,2,3,8] [4,5,6,7,10] (jg (vs:=[.agg #[aH b]]) (cap:=[aH bN]) rfl Tryz.func63 AP rfl rfl) (jX.ok (bg:=b) (hM:=bN) D) ?_)
 rintro _ _⟨c,m,d,o,j,p,l,q,rfl,rfl⟩
 refine cP (bp (cm 0) (h:=o' (bi I 0 10 (al O c m d o j p l q) (h:=ad aW (h:=cC ?_)))))
 have h:=aN H;subst h
 exact du [.cell 4 34,.tmp 5] [1,2,3,4,5] ⟨c,m,d,o,j,p,l,q,rfl,rfl⟩ ⟨cV 10,cW,trivial⟩


def wb.f (k : Nat) (a0 : aJ) (a1 : Bool) : Option (aJ × Int):=(ir.f k a0 a1).bind (fun a=>some ((a.1,a.2)))
theorem wb.ok {a0 : aJ} {a1 : Bool} {r : aJ × Int} (H : wb.f k a0 a1 = some r) : dk Tryz.prog 17 #[.agg (al a0 af ag ay az au av aw ax).toArray,.bool a1] (cH a0 af ag ay az au av aw ax) (fun v B=>∃ aS aT bv bx bq br bw bz,v = .tuple #[.agg (al r.1 aS aT bv bx bq br bw bz).toArray,ae r.2]∧B = (bn r.1 aS aT bv bx bq br bw bz)):=by
 refine aj Tryz.func17 rfl rfl ?_
 unfold wb.f at H
 refine aR (o' (bO (h:=fun y=>o' (bO (h:=fun p=>o' (cw (h:=fun u=>ad aW (h:=cP (bp (cm 4) (h:=s' (.func (.func 63) #[] #[aH p]) (dJ (us:=[aH p]) rfl) ?_))))))))))
 obtain⟨s,q,H⟩:=ac H
 refine o' (ed [0,1,2,3,5] [0,1,2,3,4,6] (ir.ok (bN:=p) q) fun a j b l c m d o=>?_)
 refine ad cr (h:=ad cr (h:=o' (bi u 0 10 (al s.1 a j b l c m d o) (h:=ad aW (h:=cC ?_)))))
 have h:=aN H;subst h
 exact du [.cell 4 34,.tmp 5] [0,1,2,3] ⟨a,j,b,l,c,m,d,o,rfl,rfl⟩ ⟨cV 10,cW,trivial⟩


def gw.f (k : Nat) (p0 : aJ) (a1 : Bool) : Option (aJ):=lt (a1 && (!p0.f15)) fun d=>if d = true then (if 0 ≤ (p0.f0.f2.length : Int)∧(p0.f0.f2.length : Int) ≤ 2932031007402 then lt (List.replicate (p0.f0.f2.length : Int).toNat (aY.mk 0 (fX.mk 0 0 0) 0 (cM.mk 0 0 false false false false false false false false))) fun a=>((cX.f k ({ p0 with f0:=(bH.mk p0.f0.f0 p0.f0.f1 a),f15:=true,f16:=p0.f0 }) 0 p0.f0.f1).bind (fun c=>some (c))) else none) else (lt ((!a1) && p0.f15) fun b=>if b = true then (some (({ p0 with f0:=p0.f16,f15:=false,f16:=(bH.mk 0 0 ([] : (List aY))) }))) else (some (p0)))
theorem gw.ok {p0 : aJ} {a1 : Bool} {r : aJ} (H : gw.f k p0 a1 = some r) : dk Tryz.prog 132 #[.agg #[.pointer (some ⟨bg,0,none⟩)],.bool a1] (cN bg p0 af ag ay az au av aw ax) (fun v B=>∃ P0_0_ q0_0_ P0_1_ q0_1_ P0_2_ q0_2_ P0_3_ q0_3_,v = .tuple #[]∧B = (cN bg r P0_0_ q0_0_ P0_1_ q0_1_ P0_2_ q0_2_ P0_3_ q0_3_)):=by
 refine aj Tryz.func132 rfl rfl ?_
 unfold gw.f at H
 refine aR (o' (bO (h:=fun o=>bA (aQ (aR (ad ar (h:=S' ar ?_)))))))
 obtain⟨Z,M,H⟩:=bj H
 refine dy 7 [(1,.bool a1),(2,aH o),(13,.bool Z)] (aK bg 34 (al p0 af ag ay az au av aw ax)::(bn p0 af ag ay az au av aw ax++[aK o 84 [aH bg]])) ?_ fun junk=>?_
 ·by_cases d : a1 = true
  ·refine bf d aA (h:=cE d (aP 5) (h:=bf d cI (h:=bf d aA (h:=cE d (aP 0) (h:=bf d (bX rfl) (h:=cd d (h:=ah ?_)))))))
   have x_:=fD M d;exact bK [0,1,2,3,4,5]
  refine cu 6 (aM d) (ck (aM d) (h:=ah ?_))
  have x_:=fC M ((aM d));exact bK [0,1,2,3,4,5]
 refine ad aW (h:=bA ?_)
 rcases bE H with⟨p,H⟩|⟨p,H⟩
 ·refine aD rfl p (ao ?_)
  refine fj [0,1,2,3,4,5,6,7,9,10,12,13] [5] (dt 0 5) fun _ _ _ _ _ sH dd pk=>?_
  refine bc 0 rfl sH aA (h:=bQ 1 rfl sH (aP 0) (h:=bc 2 rfl sH aA (h:=bQ 3 rfl sH (aP 0) (h:=bc 4 rfl sH aA (h:=bQ 5 rfl sH (aP 0) (h:=bc 6 rfl sH cI (h:=bc 7 rfl sH aA (h:=dU 8 rfl dd (dC rfl (cz bg 0 0 [ae p0.f0.f0,ae p0.f0.f1,.slice af p0.f0.f2.length ag]) (T' 9 rfl sH cI ?_))))))))))
  refine bc 10 rfl sH aA (h:=dU 11 rfl dd (cF 0 [ae p0.f0.f0,ae p0.f0.f1,.slice af p0.f0.f2.length ag] (h:=(bc 12 rfl sH cI (h:=bc 13 rfl sH aA (h:=dU 14 rfl dd (cF 0 [.bool true] (h:=(aV dd sH (aI (by kernel_rfl) (aa (ao ?_))))))))))))
  refine fj (0::1::2::3::4::5::6::7::8::9::10::11::12::13::14::15::16::17::18::19::20::22::23::24::[]) [0,1] (dt 2 4) fun _ _ _ _ _ sH dd pk=>?_
  refine bc 0 rfl sH aA (h:=bQ 1 rfl sH (aP 0) (h:=bc 2 rfl sH aA (h:=bQ 3 rfl sH (aP 0) (h:=bc 4 rfl sH cI (h:=bc 5 rfl sH aA (h:=bc 6 rfl sH aA (h:=bQ 7 rfl sH (aP 1) (h:=bc 8 rfl sH aA (h:=r' 9 rfl sH (aP 0) ?_)))))))))
  refine bc 10 rfl sH cI (h:=bc 11 rfl sH aA (h:=bc 12 rfl sH aA (h:=bQ 13 rfl sH (aP 1) (h:=bc 14 rfl sH aA (h:=bQ 15 rfl sH (aP 0) (h:=bc 16 rfl sH cI (h:=bc 17 rfl sH aA (h:=bc 18 rfl sH aA (h:=r' 19 rfl sH (aP 1) ?_)))))))))
  refine t' (ae (p0.f0.f2.length : Int)) 20 rfl sH (cO Tryz.underlying24 rfl) ?_
  obtain⟨⟨K,U⟩,H⟩:=aO H
  obtain⟨b,q,H⟩:=bj H
  refine dU 21 rfl dd (vD (kd:=bD) (sz:=15) (l:=(p0.f0.f2.length : Int)) lC b q rfl Tryz.underlying24 mC rfl rfl K (by omega) (by omega) rfl rfl (fun _=>rfl) fun c=>kV (.agg #[ae p0.f0.f0,ae p0.f0.f1,.slice (some ⟨c,0,none⟩) b.length ((p0.f0.f2.length : Int).toNat)]) 22 rfl sH dP (h:=bc 23 rfl sH cI (h:=bc 24 rfl sH aA (h:=aV dd sH (eC 25 rfl (cF 1 [ae p0.f0.f0,ae p0.f0.f1,.slice (some ⟨c,0,none⟩) b.length ((p0.f0.f2.length : Int).toNat)] (h:=(aI (by kernel_rfl) (aa (SA.of_St (l:=[(2,aH o)]) (B:=[aK bg 34 (al ({ p0 with f0:=(bH.mk p0.f0.f0 p0.f0.f1 b),f15:=true,f16:=p0.f0 }) (some ⟨c,0,none⟩) ((p0.f0.f2.length : Int).toNat) ay az af ag aw ax),Buf bD 55 (some ⟨c,0,none⟩) ((p0.f0.f2.length : Int).toNat) b,gf 3 ay az p0.f7,Buf bD 55 af ag p0.f0.f2,kU 21 aw ax p0.f17,aK o 84 [aH bg]]) (St.mk1 (cB rfl dS) (Gh.sel [1,6,3,2,5,0] (by kernel_rfl) (by kernel_rfl))) fun junk=>bM 1 fun N=>?_))))))))))
  refine bM 2 fun O=>bM 3 fun R=>bM 4 fun S=>?_
  refine fj (dt 0 7) [0,5] (dt 1 4) fun _ _ _ _ _ sH dd pk=>?_
  refine bQ 0 rfl sH (cz o 0 1 [aH bg]) (h:=bc 1 rfl sH aA (h:=bQ 2 rfl sH (aP 1) (h:=bc 3 rfl sH cI (h:=bc 4 rfl sH aA (h:=bc 5 rfl sH aA (h:=bQ 6 rfl sH (aP 0) (h:=aV dd sH ?_)))))))
  obtain⟨Y,D,H⟩:=ac H
  refine eC 7 rfl (ed [0,2,3,4,5] [1] (cX.ok (bg:=bg) (ag:=(p0.f0.f2.length : Int).toNat) D) fun s E u F y I z J=>?_)
  refine aI (by kernel_rfl) (aF ?_)
  have h:=aN H;subst h
  exact fG [0,1,2,3,4] ⟨s,E,u,F,y,I,z,J,rfl,rfl⟩
 refine aE rfl p (aR (ad ar (h:=ad (bX rfl) (h:=S' ar ?_))))
 obtain⟨L,m,H⟩:=bj H
 refine dy 6 [(2,aH o),(69,.bool L)] (aK bg 34 (al p0 af ag ay az au av aw ax)::(bn p0 af ag ay az au av aw ax++[aK o 84 [aH bg]])) ?_ fun junk=>?_
 ·by_cases a : (!a1) = true
  ·refine bf a aA (h:=cE a (aP 5) (h:=bf a cI (h:=bf a aA (h:=cE a (aP 0) (h:=cd a (h:=ah ?_))))))
   have x_:=fD m a;exact bK [0,1,2,3,4,5]
  refine cu 5 (aM a) (ck (aM a) (h:=ah ?_))
  have x_:=fC m ((aM a));exact bK [0,1,2,3,4,5]
 refine ad aW (h:=bA ?_)
 rcases bE H with⟨j,H⟩|⟨j,H⟩
 ·refine aD rfl j ?_
  refine fj (0::1::2::3::4::5::6::7::8::9::11::12::13::15::16::18::19::[]) [5] (dt 0 5) fun _ _ _ _ _ sH dd pk=>?_
  refine bc 0 rfl sH aA (h:=bQ 1 rfl sH (aP 0) (h:=bc 2 rfl sH aA (h:=bQ 3 rfl sH (aP 0) (h:=bc 4 rfl sH aA (h:=bQ 5 rfl sH (aP 0) (h:=bc 6 rfl sH aA (h:=bQ 7 rfl sH (aP 0) (h:=bc 8 rfl sH cI (h:=T' 9 rfl sH aA ?_)))))))))
  refine kV (.agg #[ae 0,ae 0,.slice none 0 0]) 11 rfl sH dP (h:=dU 10 rfl dd (dC rfl (cz bg 40 0 [ae p0.f16.f0,ae p0.f16.f1,.slice au p0.f16.f2.length av]) (bc 12 rfl sH cI (h:=bc 13 rfl sH aA (h:=dU 14 rfl dd (cF 0 [ae p0.f16.f0,ae p0.f16.f1,.slice au p0.f16.f2.length av] (h:=(bc 15 rfl sH cI (h:=bc 16 rfl sH aA (h:=dU 17 rfl dd (cF 0 [ae 0,ae 0,.slice none 0 0] (h:=(bc 18 rfl sH cI (h:=T' 19 rfl sH aA ?_))))))))))))))
  refine dU 20 rfl dd (cF 0 [.bool false] (h:=(aV dd sH (aI (by kernel_rfl) (aF ?_)))))
  have h:=aN H;subst h
  exact rH [aK bg 34 (al ({ p0 with f0:=p0.f16,f15:=false,f16:=pz }) au av ay az none 0 aw ax),Buf bD 55 au av p0.f16.f2,gf 3 ay az p0.f7,Buf bD 55 none 0 ([] : (List aY)),kU 21 aw ax p0.f17] rfl ((Gh.nilBuf bD 55).trans (eZ [1,4,3,6,5])) ⟨au,av,ay,az,none,0,aw,ax,rfl,rfl⟩
 refine aE rfl j (ap (aF ?_))
 have h:=aN H;subst h
 exact fG [0,1,2,3,4] ⟨af,ag,ay,az,au,av,aw,ax,rfl,rfl⟩

end Go.Proofs.YtckilbegmbaeeaaGreat.Z6

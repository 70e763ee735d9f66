/- Walks. -/
import Derived.Test.YtckilbegmbaeeaaGreatZ64
namespace Go.Proofs.YtckilbegmbaeeaaGreat.Z6
open Go Go.RowKit Go.Proofs.YtckilbegmbaeeaaGreat.SL
open Go.IntKind (i64)
set_option linter.unusedVariables false
set_option maxHeartbeats 20000000
set_option maxRecDepth 100000
set_option linter.unusedSimpArgs false
attribute [local irreducible] IntKind.wrap da fk gR kN kD po ky eS kF rd sub bytesOf ib dj
variable {bg hM bN dA om ag az av ax k : Nat}
variable {af ay au aw : Option Addr}
def iK.f (k : Nat) (p0 : aJ) (a1 : Int) : Option (aJ):=(if a1 = 8 then (some (Out.go ({ p0 with f2:=(fk (i64.wrap (p0.f2 - 1)) 0) }))) else (if a1 = 9 then ((fR.f k p0.f7 p0.f2).bind (fun b=>(if b.2 = true then (lt (i64.wrap (b.1 + 1)) fun c=>some c) else (some b.1) : Option (Int)).bind (fun a=>(dp.f p0).bind (fun d=>if a < (p0.f7.length : Int) then (if 0 ≤ a∧a < (p0.f7.length : Int) then (some (Out.go ({ p0 with f2:=(rd p0.f7 a) }))) else none) else (some (Out.go ({ p0 with f2:=d }))))))) else ((if a1 = 10 then (some (decide (a1 = 10))) else (if a1 = 11 then (some (decide (a1 = 11))) else (some (decide (a1 = 12)))) : Option (Bool)).bind (fun l=>if l = true then ((eW.f k p0).bind (fun h=>some (Out.go h))) else (if a1 = 13 then (some (Out.go ({ p0 with f2:=0 }))) else (if a1 = 141 then ((io.f k p0).bind (fun j=>some (Out.go j))) else (some (Out.ret (p0)))))))) : Option (Out (aJ) (aJ))).bind (fun o=>Out.el o (fun r_=>some r_) (fun m=>some (({ m with f3:=false }))))
theorem iK.ok {p0 : aJ} {a1 : Int} {r : aJ} (H : iK.f k p0 a1 = some r) : dk Tryz.prog 75 #[.agg #[.pointer (some ⟨bg,0,none⟩)],aL a1] (cN bg p0 af ag ay az au av aw ax) (fun v B=>∃ P0_0_ q0_0_ P0_1_ q0_1_ P0_2_ q0_2_ P0_3_ q0_3_,v = .tuple #[]∧B = (cN bg r P0_0_ q0_0_ P0_1_ q0_1_ P0_2_ q0_2_ P0_3_ q0_3_)):=by
 refine aj Tryz.func75 rfl rfl ?_
 unfold iK.f at H
 refine aR (o' (bO (h:=fun b=>eD (ad ar (h:=bA ?_)))))
 obtain⟨t8,H,z⟩:=ac H
 refine bI (fun e ds As=>∃ (s9 : aJ),t8 = Out.go s9∧∃ (E : Option Addr) (K : Nat),∃ (F : Option Addr) (L : Nat),∃ (I : Option Addr) (M : Nat),∃ (J : Option Addr) (N : Nat),St [(2,aH b)] (aK bg 34 (al s9 E K F L I M J N)::(bn s9 E K F L I M J N++[aK b 84 [aH bg]])) e ds As) ?_ ?_
 ·refine aQ (aR (ad (bk rfl rfl) (h:=ad aW (h:=bA ?_))))
  rcases bE H with⟨a2,H⟩|⟨a2,H⟩
  ·refine aC rfl a2 ?_
   refine fj (dt 0 11) [0,5] (dt 1 4) fun _ _ _ _ _ sH dd pk=>?_
   refine bc 0 rfl sH aA (h:=bQ 1 rfl sH (aP 1) (h:=bc 2 rfl sH aA (h:=bQ 3 rfl sH (aP 1) (h:=bc 4 rfl sH cI (h:=bc 5 rfl sH aA (h:=bQ 6 rfl sH (aP 0) (h:=bc 7 rfl sH (cT rfl rfl) (h:=kV (ae (fk (i64.wrap (p0.f2 - 1)) 0)) 8 rfl sH (nJ rfl rfl) (h:=T' 9 rfl sH cI ?_)))))))))
   refine bc 10 rfl sH aA (h:=aV dd sH (eC 11 rfl (cF 0 [ae (fk (i64.wrap (p0.f2 - 1)) 0)] (h:=(aI (by kernel_rfl) (aF ?_))))))
   have h:=aN H;subst h
   exact aa ⟨({ p0 with f2:=(fk (i64.wrap (p0.f2 - 1)) 0) }),rfl,af,ag,ay,az,au,av,aw,ax,dZ [0,2,3,4,5,1]⟩
  refine aB rfl a2 (aR (ad (bk rfl rfl) (h:=ad aW (h:=bA ?_))))
  rcases bE H with⟨D,H⟩|⟨D,H⟩
  ·refine aC rfl D (ao (bM 1 fun e1=>bM 2 fun e2=>bM 3 fun e3=>bM 4 fun e4=>?_))
   refine fj (0::1::2::3::4::5::6::7::8::9::11::12::13::14::15::[]) [0,5] (dt 1 4) fun _ _ _ _ _ sH dd pk=>?_
   refine bc 0 rfl sH aA (h:=bQ 1 rfl sH (aP 1) (h:=bc 2 rfl sH cI (h:=bc 3 rfl sH aA (h:=bQ 4 rfl sH (aP 0) (h:=bc 5 rfl sH aA (h:=bQ 6 rfl sH (aP 1) (h:=bc 7 rfl sH cI (h:=bc 8 rfl sH aA (h:=r' 9 rfl sH (aP 0) ?_)))))))))
   obtain⟨e5,b2,H⟩:=ac H
   refine dU 10 rfl dd (dc [1] [0,2,3] (fR.ok (A0:=ay) (c0:=az) b2) ?_)
   refine bc 11 rfl sH ar (h:=bc 12 rfl sH cr (h:=bc 13 rfl sH cr (h:=bc 14 rfl sH aW (h:=bc 15 rfl sH aW (h:=aV dd sH (aI (by kernel_rfl) (aa (ao (aR (ad ar (h:=bA ?_)))))))))))
   obtain⟨a,H,u⟩:=ac H
   refine bI (St [(2,aH b),(4,ae a)] (aK bg 34 (al p0 af ag ay az au av aw ax)::(bn p0 af ag ay az au av aw ax++[aK b 84 [aH bg]]))) ?_ ?_
   ·rcases bE H with⟨c,H⟩|⟨c,H⟩
    ·refine aD rfl c (ak (ad ar (h:=S' (bW rfl rfl) ?_)))
     obtain⟨S,a3,H⟩:=bj H
     refine bP (ae S) (bo (v:=ae S) (congrArg (Value.int .i64) a3.symm)) (h:=ah ?_)
     have h:=aN H;subst h
     exact bK [0,3,2,4,5,1]
    refine aE rfl c (ap ?_)
    have h:=aN H;subst h
    exact bK [0,3,2,4,5,1]
   rintro e ds As Y
   clear H
   have H:=u
   clear u
   refine aa (SA.of_St Y fun junk=>ao ?_)
   refine fj [0,1,2,4,5] [5] (dt 0 5) fun _ _ _ _ _ sH dd pk=>?_
   refine bc 0 rfl sH aA (h:=bQ 1 rfl sH (aP 0) (h:=r' 2 rfl sH (cz b 0 0 [aH bg]) ?_))
   obtain⟨U,b3,H⟩:=ac H
   refine dU 3 rfl dd (dc [0,1,2,3,4] [] (dp.ok (bg:=bg) b3) ?_)
   refine bc 4 rfl sH cI (h:=bc 5 rfl sH aA (h:=dU 6 rfl dd (cF 0 [ae U] (h:=(aV dd sH (aI (by kernel_rfl) (aa (aR (ad ar (h:=ad aA (h:=bp (aP 0) (h:=S' cI ?_))))))))))))
   refine ad aA (h:=bp (aP 1) (h:=bP (ae (p0.f7.length : Int)) (cO Tryz.underlying29 rfl) (h:=ad (ce rfl rfl) (h:=bA ?_))))
   rcases bE H with⟨d,H⟩|⟨d,H⟩
   ·refine aC rfl d ?_
    refine fj (dt 0 12) [0,1,3] [2,4,5] fun _ _ _ _ _ sH dd pk=>?_
    refine bc 0 rfl sH aA (h:=bQ 1 rfl sH (aP 0) (h:=bc 2 rfl sH aA (h:=bQ 3 rfl sH (aP 0) (h:=bc 4 rfl sH cI (h:=bc 5 rfl sH aA (h:=bQ 6 rfl sH (aP 1) (h:=T' 7 rfl sH ar ?_)))))))
    obtain⟨⟨O,R⟩,H⟩:=aO H
    refine bQ 8 rfl sH (bu (i:=a) Tryz.underlying29 jl rfl rfl (Src.buf (k:=2) rfl) O R) (h:=bQ 9 rfl sH (bJ (enc:=(fun x_ : Int=>[Value.int .i64 x_])) (i:=a) (j:=a.toNat * 1) (m:=0) (sz:=1) Tryz.underlying3 rfl rfl rfl rfl (Src.buf (k:=2) rfl) O R (fun _ _ h=>h) rfl) (h:=bc 10 rfl sH cI (h:=bc 11 rfl sH aA (h:=aV dd sH (eC 12 rfl (cF 1 [ae (rd p0.f7 a)] (h:=(aI (by kernel_rfl) (aF ?_)))))))))
    have h:=aN H;subst h
    exact aa ⟨({ p0 with f2:=(rd p0.f7 a) }),rfl,af,ag,ay,az,au,av,aw,ax,dZ [1,3,2,4,5,0]⟩
   refine aB rfl d (ap (aF ?_))
   have h:=aN H;subst h
   exact aa ⟨({ p0 with f2:=U }),rfl,af,ag,ay,az,au,av,aw,ax,dZ [1,2,3,4,5,0]⟩
  refine aB rfl D (ao (aR (ad (bk rfl rfl) (h:=ad aW (h:=bA ?_)))))
  obtain⟨d2,H,y⟩:=ac H
  refine bI (St [(2,aH b),(6,aL a1),(65,.bool d2)] (aK bg 34 (al p0 af ag ay az au av aw ax)::(bn p0 af ag ay az au av aw ax++[aK b 84 [aH bg]]))) ?_ ?_
  ·rcases bE H with⟨l,H⟩|⟨l,H⟩
   ·refine aC rfl l (ap ?_)
    have h:=aN H;subst h
    exact bK [0,1,2,3,4,5]
   refine aB rfl l (aR (ad (bk rfl rfl) (h:=ad aW (h:=bA ?_))))
   rcases bE H with⟨o,H⟩|⟨o,H⟩
   ·refine aC rfl o (ap ?_)
    have h:=aN H;subst h
    exact bK [0,1,2,3,4,5]
   refine aB rfl o (ak (ad (bk rfl rfl) (h:=ad aW (h:=ah ?_))))
   have h:=aN H;subst h
   exact bK [0,1,2,3,4,5]
  rintro e ds As Z
  clear H
  have H:=y
  clear y
  refine aa (SA.of_St Z fun junk=>?_)
  rcases bE H with⟨p,H⟩|⟨p,H⟩
  ·refine aD rfl p (bM 1 fun d3=>bM 2 fun d4=>bM 3 fun d5=>bM 4 fun d6=>ak (l' (cz b 0 5 [aH bg]) ?_))
   obtain⟨d0,b4,H⟩:=ac H
   refine o' (ed [0,1,2,3,4] [5] (eW.ok (bg:=bg) b4) fun a4 b7 a5 b8 a6 b9 a7 c5=>?_)
   refine ah (aF ?_)
   have h:=aN H;subst h
   exact aa ⟨d0,rfl,a4,b7,a5,b8,a6,b9,a7,c5,dZ [0,1,2,3,4,5]⟩
  refine aE rfl p (aR (ad (bk rfl rfl) (h:=ad aW (h:=bA ?_))))
  rcases bE H with⟨q,H⟩|⟨q,H⟩
  ·refine aC rfl q (ak (ad aA (h:=bp (aP 5) (h:=ad cI (h:=ad aA (h:=o' (cF 0 [ae 0] (h:=(ah (aF ?_))))))))))
   have h:=aN H;subst h
   exact aa ⟨({ p0 with f2:=0 }),rfl,af,ag,ay,az,au,av,aw,ax,dZ [0,1,2,3,4,5]⟩
  refine aB rfl q (aR (ad (bk rfl rfl) (h:=ad aW (h:=bA ?_))))
  rcases bE H with⟨s,H⟩|⟨s,H⟩
  ·refine aC rfl s (bM 1 fun d7=>bM 2 fun d8=>bM 3 fun d9=>bM 4 fun e0=>ak (l' (cz b 0 5 [aH bg]) ?_))
   obtain⟨d1,b5,H⟩:=ac H
   refine o' (ed [0,1,2,3,4] [5] (io.ok (bg:=bg) b5) fun a8 c6 a9 c7 b0 c8 b1 c9=>?_)
   refine ah (aF ?_)
   have h:=aN H;subst h
   exact aa ⟨d1,rfl,a8,c6,a9,c7,b0,c8,b1,c9,dZ [0,1,2,3,4,5]⟩
  refine aB rfl s (fm (ba (aG (aG ?_))))
  have h:=aN H;subst h
  have hb_:=dw z
  have hr_:=Option.some.inj hb_
  clear hb_
  subst hr_
  exact kR (cN bg p0 af ag ay az au av aw ax) rfl (eZ [0,1,2,3,4]) ⟨af,ag,ay,az,au,av,aw,ax,rfl,rfl⟩
 rintro e ds As ⟨s9,ht,E,K,F,L,I,M,J,N,a0⟩
 clear H
 subst ht
 replace z:=fw z
 have H:=z
 clear z
 refine aa (SA.of_St a0 fun junk=>ak (ad aA (h:=bp (aP 5) (h:=ad cI (h:=ad aA (h:=o' (cF 0 [.bool false] (h:=(ah ?_)))))))))
 have h:=aN H;subst h
 exact fG [0,1,2,3,4] ⟨E,K,F,L,I,M,J,N,rfl,rfl⟩


def jZ.f (k : Nat) (p0 : aJ) (p1 : Int) : Option (aJ):=(iK.f k p0 p1).bind (fun a=>some (a))
theorem jZ.ok {p0 : aJ} {p1 : Int} {r : aJ} (H : jZ.f k p0 p1 = some r) : dk Tryz.prog 74 #[.agg #[.pointer (some ⟨bg,0,none⟩)],.pointer (some ⟨hM,0,none⟩)] (aK bg 34 (al p0 af ag ay az au av aw ax)::(bn p0 af ag ay az au av aw ax++[aK hM 21 [aL p1]])) (fun v B=>∃ P0_0_ q0_0_ P0_1_ q0_1_ P0_2_ q0_2_ P0_3_ q0_3_,v = .tuple #[]∧B = (aK bg 34 (al r P0_0_ q0_0_ P0_1_ q0_1_ P0_2_ q0_2_ P0_3_ q0_3_)::(bn r P0_0_ q0_0_ P0_1_ q0_1_ P0_2_ q0_2_ P0_3_ q0_3_++[aK hM 21 [aL p1]]))):=by
 refine aj Tryz.func74 rfl rfl ?_
 unfold jZ.f at H
 refine aR (o' (bO (h:=fun q=>bA (bM 1 fun z=>bM 2 fun s=>bM 3 fun u=>bM 4 fun y=>ak (bp (cz q 0 6 [aH bg]) (h:=l' (aP 5) ?_))))))
 obtain⟨D,j,H⟩:=ac H
 refine o' (ed [0,1,2,3,4] [5,6] (iK.ok (bg:=bg) j) fun a l b m c o d p=>?_)
 refine ah ?_
 have h:=aN H;subst h
 exact fG [0,1,2,3,4,5] ⟨a,l,b,m,c,o,d,p,rfl,rfl⟩


def iv.f (k : Nat) (a0 : aJ) (p2000 : Int) : Option (aJ × Int):=(eF.f k a0).bind (fun a=>if (!a) = true then (some (((aJ.mk (bH.mk 0 0 ([] : (List aY))) 0 0 false (cM.mk 0 0 false false false false false false false false) 0 0 ([] : (List Int)) false false false false false false (dz.mk 0 0 false false (cM.mk 0 0 false false false false false false false false)) false (bH.mk 0 0 ([] : (List aY))) ([] : (List Int))),2))) else ((lE.f a0).bind (fun b=>(jZ.f k b p2000).bind (fun c=>some ((c,0))))))
theorem iv.ok {a0 : aJ} {p2000 : Int} {r : aJ × Int} (H : iv.f k a0 p2000 = some r) : dk Tryz.prog 62 #[.agg (al a0 af ag ay az au av aw ax).toArray,.func (.func 74) #[] #[.pointer (some ⟨bN,0,none⟩)]] (cH a0 af ag ay az au av aw ax++[aK bN 21 [aL p2000]]) (fun v B=>∃ aS aT bv bx bq br bw bz,v = .tuple #[.agg (al r.1 aS aT bv bx bq br bw bz).toArray,ae r.2]∧B = (bn r.1 aS aT bv bx bq br bw bz++[aK bN 21 [aL p2000]])):=by
 refine aj Tryz.func62 rfl rfl ?_
 unfold iv.f at H
 refine aR (o' (bO (h:=fun b=>o' (cw (h:=fun I=>ad aW (h:=eD (l' (cm 5) ?_)))))))
 obtain⟨R,F,H⟩:=ac H
 refine o' (dc [0,1,2,3] [0,1,2,3,4,5,6] (rJ.ok F) ?_)
 refine ad (bX rfl) (h:=bA ?_)
 rcases bE H with⟨a,H⟩|⟨a,H⟩
 ·refine aD rfl a (aR (bP (.agg (al cy none 0 none 0 none 0 none 0).toArray) dP (h:=o' (bi I 0 6 (al cy none 0 none 0 none 0 none 0) (h:=ad aW (h:=cD ?_))))))
  have h:=aN H;subst h
  exact ma [.cell 4 34,.tmp 5] ((Gh.nilBuf bD 55).trans ((Gh.nilBuf (Kd.int .i64) 3).trans ((Gh.nilBuf bD 55).trans ((Gh.nilBuf (Kd.int .i32) 21).trans (eZ [7,8,9,10,4]))))) ⟨none,0,none,0,none,0,none,0,rfl,rfl⟩ ⟨cV 6,cW,trivial⟩
 refine aE rfl a (ap (aa (aR (l' (cm 5) ?_))))
 obtain⟨N,E,H⟩:=ac H
 refine o' (ed [0,1,2,3] [0,1,2,3,4,5,6] (lE.ok E) fun s J u K y L z M=>?_)
 refine o' (bi b 0 9 (al N s J u K y L z M) (h:=cP (ad ar (h:=s' (.agg #[aH b]) dP ?_))))
 obtain⟨O,D,H⟩:=ac H
 refine o' (ra [9,0,1,2,3,8] [4,5,6,7,10] (jg (vs:=[.agg #[aH b]]) (cap:=[aH bN]) rfl Tryz.func74 AR rfl rfl) (jZ.ok (bg:=b) (hM:=bN) D) ?_)
 rintro _ _⟨c,m,d,o,j,p,l,q,rfl,rfl⟩
 refine cP (bp (cm 0) (h:=o' (bi I 0 10 (al O c m d o j p l q) (h:=ad aW (h:=cC ?_)))))
 have h:=aN H;subst h
 exact du [.cell 4 34,.tmp 5] [1,2,3,4,5] ⟨c,m,d,o,j,p,l,q,rfl,rfl⟩ ⟨cV 10,cW,trivial⟩


def we.f (k : Nat) (a0 : aJ) (a1 : Int) : Option (aJ × Int):=(iv.f k a0 a1).bind (fun a=>some ((a.1,a.2)))
theorem we.ok {a0 : aJ} {a1 : Int} {r : aJ × Int} (H : we.f k a0 a1 = some r) : dk Tryz.prog 28 #[.agg (al a0 af ag ay az au av aw ax).toArray,aL a1] (cH a0 af ag ay az au av aw ax) (fun v B=>∃ aS aT bv bx bq br bw bz,v = .tuple #[.agg (al r.1 aS aT bv bx bq br bw bz).toArray,ae r.2]∧B = (bn r.1 aS aT bv bx bq br bw bz)):=by
 refine aj Tryz.func28 rfl rfl ?_
 unfold we.f at H
 refine aR (o' (bO (h:=fun y=>o' (bO (h:=fun p=>o' (cw (h:=fun u=>ad aW (h:=cP (bp (cm 4) (h:=s' (.func (.func 74) #[] #[aH p]) (dJ (us:=[aH p]) rfl) ?_))))))))))
 obtain⟨s,q,H⟩:=ac H
 refine o' (ed [0,1,2,3,5] [0,1,2,3,4,6] (iv.ok (bN:=p) q) fun a j b l c m d o=>?_)
 refine ad cr (h:=ad cr (h:=o' (bi u 0 10 (al s.1 a j b l c m d o) (h:=ad aW (h:=cC ?_)))))
 have h:=aN H;subst h
 exact du [.cell 4 34,.tmp 5] [0,1,2,3] ⟨a,j,b,l,c,m,d,o,rfl,rfl⟩ ⟨cV 10,cW,trivial⟩


def kB.f (a0 : Int) (a1 : Int) (a2 : Int) : Option (Int):=lt (fk a1 (da a0 a2)) fun a=>some (a)
theorem kB.ok {a0 : Int} {a1 : Int} {a2 : Int} {r : Int} (H : kB.f a0 a1 a2 = some r) : fS Tryz.prog 127 #[ae a0,ae a1,ae a2] [] (ae r):=by
 refine aj Tryz.func127 rfl rfl ?_
 unfold kB.f at H
 refine aR (ad aW (h:=cP (ad ar (h:=ad ar (h:=ad ar (h:=bP (ae (da a0 a2)) (jK rfl rfl) (h:=s' (ae (fk a1 (da a0 a2))) (nJ rfl rfl) ?_)))))))
 obtain⟨b,a,H⟩:=bj H
 refine bP (ae b) (bo (v:=ae b) (congrArg (Value.int .i64) a.symm)) (h:=cC ?_)
 have h:=aN H;subst h
 exact dX [] ⟨rfl,rfl⟩


def lX.f (a0 : Int) : Option (Int):=(kB.f a0 (-1024) 1024).bind (fun a=>some (a))
theorem lX.ok {a0 : Int} {r : Int} (H : lX.f a0 = some r) : fS Tryz.prog 128 #[ae a0] [] (ae r):=by
 refine aj Tryz.func128 rfl rfl ?_
 unfold lX.f at H
 refine aR (ad aW (h:=cP (S' ar ?_)))
 obtain⟨b,a,H⟩:=ac H
 refine o' (dc [] [] (kB.ok a) ?_)
 refine ad aW (h:=cC ?_)
 have h:=aN H;subst h
 exact dX [] ⟨rfl,rfl⟩


def iL.f (p0 : aJ) (a1 : Int) (a2 : Int) : Option (aJ):=lt (i64.wrap (p0.f0.f1 - 1)) fun m=>(if p0.f1 ≤ p0.f6 then (some p0.f6) else (some m) : Option (Int)).bind (fun j=>(if p0.f1 ≥ p0.f5 then (some p0.f5) else (some 0) : Option (Int)).bind (fun l=>(lX.f a1).bind (fun b=>(kB.f (i64.wrap (p0.f1 + b)) l j).bind (fun a=>(lX.f a2).bind (fun c=>(dp.f ({ p0 with f1:=a })).bind (fun d=>(kB.f (i64.wrap (p0.f2 + c)) 0 d).bind (fun h=>some (({ p0 with f1:=a,f2:=h,f3:=false })))))))))
theorem iL.ok {p0 : aJ} {a1 : Int} {a2 : Int} {r : aJ} (H : iL.f p0 a1 a2 = some r) : dk Tryz.prog 77 #[.agg #[.pointer (some ⟨bg,0,none⟩)],ae a1,ae a2] (cN bg p0 af ag ay az au av aw ax) (fun v B=>∃ P0_0_ q0_0_ P0_1_ q0_1_ P0_2_ q0_2_ P0_3_ q0_3_,v = .tuple #[]∧B = (cN bg r P0_0_ q0_0_ P0_1_ q0_1_ P0_2_ q0_2_ P0_3_ q0_3_)):=by
 refine aj Tryz.func77 rfl rfl ?_
 unfold iL.f at H
 refine aR (o' (bO (h:=fun a=>bA (ao ?_))))
 refine fj (dt 0 9) [0,5] (dt 1 4) fun _ _ _ _ _ sH dd pk=>?_
 refine bc 0 rfl sH aA (h:=bQ 1 rfl sH (aP 1) (h:=bc 2 rfl sH cI (h:=bc 3 rfl sH aA (h:=bc 4 rfl sH aA (h:=bQ 5 rfl sH (aP 0) (h:=bc 6 rfl sH (cT rfl rfl) (h:=T' 7 rfl sH aW ?_)))))))
 obtain⟨u,I,H⟩:=bj H
 refine kV (ae u) 8 rfl sH (bo (v:=ae u) (congrArg (Value.int .i64) I.symm)) (h:=aV dd sH (aI (by kernel_rfl) (aa (ao (ao ?_)))))
 refine fj (dt 0 11) [0,1] (dt 2 4) fun _ _ _ _ _ sH dd pk=>?_
 refine bc 0 rfl sH aA (h:=bQ 1 rfl sH (aP 1) (h:=bc 2 rfl sH cI (h:=bc 3 rfl sH aA (h:=bQ 4 rfl sH (aP 0) (h:=bc 5 rfl sH aA (h:=bQ 6 rfl sH (aP 1) (h:=bc 7 rfl sH cI (h:=bc 8 rfl sH aA (h:=r' 9 rfl sH (aP 0) ?_)))))))))
 refine bc 10 rfl sH (gG rfl rfl) (h:=aV dd sH (aI (by kernel_rfl) (aa ?_)))
 obtain⟨p,H,j⟩:=ac H
 refine bI (St [(1,ae a1),(2,ae a2),(3,aH a),(6,ae 0),(7,ae p)] (aK bg 34 (al p0 af ag ay az au av aw ax)::(bn p0 af ag ay az au av aw ax++[aK a 84 [aH bg]]))) ?_ ?_
 ·rcases bE H with⟨b,H⟩|⟨b,H⟩
  ·refine aC rfl b (ak (ad aA (h:=bp (aP 1) (h:=ad cI (h:=ad aA (h:=bp (aP 0) (h:=ad aW (h:=ah ?_))))))))
   have h:=aN H;subst h
   exact bK [0,2,3,4,5,1]
  refine aB rfl b (ap ?_)
  have h:=aN H;subst h
  exact bK [0,2,3,4,5,1]
 rintro e ds As q
 clear H
 have H:=j
 clear j
 refine aa (SA.of_St q fun junk=>ao (ao ?_))
 refine fj (dt 0 11) [0,5] (dt 1 4) fun _ _ _ _ _ sH dd pk=>?_
 refine bc 0 rfl sH aA (h:=bQ 1 rfl sH (aP 1) (h:=bc 2 rfl sH cI (h:=bc 3 rfl sH aA (h:=bQ 4 rfl sH (aP 0) (h:=bc 5 rfl sH aA (h:=bQ 6 rfl sH (aP 1) (h:=bc 7 rfl sH cI (h:=bc 8 rfl sH aA (h:=r' 9 rfl sH (aP 0) ?_)))))))))
 refine bc 10 rfl sH (dT rfl rfl) (h:=aV dd sH (aI (by kernel_rfl) (aa ?_)))
 obtain⟨K,H,m⟩:=ac H
 refine bI (St [(1,ae a1),(2,ae a2),(3,aH a),(6,ae K),(7,ae p)] (aK bg 34 (al p0 af ag ay az au av aw ax)::(bn p0 af ag ay az au av aw ax++[aK a 84 [aH bg]]))) ?_ ?_
 ·rcases bE H with⟨c,H⟩|⟨c,H⟩
  ·refine aC rfl c (ak (ad aA (h:=bp (aP 1) (h:=ad cI (h:=ad aA (h:=bp (aP 0) (h:=ad aW (h:=ah ?_))))))))
   have h:=aN H;subst h
   exact bK [0,2,3,4,5,1]
  refine aB rfl c (ap ?_)
  have h:=aN H;subst h
  exact bK [0,2,3,4,5,1]
 rintro e ds As s
 clear H
 have H:=m
 clear m
 refine aa (SA.of_St s fun junk=>ao ?_)
 refine fj (0::1::2::3::4::5::6::7::9::10::11::13::14::[]) [0,5] (dt 1 4) fun _ _ _ _ _ sH dd pk=>?_
 refine bc 0 rfl sH aA (h:=bQ 1 rfl sH (aP 1) (h:=bc 2 rfl sH aA (h:=bQ 3 rfl sH (aP 1) (h:=bc 4 rfl sH cI (h:=bc 5 rfl sH aA (h:=bQ 6 rfl sH (aP 0) (h:=bc 7 rfl sH ar (h:=bc 10 rfl sH ar (h:=T' 11 rfl sH ar ?_)))))))))
 obtain⟨R,y,H⟩:=ac H
 refine dU 8 rfl dd (dc [] [0,1,2,3] (lX.ok y) ?_)
 refine T' 9 rfl sH (bW rfl rfl) ?_
 obtain⟨d,z,H⟩:=ac H
 refine dU 12 rfl dd (dc [] [0,1,2,3] (kB.ok z) ?_)
 refine bc 13 rfl sH cI (h:=bc 14 rfl sH aA (h:=aV dd sH (eC 15 rfl (cF 0 [ae d] (h:=(aI (by kernel_rfl) (aa (ao (bM 2 fun L=>bM 3 fun M=>bM 4 fun N=>bM 5 fun O=>?_)))))))))
 refine fN [0,1,2,3,4,5,6,7,9,10,13,14] (List.toArray ([]::[0]::[]::[2]::[2,3]::[2,3,4]::(dt 2 4)::[]::[7]::(dt 2 6)::[]::[7,10]::[2,3,4,5,6,7,9,10]::[0,1,2,3,4,5,6,7,9,10]::[0,1,2,3,4,5,6,7,9,10,13]::[0,1,2,3,4,5,6,7,9,10,13,14]::[])) [aK bg 34 (al ({ p0 with f1:=d }) af ag ay az au av aw ax),aK a 84 [aH bg]] jw (bU.thn bU.body) fun Y U Z pk=>?_
 refine eA (aH a) 0 [0,1] rfl (kv a 0 0) (h:=gZ 1 [0,1] rfl (ij a 0 1) (h:=eA (aH a) 2 [0,1] rfl (kv a 0 0) (h:=gZ 3 [0,1] rfl (ij a 0 1) (h:=eA (aH bg) 4 [0,1] rfl cI (h:=eA (sM bg 4) 5 [0,1] rfl (kv bg 0 4) (h:=gZ 6 [0,1] rfl (ij bg 4 0) (h:=eA (ae a2) 7 [0,1] rfl fO (h:=sI 10 [0,1] rfl (cz a 0 1 [aH bg]) ?_))))))))
 obtain⟨J,D,H⟩:=ac H
 refine eX 8 (by kernel_rfl) rfl (.no rfl) (dc [] [0,1,2,3,4,5] (lX.ok D) ?_)
 refine ⟨fun _=>⟨[0,1],rfl,rfl⟩,?_⟩
 refine vS (ae (i64.wrap (p0.f2 + J))) 9 [0,1] rfl (bW rfl rfl) ?_
 obtain⟨S,E,H⟩:=ac H
 refine eX 11 (by kernel_rfl) rfl (.no rfl) (dc [0,2,3,4,5] [1] (dp.ok (bg:=bg) E) ?_)
 refine ⟨fun _=>⟨[0,5],rfl,rfl⟩,?_⟩
 obtain⟨o,F,H⟩:=ac H
 refine eX 12 (by kernel_rfl) rfl (.no rfl) (dc [] [0,1,2,3,4,5] (kB.ok F) ?_)
 refine ⟨fun _=>⟨[0,5],rfl,rfl⟩,?_⟩
 refine eA (aH bg) 13 [0,5] rfl cI (h:=eA (sM bg 4) 14 [0,5] rfl (kv bg 0 4) (h:=eX 15 (by kernel_rfl) rfl (.no rfl) (cF 0 [ae o] (h:=?_))))
 refine ⟨fun h_=>absurd h_ (by decide),?_⟩
 refine aI (by kernel_rfl) (aa (SA.of_St (l:=[(3,aH a)]) (B:=(aK bg 34 (al ({ p0 with f1:=d,f2:=o }) af ag ay az au av aw ax)::(bn p0 af ag ay az au av aw ax++[aK a 84 [aH bg]]))) (St.mk1 (cB rfl dS) (Gh.sel [0,1,2,3,4,5] (by kernel_rfl) (by kernel_rfl))) fun junk=>ak (ad aA (h:=bp (aP 5) (h:=ad cI (h:=ad aA (h:=o' (cF 0 [.bool false] (h:=(ah ?_))))))))))
 have h:=aN H;subst h
 exact fG [0,1,2,3,4] ⟨af,ag,ay,az,au,av,aw,ax,rfl,rfl⟩


def ka.f (p0 : aJ) (p1 : Int) (p2 : Int) : Option (aJ):=(iL.f p0 p1 p2).bind (fun a=>some (a))
theorem ka.ok {p0 : aJ} {p1 : Int} {p2 : Int} {r : aJ} (H : ka.f p0 p1 p2 = some r) : dk Tryz.prog 76 #[.agg #[.pointer (some ⟨bg,0,none⟩)],.pointer (some ⟨hM,0,none⟩),.pointer (some ⟨om,0,none⟩)] (aK bg 34 (al p0 af ag ay az au av aw ax)::(bn p0 af ag ay az au av aw ax++[aK hM 3 [ae p1],aK om 3 [ae p2]])) (fun v B=>∃ P0_0_ q0_0_ P0_1_ q0_1_ P0_2_ q0_2_ P0_3_ q0_3_,v = .tuple #[]∧B = (aK bg 34 (al r P0_0_ q0_0_ P0_1_ q0_1_ P0_2_ q0_2_ P0_3_ q0_3_)::(bn r P0_0_ q0_0_ P0_1_ q0_1_ P0_2_ q0_2_ P0_3_ q0_3_++[aK hM 3 [ae p1],aK om 3 [ae p2]]))):=by
 refine aj Tryz.func76 rfl rfl ?_
 unfold ka.f at H
 refine aR (o' (bO (h:=fun q=>bA (bM 1 fun s=>bM 2 fun u=>bM 3 fun y=>bM 4 fun z=>ak (bp (cz q 0 7 [aH bg]) (h:=l' (aP 5) ?_))))))
 refine l' (aP 6) ?_
 obtain⟨D,j,H⟩:=ac H
 refine o' (ed [0,1,2,3,4] [5,6,7] (iL.ok (bg:=bg) j) fun a l b m c o d p=>?_)
 refine ah ?_
 have h:=aN H;subst h
 exact fG [0,1,2,3,4,5,6] ⟨a,l,b,m,c,o,d,p,rfl,rfl⟩


def gS.f (k : Nat) (a0 : aJ) (p2000 : Int) (p2001 : Int) : Option (aJ × Int):=(eF.f k a0).bind (fun a=>if (!a) = true then (some (((aJ.mk (bH.mk 0 0 ([] : (List aY))) 0 0 false (cM.mk 0 0 false false false false false false false false) 0 0 ([] : (List Int)) false false false false false false (dz.mk 0 0 false false (cM.mk 0 0 false false false false false false false false)) false (bH.mk 0 0 ([] : (List aY))) ([] : (List Int))),2))) else ((lE.f a0).bind (fun b=>(ka.f b p2000 p2001).bind (fun oq=>some ((oq,0))))))
theorem gS.ok {a0 : aJ} {p2000 : Int} {p2001 : Int} {r : aJ × Int} (H : gS.f k a0 p2000 p2001 = some r) : dk Tryz.prog 62 #[.agg (al a0 af ag ay az au av aw ax).toArray,.func (.func 76) #[] #[.pointer (some ⟨bN,0,none⟩),.pointer (some ⟨dA,0,none⟩)]] (cH a0 af ag ay az au av aw ax++[aK bN 3 [ae p2000],aK dA 3 [ae p2001]]) (fun v B=>∃ aS aT bv bx bq br bw bz,v = .tuple #[.agg (al r.1 aS aT bv bx bq br bw bz).toArray,ae r.2]∧B = (bn r.1 aS aT bv bx bq br bw bz++[aK bN 3 [ae p2000],aK dA 3 [ae p2001]])):=by
 refine aj Tryz.func62 rfl rfl ?_
 unfold gS.f at H
 refine aR (o' (bO (h:=fun b=>o' (cw (h:=fun I=>ad aW (h:=eD (l' (cm 6) ?_)))))))
 obtain⟨O,F,H⟩:=ac H
 refine o' (dc [0,1,2,3] [0,1,2,3,4,5,6,7] (rJ.ok F) ?_)
 refine ad (bX rfl) (h:=bA ?_)
 rcases bE H with⟨a,H⟩|⟨a,H⟩
 ·refine aD rfl a (aR (bP (.agg (al cy none 0 none 0 none 0 none 0).toArray) dP (h:=o' (bi I 0 7 (al cy none 0 none 0 none 0 none 0) (h:=ad aW (h:=cD ?_))))))
  have h:=aN H;subst h
  exact ma [.cell 4 34,.tmp 5] ((Gh.nilBuf bD 55).trans ((Gh.nilBuf (Kd.int .i64) 3).trans ((Gh.nilBuf bD 55).trans ((Gh.nilBuf (Kd.int .i32) 21).trans (eZ [8,9,10,11,4,5]))))) ⟨none,0,none,0,none,0,none,0,rfl,rfl⟩ ⟨cV 7,cW,trivial⟩
 refine aE rfl a (ap (aa (aR (l' (cm 6) ?_))))
 obtain⟨N,E,H⟩:=ac H
 refine o' (ed [0,1,2,3] [0,1,2,3,4,5,6,7] (lE.ok E) fun s J u K y L z M=>?_)
 refine o' (bi b 0 10 (al N s J u K y L z M) (h:=cP (ad ar (h:=s' (.agg #[aH b]) dP ?_))))
 obtain⟨oq,D,H⟩:=ac H
 refine o' (ra [10,0,1,2,3,8,9] [4,5,6,7,11] (jg (vs:=[.agg #[aH b]]) (cap:=[aH bN,aH dA]) rfl Tryz.func76 AS rfl rfl) (ka.ok (bg:=b) (hM:=bN) (om:=dA) D) ?_)
 rintro _ _⟨c,m,d,o,j,p,l,q,rfl,rfl⟩
 refine cP (bp (cm 0) (h:=o' (bi I 0 11 (al oq c m d o j p l q) (h:=ad aW (h:=cC ?_)))))
 have h:=aN H;subst h
 exact du [.cell 4 34,.tmp 5] [1,2,3,4,5,6] ⟨c,m,d,o,j,p,l,q,rfl,rfl⟩ ⟨cV 11,cW,trivial⟩


def wg.f (k : Nat) (a0 : aJ) (a1 : Int) (a2 : Int) : Option (aJ × Int):=(gS.f k a0 a1 a2).bind (fun a=>some ((a.1,a.2)))
theorem wg.ok {a0 : aJ} {a1 : Int} {a2 : Int} {r : aJ × Int} (H : wg.f k a0 a1 a2 = some r) : dk Tryz.prog 29 #[.agg (al a0 af ag ay az au av aw ax).toArray,ae a1,ae a2] (cH a0 af ag ay az au av aw ax) (fun v B=>∃ aS aT bv bx bq br bw bz,v = .tuple #[.agg (al r.1 aS aT bv bx bq br bw bz).toArray,ae r.2]∧B = (bn r.1 aS aT bv bx bq br bw bz)):=by
 refine aj Tryz.func29 rfl rfl ?_
 unfold wg.f at H
 refine aR (o' (bO (h:=fun z=>o' (bO (h:=fun p=>o' (bO (h:=fun q=>o' (cw (h:=fun u=>ad aW (h:=cP (bp (cm 4) (h:=s' (.func (.func 76) #[] #[aH p,aH q]) (dJ (us:=[aH p,aH q]) rfl) ?_))))))))))))
 obtain⟨y,s,H⟩:=ac H
 refine o' (ed [0,1,2,3,5,6] [0,1,2,3,4,7] (gS.ok (bN:=p) (dA:=q) s) fun a j b l c m d o=>?_)
 refine ad cr (h:=ad cr (h:=o' (bi u 0 11 (al y.1 a j b l c m d o) (h:=ad aW (h:=cC ?_)))))
 have h:=aN H;subst h
 exact du [.cell 6 34,.tmp 7] [0,1,2,3] ⟨a,j,b,l,c,m,d,o,rfl,rfl⟩ ⟨cV 11,cW,trivial⟩


def fB.f (p0 : aJ) (a1 : Int) (a2 : Int) : Option (aJ):=lt (i64.wrap (p0.f0.f1 - 1)) fun j=>(if p0.f9 = true then (some (p0.f5,p0.f6)) else (some (0,j)) : Option (Int × Int)).bind (fun a=>(lX.f a1).bind (fun c=>(kB.f (i64.wrap (a.1 + c)) a.1 a.2).bind (fun b=>(dp.f ({ p0 with f1:=b })).bind (fun d=>(kB.f a2 0 d).bind (fun h=>some (({ p0 with f1:=b,f2:=h,f3:=false })))))))
theorem fB.ok {p0 : aJ} {a1 : Int} {a2 : Int} {r : aJ} (H : fB.f p0 a1 a2 = some r) : dk Tryz.prog 79 #[.agg #[.pointer (some ⟨bg,0,none⟩)],ae a1,ae a2] (cN bg p0 af ag ay az au av aw ax) (fun v B=>∃ P0_0_ q0_0_ P0_1_ q0_1_ P0_2_ q0_2_ P0_3_ q0_3_,v = .tuple #[]∧B = (cN bg r P0_0_ q0_0_ P0_1_ q0_1_ P0_2_ q0_2_ P0_3_ q0_3_)):=by
 refine aj Tryz.func79 rfl rfl ?_
 unfold fB.f at H
 refine aR (o' (bO (h:=fun y=>bA (ao ?_))))
 refine fj (dt 0 9) [0,5] (dt 1 4) fun _ _ _ _ _ sH dd pk=>?_
 refine bc 0 rfl sH aA (h:=bQ 1 rfl sH (aP 1) (h:=bc 2 rfl sH cI (h:=bc 3 rfl sH aA (h:=bc 4 rfl sH aA (h:=bQ 5 rfl sH (aP 0) (h:=bc 6 rfl sH (cT rfl rfl) (h:=T' 7 rfl sH aW ?_)))))))
 obtain⟨d,q,H⟩:=bj H
 refine kV (ae d) 8 rfl sH (bo (v:=ae d) (congrArg (Value.int .i64) q.symm)) (h:=aV dd sH (aI (by kernel_rfl) (aa (ao (aR (ad aA (h:=bp (aP 1) (h:=ad cI (h:=ad aA (h:=bp (aP 0) (h:=bA ?_)))))))))))
 obtain⟨j,H,b⟩:=ac H
 refine bI (St [(1,ae a1),(2,ae a2),(3,aH y),(6,ae j.1),(7,ae j.2)] (aK bg 34 (al p0 af ag ay az au av aw ax)::(bn p0 af ag ay az au av aw ax++[aK y 84 [aH bg]]))) ?_ ?_
 ·rcases bE H with⟨a,H⟩|⟨a,H⟩
  ·refine aD rfl a ?_
   refine fj (dt 0 12) [0,1] (dt 2 4) fun _ _ _ _ _ sH dd pk=>?_
   refine bc 0 rfl sH aA (h:=bQ 1 rfl sH (aP 1) (h:=bc 2 rfl sH cI (h:=bc 3 rfl sH aA (h:=bQ 4 rfl sH (aP 0) (h:=bc 5 rfl sH aA (h:=bQ 6 rfl sH (aP 1) (h:=bc 7 rfl sH cI (h:=bc 8 rfl sH aA (h:=r' 9 rfl sH (aP 0) ?_)))))))))
   refine bc 10 rfl sH aW (h:=bc 11 rfl sH aW (h:=aV dd sH (aI (by kernel_rfl) ?_)))
   have h:=aN H;subst h
   exact bK [0,2,3,4,5,1]
  refine aE rfl a (ap ?_)
  have h:=aN H;subst h
  exact bK [0,2,3,4,5,1]
 rintro e ds As c
 clear H
 have H:=b
 clear b
 refine aa (SA.of_St c fun junk=>ao ?_)
 refine fj [0,1,2,3,5,6,7,9,10] [5] (dt 0 5) fun _ _ _ _ _ sH dd pk=>?_
 refine bc 0 rfl sH aA (h:=bQ 1 rfl sH (aP 0) (h:=bc 2 rfl sH ar (h:=bc 3 rfl sH ar (h:=bc 6 rfl sH ar (h:=T' 7 rfl sH ar ?_)))))
 obtain⟨I,l,H⟩:=ac H
 refine dU 4 rfl dd (dc [] [0,1,2,3,4] (lX.ok l) ?_)
 refine T' 5 rfl sH (bW rfl rfl) ?_
 obtain⟨s,m,H⟩:=ac H
 refine dU 8 rfl dd (dc [] [0,1,2,3,4] (kB.ok m) ?_)
 refine bc 9 rfl sH cI (h:=bc 10 rfl sH aA (h:=dU 11 rfl dd (cF 0 [ae s] (h:=(aV dd sH (aI (by kernel_rfl) (aa (ao (bM 2 fun z=>bM 3 fun D=>bM 4 fun E=>bM 5 fun F=>?_)))))))))
 refine fj [0,1,2,3,6,7] [0] (dt 1 5) fun _ _ _ _ _ sH dd pk=>?_
 refine bc 0 rfl sH aA (h:=bQ 1 rfl sH (aP 0) (h:=bc 2 rfl sH ar (h:=r' 3 rfl sH (cz y 0 0 [aH bg]) ?_)))
 obtain⟨J,o,H⟩:=ac H
 refine dU 4 rfl dd (dc [0,1,2,3,4] [] (dp.ok (bg:=bg) o) ?_)
 obtain⟨u,p,H⟩:=ac H
 refine dU 5 rfl dd (dc [] [0,1,2,3,4] (kB.ok p) ?_)
 refine bc 6 rfl sH cI (h:=bc 7 rfl sH aA (h:=dU 8 rfl dd (cF 0 [ae u] (h:=(aV dd sH (aI (by kernel_rfl) (aa (ak (ad aA (h:=bp (aP 0) (h:=ad cI (h:=S' aA ?_))))))))))))
 refine o' (cF 1 [.bool false] (h:=(ah ?_)))
 have h:=aN H;subst h
 exact fG [1,2,3,4,5] ⟨af,ag,ay,az,au,av,aw,ax,rfl,rfl⟩


def kb.f (p0 : aJ) (p1 : Int) (p2 : Int) : Option (aJ):=(fB.f p0 p1 p2).bind (fun a=>some (a))
theorem kb.ok {p0 : aJ} {p1 : Int} {p2 : Int} {r : aJ} (H : kb.f p0 p1 p2 = some r) : dk Tryz.prog 78 #[.agg #[.pointer (some ⟨bg,0,none⟩)],.pointer (some ⟨hM,0,none⟩),.pointer (some ⟨om,0,none⟩)] (aK bg 34 (al p0 af ag ay az au av aw ax)::(bn p0 af ag ay az au av aw ax++[aK hM 3 [ae p1],aK om 3 [ae p2]])) (fun v B=>∃ P0_0_ q0_0_ P0_1_ q0_1_ P0_2_ q0_2_ P0_3_ q0_3_,v = .tuple #[]∧B = (aK bg 34 (al r P0_0_ q0_0_ P0_1_ q0_1_ P0_2_ q0_2_ P0_3_ q0_3_)::(bn r P0_0_ q0_0_ P0_1_ q0_1_ P0_2_ q0_2_ P0_3_ q0_3_++[aK hM 3 [ae p1],aK om 3 [ae p2]]))):=by
 refine aj Tryz.func78 rfl rfl ?_
 unfold kb.f at H
 refine aR (o' (bO (h:=fun q=>bA (bM 1 fun s=>bM 2 fun u=>bM 3 fun y=>bM 4 fun z=>ak (bp (cz q 0 7 [aH bg]) (h:=l' (aP 5) ?_))))))
 refine l' (aP 6) ?_
 obtain⟨D,j,H⟩:=ac H
 refine o' (ed [0,1,2,3,4] [5,6,7] (fB.ok (bg:=bg) j) fun a l b m c o d p=>?_)
 refine ah ?_
 have h:=aN H;subst h
 exact fG [0,1,2,3,4,5,6] ⟨a,l,b,m,c,o,d,p,rfl,rfl⟩


def gT.f (k : Nat) (a0 : aJ) (p2000 : Int) (p2001 : Int) : Option (aJ × Int):=(eF.f k a0).bind (fun a=>if (!a) = true then (some (((aJ.mk (bH.mk 0 0 ([] : (List aY))) 0 0 false (cM.mk 0 0 false false false false false false false false) 0 0 ([] : (List Int)) false false false false false false (dz.mk 0 0 false false (cM.mk 0 0 false false false false false false false false)) false (bH.mk 0 0 ([] : (List aY))) ([] : (List Int))),2))) else ((lE.f a0).bind (fun b=>(kb.f b p2000 p2001).bind (fun oq=>some ((oq,0))))))
theorem gT.ok {a0 : aJ} {p2000 : Int} {p2001 : Int} {r : aJ × Int} (H : gT.f k a0 p2000 p2001 = some r) : dk Tryz.prog 62 #[.agg (al a0 af ag ay az au av aw ax).toArray,.func (.func 78) #[] #[.pointer (some ⟨bN,0,none⟩),.pointer (some ⟨dA,0,none⟩)]] (cH a0 af ag ay az au av aw ax++[aK bN 3 [ae p2000],aK dA 3 [ae p2001]]) (fun v B=>∃ aS aT bv bx bq br bw bz,v = .tuple #[.agg (al r.1 aS aT bv bx bq br bw bz).toArray,ae r.2]∧B = (bn r.1 aS aT bv bx bq br bw bz++[aK bN 3 [ae p2000],aK dA 3 [ae p2001]])):=by
 refine aj Tryz.func62 rfl rfl ?_
 unfold gT.f at H
 refine aR (o' (bO (h:=fun b=>o' (cw (h:=fun I=>ad aW (h:=eD (l' (cm 6) ?_)))))))
 obtain⟨O,F,H⟩:=ac H
 refine o' (dc [0,1,2,3] [0,1,2,3,4,5,6,7] (rJ.ok F) ?_)
 refine ad (bX rfl) (h:=bA ?_)
 rcases bE H with⟨a,H⟩|⟨a,H⟩
 ·refine aD rfl a (aR (bP (.agg (al cy none 0 none 0 none 0 none 0).toArray) dP (h:=o' (bi I 0 7 (al cy none 0 none 0 none 0 none 0) (h:=ad aW (h:=cD ?_))))))
  have h:=aN H;subst h
  exact ma [.cell 4 34,.tmp 5] ((Gh.nilBuf bD 55).trans ((Gh.nilBuf (Kd.int .i64) 3).trans ((Gh.nilBuf bD 55).trans ((Gh.nilBuf (Kd.int .i32) 21).trans (eZ [8,9,10,11,4,5]))))) ⟨none,0,none,0,none,0,none,0,rfl,rfl⟩ ⟨cV 7,cW,trivial⟩
 refine aE rfl a (ap (aa (aR (l' (cm 6) ?_))))
 obtain⟨N,E,H⟩:=ac H
 refine o' (ed [0,1,2,3] [0,1,2,3,4,5,6,7] (lE.ok E) fun s J u K y L z M=>?_)
 refine o' (bi b 0 10 (al N s J u K y L z M) (h:=cP (ad ar (h:=s' (.agg #[aH b]) dP ?_))))
 obtain⟨oq,D,H⟩:=ac H
 refine o' (ra [10,0,1,2,3,8,9] [4,5,6,7,11] (jg (vs:=[.agg #[aH b]]) (cap:=[aH bN,aH dA]) rfl Tryz.func78 AT rfl rfl) (kb.ok (bg:=b) (hM:=bN) (om:=dA) D) ?_)
 rintro _ _⟨c,m,d,o,j,p,l,q,rfl,rfl⟩
 refine cP (bp (cm 0) (h:=o' (bi I 0 11 (al oq c m d o j p l q) (h:=ad aW (h:=cC ?_)))))
 have h:=aN H;subst h
 exact du [.cell 4 34,.tmp 5] [1,2,3,4,5,6] ⟨c,m,d,o,j,p,l,q,rfl,rfl⟩ ⟨cV 11,cW,trivial⟩


def wh.f (k : Nat) (a0 : aJ) (a1 : Int) (a2 : Int) : Option (aJ × Int):=(gT.f k a0 a1 a2).bind (fun a=>some ((a.1,a.2)))
theorem wh.ok {a0 : aJ} {a1 : Int} {a2 : Int} {r : aJ × Int} (H : wh.f k a0 a1 a2 = some r) : dk Tryz.prog 30 #[.agg (al a0 af ag ay az au av aw ax).toArray,ae a1,ae a2] (cH a0 af ag ay az au av aw ax) (fun v B=>∃ aS aT bv bx bq br bw bz,v = .tuple #[.agg (al r.1 aS aT bv bx bq br bw bz).toArray,ae r.2]∧B = (bn r.1 aS aT bv bx bq br bw bz)):=by
 refine aj Tryz.func30 rfl rfl ?_
 unfold wh.f at H
 refine aR (o' (bO (h:=fun z=>o' (bO (h:=fun p=>o' (bO (h:=fun q=>o' (cw (h:=fun u=>ad aW (h:=cP (bp (cm 4) (h:=s' (.func (.func 78) #[] #[aH p,aH q]) (dJ (us:=[aH p,aH q]) rfl) ?_))))))))))))
 obtain⟨y,s,H⟩:=ac H
 refine o' (ed [0,1,2,3,5,6] [0,1,2,3,4,7] (gT.ok (bN:=p) (dA:=q) s) fun a j b l c m d o=>?_)
 refine ad cr (h:=ad cr (h:=o' (bi u 0 11 (al y.1 a j b l c m d o) (h:=ad aW (h:=cC ?_)))))
 have h:=aN H;subst h
 exact du [.cell 6 34,.tmp 7] [0,1,2,3] ⟨a,j,b,l,c,m,d,o,rfl,rfl⟩ ⟨cV 11,cW,trivial⟩


def jb.f (k : Nat) (l0 : (List aY)) (o0 : Int) (n0 : Int) (a1 : Int) (a2 : Int) (a3 : cM) : Option ((List aY)):=if 0 ≤ o0∧0 ≤ n0∧o0 + n0 ≤ (l0.length : Int) then (if 0 ≤ a1∧a1 ≤ a2∧a2 ≤ n0 then ((eY.f k l0 (o0 + a1) (a2 - a1) a3).bind (fun a=>if a.length = l0.length then ((ei.f k a o0 n0).bind (fun b=>if b.length = a.length then (some (b)) else none)) else none)) else none) else none
theorem jb.ok {l0 : (List aY)} {o0 : Int} {n0 : Int} {a1 : Int} {a2 : Int} {a3 : cM} {A0 V0 : Option Addr} {c0 v0 : Nat} (hw0 : eu A0 V0 15 o0 n0 v0) {r : (List aY)} (H : jb.f k l0 o0 n0 a1 a2 a3 = some r) : dk Tryz.prog 129 #[.slice V0 n0.toNat v0,ae a1,ae a2,.agg (bF a3).toArray] [Buf bD 55 A0 c0 l0] (fun v B=>v = .tuple #[]∧B = [Buf bD 55 A0 c0 r]):=by
 refine aj Tryz.func129 rfl rfl ?_
 unfold jb.f at H
 obtain⟨⟨z,D,E⟩,H⟩:=aO H
 have hcv_hw0:=hw0.cap
 refine aR (o' (bO (h:=fun K=>bA (ao (bM 0 fun J=>?_)))))
 refine fj (dt 0 5) [1] [0] fun _ _ _ _ _ sH dd pk=>?_
 refine bc 0 rfl sH ar (h:=bc 1 rfl sH ar (h:=T' 2 rfl sH ar ?_))
 obtain⟨⟨d,j,o⟩,H⟩:=aO H
 refine t' (.slice (dj V0 a1 ((v0 : Nat) : Int) 15) (a2 - a1).toNat (((v0 : Nat) : Int).toNat - a1.toNat)) 3 rfl sH (dq (l:=o0) (m:=n0) (a:=a1) (b:=a2) (q:=((v0 : Nat) : Int)) hw0 Tryz.underlying116 cl rfl rfl rfl rfl (.inr ⟨_,rfl⟩) (.inr ⟨_,rfl⟩) (.inl ⟨rfl,rfl⟩) d j o) ?_
 have p : eu A0 (dj V0 a1 ((v0 : Nat) : Int) 15) 15 (o0 + a1) (a2 - a1) (((v0 : Nat) : Int).toNat - a1.toNat):=eu.sub hw0 d j o (.inl rfl) (Int.le_refl _)
 refine r' 4 rfl sH (cm 0) ?_
 obtain⟨F,u,H⟩:=ac H
 obtain⟨c,H⟩:=aO H
 refine dU 5 rfl dd (dc [0] [] (eY.ok (o0:=o0 + a1) (n0:=a2 - a1) (A0:=A0) (c0:=c0) (V0:=dj V0 a1 ((v0 : Nat) : Int) 15) (v0:=((v0 : Nat) : Int).toNat - a1.toNat) (hw0:=p) u) ?_)
 try unfold bF
 try rewrite [← c]
 try unfold bF at sH
 try rewrite [← c] at sH
 refine aV dd sH (aI (by kernel_rfl) (aa (ak (S' ar ?_))))
 obtain⟨I,y,H⟩:=ac H
 obtain⟨s,H⟩:=aO H
 refine o' (dc [1] [0] (ei.ok (o0:=o0) (n0:=n0) (A0:=A0) (c0:=c0) (V0:=V0) (v0:=v0) (hw0:=hw0) y) ?_)
 try unfold bF
 try rewrite [← s]
 refine ah ?_
 have h:=aN H;subst h
 exact fG [0] ⟨rfl,rfl⟩


def cX.l0 (p0 : aJ) (a2 : Int) : Nat → Int → (List aY) → Option ((List aY))
  | 0,_,_=>none
  | k + 1,c,a=>if a.length = p0.f0.f2.length then (if c < a2 then ((eb.f ({ p0 with f0:=(bH.mk p0.f0.f0 p0.f0.f1 a) }) c).bind (fun b=>if (0 ≤ b.1∧0 ≤ b.2∧b.1 + b.2 ≤ (a.length : Int)) then ((jb.f k a b.1 b.2 0 p0.f0.f0 p0.f4).bind (fun d=>if d.length = a.length then (lt (i64.wrap (c + 1)) fun h=>cX.l0 p0 a2 k h d) else none)) else none)) else (some a)) else none
def cX.f (k : Nat) (p0 : aJ) (a1 : Int) (a2 : Int) : Option (aJ):=(cX.l0 p0 a2 k a1 p0.f0.f2 : Option ((List aY))).bind (fun a=>if a.length = p0.f0.f2.length then (some (({ p0 with f0:=(bH.mk p0.f0.f0 p0.f0.f1 a) }))) else none)
theorem cX.ok {p0 : aJ} {a1 : Int} {a2 : Int} {r : aJ} (H : cX.f k p0 a1 a2 = some r) : dk Tryz.prog 130 #[.agg #[.pointer (some ⟨bg,0,none⟩)],ae a1,ae a2] (cN bg p0 af ag ay az au av aw ax) (fun v B=>∃ P0_0_ q0_0_ P0_1_ q0_1_ P0_2_ q0_2_ P0_3_ q0_3_,v = .tuple #[]∧B = (cN bg r P0_0_ q0_0_ P0_1_ q0_1_ P0_2_ q0_2_ P0_3_ q0_3_)):=by
 refine aj Tryz.func130 rfl rfl ?_
 unfold cX.f at H
 refine aR (o' (bO (h:=fun b=>cP (ad ar (h:=ad aW (h:=bA ?_))))))
 obtain⟨q,H,z⟩:=ac H
 refine bI (St [] [aK bg 34 (al ({ p0 with f0:=(bH.mk p0.f0.f0 p0.f0.f1 q) }) af ag ay az au av aw ax),Buf bD 55 af ag q,gf 3 ay az p0.f7,Buf bD 55 au av p0.f16.f2,kU 21 aw ax p0.f17]) ?_ ?_
 ·refine aQ (cj (fun k_ e ds As=>∃ (c : Int) (a : (List aY)),cX.l0 p0 a2 k_ c a = some q∧St [(2,ae a2),(3,aH b),(6,ae c)] [aK bg 34 (al ({ p0 with f0:=(bH.mk p0.f0.f0 p0.f0.f1 a) }) af ag ay az au av aw ax),Buf bD 55 af ag a,gf 3 ay az p0.f7,Buf bD 55 au av p0.f16.f2,kU 21 aw ax p0.f17,aK b 84 [aH bg]] e ds As) (k:=k) ⟨_,_,H,jV [0,1,2,3,4,5]⟩ ?_)
  clear H
  rintro F e ds As ⟨c,a,H,y⟩
  obtain _ | F:=F
  ·cases H
  rw [cX.l0] at H
  obtain⟨J,H⟩:=aO H
  refine SA.of_St y fun junk=>ao (aR (ad ar (h:=ad ar (h:=ad (ce rfl rfl) (h:=bA ?_)))))
  rcases bE H with⟨l,H⟩|⟨l,H⟩
  ·refine aC rfl l (ap (aa (ao (aQ (bM 1 fun M=>bM 2 fun N=>bM 3 fun O=>bM 4 fun R=>?_)))))
   refine fN (0::1::2::3::4::6::7::8::9::10::11::12::13::14::15::16::[]) (List.toArray ([]::[0]::[0,1]::[0,1,2]::[]::(dt 0 5)::[]::[6]::[6,7]::[6,7,8]::(dt 6 4)::(dt 6 5)::[]::[12]::[12,13]::[12,13,14]::(dt 12 4)::(0::1::2::3::4::6::7::8::9::10::11::12::13::14::15::16::[])::[])) [aK bg 34 (al ({ p0 with f0:=(bH.mk p0.f0.f0 p0.f0.f1 a) }) af ag ay az au av aw ax),aK b 84 [aH bg]] jw (bU.inb (bU.thn (bU.thn (bU.inb (bU.thn bU.body))))) fun U S Y pk=>?_
   refine eA (aH b) 0 [0,5] rfl (kv b 0 0) (h:=gZ 1 [0,5] rfl (ij b 0 1) (h:=eA (aH bg) 2 [0,5] rfl cI (h:=eA (aH bg) 3 [0,5] rfl (kv bg 0 0) (h:=eA (ae c) 4 [0,5] rfl fO (h:=eA (aH b) 6 [0,5] rfl (kv b 0 0) (h:=gZ 7 [0,5] rfl (ij b 0 1) (h:=eA (aH bg) 8 [0,5] rfl cI (h:=eA (aH bg) 9 [0,5] rfl (kv bg 0 0) (h:=vS (aH bg) 10 [0,5] rfl (kv bg 0 0) ?_)))))))))
   refine gZ 11 [0,5] rfl (ij bg 0 0) (h:=eA (aH b) 12 [0,5] rfl (kv b 0 0) (h:=gZ 13 [0,5] rfl (ij b 0 1) (h:=eA (aH bg) 14 [0,5] rfl cI (h:=eA (sM bg 6) 15 [0,5] rfl (kv bg 0 6) (h:=sI 16 [0,5] rfl (cz bg 6 0 (bF p0.f4)) ?_)))))
   obtain⟨p,D,H⟩:=ac H
   obtain⟨⟨hl320a,hl320b,hl320c⟩,H⟩:=aO H
   refine eX 5 (by kernel_rfl) rfl (.no rfl) (ms [0,1,2,3,4] [5] (eb.ok (bg:=bg) D) ?_)
   rintro _ _⟨E,I,u,rfl,rfl⟩
   refine ⟨fun _=>⟨[0,5],rfl,rfl⟩,?_⟩
   obtain⟨L,s,H⟩:=ac H
   obtain⟨m,H⟩:=aO H
   refine eX 17 (by kernel_rfl) rfl (.no rfl) (dc [1] [0,2,3,4,5] (jb.ok (o0:=p.1) (n0:=p.2) (A0:=af) (c0:=ag) (V0:=E) (v0:=I) (hw0:=u) s) ?_)
   try unfold cN
   try unfold fc
   try unfold al
   try rewrite [← m]
   refine ⟨fun h_=>absurd h_ (by decide),?_⟩
   refine aI (by kernel_rfl) (aF (aa (ak (ad ar (h:=S' (bW rfl rfl) ?_)))))
   obtain⟨d,o,H⟩:=bj H
   refine bP (ae d) (bo (v:=ae d) (congrArg (Value.int .i64) o.symm)) (h:=ah ?_)
   exact aa ⟨F,Nat.lt_succ_self _,_,_,H,dZ [1,0,2,3,4,5]⟩
  refine aB rfl l (cf (aX (aX (cg ?_))))
  have h:=aN H;subst h
  exact bK [0,1,2,3,4]
 rintro e ds As j
 clear H
 have H:=z
 clear z
 obtain⟨K,H⟩:=aO H
 have h:=aN H;subst h
 exact nz j [aK bg 34 (al ({ p0 with f0:=(bH.mk p0.f0.f0 p0.f0.f1 q) }) af ag ay az au av aw ax),Buf bD 55 af ag q,gf 3 ay az p0.f7,Buf bD 55 au av p0.f16.f2,kU 21 aw ax p0.f17] rfl (eZ [0,1,2,3,4]) ⟨af,ag,ay,az,au,av,aw,ax,rfl,rfl⟩


def iM.f (k : Nat) (p0 : aJ) (a1 : Bool) (a2 : Int) : Option (aJ):=(if a2 = 0 then (some (p0.f2,p0.f0.f0,0,p0.f0.f1)) else (if a2 = 1 then (lt (i64.wrap (p0.f2 + 1)) fun h=>some (0,h,p0.f1,0)) else (if a2 = 2 then (some (0,p0.f0.f0,p0.f1,p0.f0.f1)) else (some (0,0,0,0)))) : Option (Int × Int × Int × Int)).bind (fun b=>(ef.f p0).bind (fun a=>if (0 ≤ a.1∧0 ≤ a.2∧a.1 + a.2 ≤ (p0.f0.f2.length : Int)) then ((jb.f k p0.f0.f2 a.1 a.2 b.1 b.2.1 p0.f4).bind (fun c=>if c.length = p0.f0.f2.length then ((if a1 = true then ((cX.f k ({ p0 with f0:=(bH.mk p0.f0.f0 p0.f0.f1 c) }) 0 b.2.2.1).bind (fun d=>(cX.f k d (i64.wrap (d.f1 + 1)) b.2.2.2).bind (fun j=>some j))) else (some ({ p0 with f0:=(bH.mk p0.f0.f0 p0.f0.f1 c) })) : Option (aJ)).bind (fun l=>some (({ l with f3:=false })))) else none)) else none))
theorem iM.ok {p0 : aJ} {a1 : Bool} {a2 : Int} {r : aJ} (H : iM.f k p0 a1 a2 = some r) : dk Tryz.prog 81 #[.agg #[.pointer (some ⟨bg,0,none⟩)],.bool a1,ae a2] (cN bg p0 af ag ay az au av aw ax) (fun v B=>∃ P0_0_ q0_0_ P0_1_ q0_1_ P0_2_ q0_2_ P0_3_ q0_3_,v = .tuple #[]∧B = (cN bg r P0_0_ q0_0_ P0_1_ q0_1_ P0_2_ q0_2_ P0_3_ q0_3_)):=by
 refine aj Tryz.func81 rfl rfl ?_
 unfold iM.f at H
 refine aR (o' (bO (h:=fun b=>bA (ao ?_))))
 refine fj (dt 0 8) [0,5] (dt 1 4) fun _ _ _ _ _ sH dd pk=>?_
 refine bc 0 rfl sH aA (h:=bQ 1 rfl sH (aP 1) (h:=bc 2 rfl sH cI (h:=bc 3 rfl sH aA (h:=bc 4 rfl sH aA (h:=bQ 5 rfl sH (aP 0) (h:=bc 6 rfl sH aW (h:=bc 7 rfl sH aW (h:=aV dd sH (aI (by kernel_rfl) ?_)))))))))
 refine aa (ao ?_)
 refine fj (dt 0 13) [0,1] (dt 2 4) fun _ _ _ _ _ sH dd pk=>?_
 refine bc 0 rfl sH aA (h:=bQ 1 rfl sH (aP 1) (h:=bc 2 rfl sH cI (h:=bc 3 rfl sH aA (h:=bQ 4 rfl sH (aP 0) (h:=bc 5 rfl sH aA (h:=bQ 6 rfl sH (aP 1) (h:=bc 7 rfl sH cI (h:=bc 8 rfl sH aA (h:=T' 9 rfl sH aA ?_)))))))))
 refine bQ 10 rfl sH (aP 0) (h:=bc 11 rfl sH aW (h:=bc 12 rfl sH aW (h:=aV dd sH (aI (by kernel_rfl) (aa (ao (aR (ad ar (h:=bA ?_)))))))))
 obtain⟨a,H,E⟩:=ac H
 refine bI (St [(1,.bool a1),(3,aH b),(6,ae a.1),(7,ae a.2.1),(8,ae a.2.2.1),(9,ae a.2.2.2)] (aK bg 34 (al p0 af ag ay az au av aw ax)::(bn p0 af ag ay az au av aw ax++[aK b 84 [aH bg]]))) ?_ ?_
 ·refine aQ (aR (ad (bk rfl rfl) (h:=ad aW (h:=bA (SA.of_St (l:=[(1,.bool a1),(3,aH b),(6,ae 0),(7,ae p0.f0.f0),(8,ae p0.f1),(9,ae p0.f0.f1),(27,ae a2),(28,.bool (decide (a2 = 0)))]) (B:=(aK bg 34 (al p0 af ag ay az au av aw ax)::(bn p0 af ag ay az au av aw ax++[aK b 84 [aH bg]]))) (St.mk1 (cB rfl (cB rfl (cB rfl (cB rfl (cB rfl (cB rfl (cB rfl (cB rfl dS)))))))) (Gh.sel [0,2,3,4,5,1] (by kernel_rfl) (by kernel_rfl))) fun junk=>?_)))))
  rcases bE H with⟨u,H⟩|⟨u,H⟩
  ·refine aC rfl u (ak (ad aA (h:=bp (aP 5) (h:=ad cI (h:=ad aA (h:=bp (aP 0) (h:=ad aW (h:=ad aW (h:=ah (aF ?_))))))))))
   have h:=aN H;subst h
   exact bK [0,1,2,3,4,5]
  refine aB rfl u (aR (ad (bk rfl rfl) (h:=ad aW (h:=bA ?_))))
  rcases bE H with⟨y,H⟩|⟨y,H⟩
  ·refine aC rfl y (ak (ad aA (h:=bp (aP 5) (h:=ad cI (h:=ad aA (h:=bp (aP 0) (h:=S' (bW rfl rfl) ?_)))))))
   obtain⟨I,R,H⟩:=bj H
   refine bP (ae I) (bo (v:=ae I) (congrArg (Value.int .i64) R.symm)) (h:=ad aW (h:=ah (aF ?_)))
   have h:=aN H;subst h
   exact bK [0,1,2,3,4,5]
  refine aB rfl y (aR (ad (bk rfl rfl) (h:=ad aW (h:=bA ?_))))
  rcases bE H with⟨z,H⟩|⟨z,H⟩
  ·refine aC rfl z (ap (aF ?_))
   have h:=aN H;subst h
   exact bK [0,1,2,3,4,5]
  refine aB rfl z (ak (ad aW (h:=ad aW (h:=ad aW (h:=ah (aF ?_))))))
  have h:=aN H;subst h
  exact bK [0,1,2,3,4,5]
 rintro e ds As L
 clear H
 have H:=E
 clear E
 refine aa (SA.of_St L fun junk=>ao (bM 1 fun b2=>bM 2 fun b3=>bM 3 fun b4=>bM 4 fun b5=>?_))
 refine fN [0,2,3,4,5,6,7,8] #[[],[0],[],[],[],[4],[4,5],[4,5,6],(dt 4 4),[0,2,3,4,5,6,7,8]] [aK bg 34 (al p0 af ag ay az au av aw ax),aK b 84 [aH bg]] jw (bU.thn bU.body) fun I0 d7 w0 pk=>?_
 refine gZ 0 [0,5] rfl (cz b 0 1 [aH bg]) (h:=eA (ae a.1) 2 [0,5] rfl fO (h:=eA (ae a.2.1) 3 [0,5] rfl fO (h:=eA (aH b) 4 [0,5] rfl (kv b 0 0) (h:=gZ 5 [0,5] rfl (ij b 0 1) (h:=eA (aH bg) 6 [0,5] rfl cI (h:=eA (sM bg 6) 7 [0,5] rfl (kv bg 0 6) (h:=sI 8 [0,5] rfl (cz bg 6 0 (bF p0.f4)) ?_)))))))
 obtain⟨J,a0,H⟩:=ac H
 obtain⟨⟨hl1344a,hl1344b,hl1344c⟩,H⟩:=aO H
 refine eX 1 (by kernel_rfl) rfl (.no rfl) (ms [0,1,2,3,4] [5] (ef.ok (bg:=bg) a0) ?_)
 rintro _ _⟨a6,b1,N,rfl,rfl⟩
 refine ⟨fun _=>⟨[0,5],rfl,rfl⟩,?_⟩
 obtain⟨d4,a3,H⟩:=ac H
 obtain⟨O,H⟩:=aO H
 refine eX 9 (by kernel_rfl) rfl (.no rfl) (dc [1] [0,2,3,4,5] (jb.ok (o0:=J.1) (n0:=J.2) (A0:=af) (c0:=ag) (V0:=a6) (v0:=b1) (hw0:=N) a3) ?_)
 try unfold cN
 try unfold fc
 try unfold al
 try rewrite [← O]
 refine ⟨fun h_=>absurd h_ (by decide),?_⟩
 refine aI (by kernel_rfl) (aa (ao (aR (ad ar (h:=bA ?_)))))
 obtain⟨K,H,F⟩:=ac H
 refine bI (fun e ds As=>∃ (c : Option Addr) (o : Nat),∃ (d : Option Addr) (p : Nat),∃ (j : Option Addr) (q : Nat),∃ (m : Option Addr) (s : Nat),St [(3,aH b)] (aK bg 34 (al K c o d p j q m s)::(bn K c o d p j q m s++[aK b 84 [aH bg]])) e ds As) ?_ ?_
 ·rcases bE H with⟨D,H⟩|⟨D,H⟩
  ·refine aD rfl D (aR (bp (cz b 0 5 [aH bg]) (h:=S' ar ?_)))
   obtain⟨d5,a5,H⟩:=ac H
   refine o' (ed [1,0,2,3,4] [5] (cX.ok (bg:=bg) a5) fun c6 d0 c7 d1 c8 d2 c9 d3=>?_)
   refine bA (bM 1 fun b7=>bM 2 fun b8=>bM 3 fun b9=>bM 4 fun c5=>?_)
   refine fj (dt 0 8) [0,5] (dt 1 4) fun _ _ _ _ _ sH dd pk=>?_
   refine bQ 0 rfl sH (cz b 0 1 [aH bg]) (h:=bc 1 rfl sH aA (h:=bQ 2 rfl sH (aP 1) (h:=bc 3 rfl sH cI (h:=bc 4 rfl sH aA (h:=bQ 5 rfl sH (aP 0) (h:=bc 6 rfl sH (bW rfl rfl) (h:=bc 7 rfl sH ar (h:=aV dd sH ?_))))))))
   obtain⟨d6,a4,H⟩:=ac H
   refine eC 8 rfl (ed [0,2,3,4,5] [1] (cX.ok (bg:=bg) a4) fun S a7 U a8 Y a9 Z b0=>?_)
   refine aI (by kernel_rfl) ?_
   have h:=aN H;subst h
   exact aa ⟨S,a7,U,a8,Y,a9,Z,b0,dZ [0,1,2,3,4,5]⟩
  refine aE rfl D (ap ?_)
  have h:=aN H;subst h
  exact aa ⟨af,ag,ay,az,au,av,aw,ax,dZ [1,0,2,3,4,5]⟩
 rintro e ds As ⟨c,o,d,p,j,q,m,s,M⟩
 clear H
 have H:=F
 clear F
 refine aa (SA.of_St M fun junk=>ak (ad aA (h:=bp (aP 5) (h:=ad cI (h:=ad aA (h:=o' (cF 0 [.bool false] (h:=(ah ?_)))))))))
 have h:=aN H;subst h
 exact fG [0,1,2,3,4] ⟨c,o,d,p,j,q,m,s,rfl,rfl⟩


def kc.f (k : Nat) (p0 : aJ) (p1 : Bool) (p2 : Int) : Option (aJ):=(iM.f k p0 p1 p2).bind (fun a=>some (a))
theorem kc.ok {p0 : aJ} {p1 : Bool} {p2 : Int} {r : aJ} (H : kc.f k p0 p1 p2 = some r) : dk Tryz.prog 80 #[.agg #[.pointer (some ⟨bg,0,none⟩)],.pointer (some ⟨hM,0,none⟩),.pointer (some ⟨om,0,none⟩)] (aK bg 34 (al p0 af ag ay az au av aw ax)::(bn p0 af ag ay az au av aw ax++[aK hM 4 [.bool p1],aK om 3 [ae p2]])) (fun v B=>∃ P0_0_ q0_0_ P0_1_ q0_1_ P0_2_ q0_2_ P0_3_ q0_3_,v = .tuple #[]∧B = (aK bg 34 (al r P0_0_ q0_0_ P0_1_ q0_1_ P0_2_ q0_2_ P0_3_ q0_3_)::(bn r P0_0_ q0_0_ P0_1_ q0_1_ P0_2_ q0_2_ P0_3_ q0_3_++[aK hM 4 [.bool p1],aK om 3 [ae p2]]))):=by
 refine aj Tryz.func80 rfl rfl ?_
 unfold kc.f at H
 refine aR (o' (bO (h:=fun q=>bA (bM 1 fun s=>bM 2 fun u=>bM 3 fun y=>bM 4 fun z=>ak (bp (cz q 0 7 [aH bg]) (h:=l' (aP 5) ?_))))))
 refine l' (aP 6) ?_
 obtain⟨D,j,H⟩:=ac H
 refine o' (ed [0,1,2,3,4] [5,6,7] (iM.ok (bg:=bg) j) fun a l b m c o d p=>?_)
 refine ah ?_
 have h:=aN H;subst h
 exact fG [0,1,2,3,4,5,6] ⟨a,l,b,m,c,o,d,p,rfl,rfl⟩


def gU.f (k : Nat) (a0 : aJ) (p2000 : Bool) (p2001 : Int) : Option (aJ × Int):=(eF.f k a0).bind (fun a=>if (!a) = true then (some (((aJ.mk (bH.mk 0 0 ([] : (List aY))) 0 0 false (cM.mk 0 0 false false false false false false false false) 0 0 ([] : (List Int)) false false false false false false (dz.mk 0 0 false false (cM.mk 0 0 false false false false false false false false)) false (bH.mk 0 0 ([] : (List aY))) ([] : (List Int))),2))) else ((lE.f a0).bind (fun b=>(kc.f k b p2000 p2001).bind (fun oq=>some ((oq,0))))))
theorem gU.ok {a0 : aJ} {p2000 : Bool} {p2001 : Int} {r : aJ × Int} (H : gU.f k a0 p2000 p2001 = some r) : dk Tryz.prog 62 #[.agg (al a0 af ag ay az au av aw ax).toArray,.func (.func 80) #[] #[.pointer (some ⟨bN,0,none⟩),.pointer (some ⟨dA,0,none⟩)]] (cH a0 af ag ay az au av aw ax++[aK bN 4 [.bool p2000],aK dA 3 [ae p2001]]) (fun v B=>∃ aS aT bv bx bq br bw bz,v = .tuple #[.agg (al r.1 aS aT bv bx bq br bw bz).toArray,ae r.2]∧B = (bn r.1 aS aT bv bx bq br bw bz++[aK bN 4 [.bool p2000],aK dA 3 [ae p2001]])):=by
 refine aj Tryz.func62 rfl rfl ?_
 unfold gU.f at H
 refine aR (o' (bO (h:=fun b=>o' (cw (h:=fun I=>ad aW (h:=eD (l' (cm 6) ?_)))))))
 obtain⟨O,F,H⟩:=ac H
 refine o' (dc [0,1,2,3] [0,1,2,3,4,5,6,7] (rJ.ok F) ?_)
 refine ad (bX rfl) (h:=bA ?_)
 rcases bE H with⟨a,H⟩|⟨a,H⟩
 ·refine aD rfl a (aR (bP (.agg (al cy none 0 none 0 none 0 none 0).toArray) dP (h:=o' (bi I 0 7 (al cy none 0 none 0 none 0 none 0) (h:=ad aW (h:=cD ?_))))))
  have h:=aN H;subst h
  exact ma [.cell 4 34,.tmp 5] ((Gh.nilBuf bD 55).trans ((Gh.nilBuf (Kd.int .i64) 3).trans ((Gh.nilBuf bD 55).trans ((Gh.nilBuf (Kd.int .i32) 21).trans (eZ [8,9,10,11,4,5]))))) ⟨none,0,none,0,none,0,none,0,rfl,rfl⟩ ⟨cV 7,cW,trivial⟩
 refine aE rfl a (ap (aa (aR (l' (cm 6) ?_))))
 obtain⟨N,E,H⟩:=ac H
 refine o' (ed [0,1,2,3] [0,1,2,3,4,5,6,7] (lE.ok E) fun s J u K y L z M=>?_)
 refine o' (bi b 0 10 (al N s J u K y L z M) (h:=cP (ad ar (h:=s' (.agg #[aH b]) dP ?_))))
 obtain⟨oq,D,H⟩:=ac H
 refine o' (ra [10,0,1,2,3,8,9] [4,5,6,7,11] (jg (vs:=[.agg #[aH b]]) (cap:=[aH bN,aH dA]) rfl Tryz.func80 AU rfl rfl) (kc.ok (bg:=b) (hM:=bN) (om:=dA) D) ?_)
 rintro _ _⟨c,m,d,o,j,p,l,q,rfl,rfl⟩
 refine cP (bp (cm 0) (h:=o' (bi I 0 11 (al oq c m d o j p l q) (h:=ad aW (h:=cC ?_)))))
 have h:=aN H;subst h
 exact du [.cell 4 34,.tmp 5] [1,2,3,4,5,6] ⟨c,m,d,o,j,p,l,q,rfl,rfl⟩ ⟨cV 11,cW,trivial⟩


def wi.f (k : Nat) (a0 : aJ) (a1 : Bool) (a2 : Int) : Option (aJ × Int):=(gU.f k a0 a1 a2).bind (fun a=>some ((a.1,a.2)))
theorem wi.ok {a0 : aJ} {a1 : Bool} {a2 : Int} {r : aJ × Int} (H : wi.f k a0 a1 a2 = some r) : dk Tryz.prog 31 #[.agg (al a0 af ag ay az au av aw ax).toArray,.bool a1,ae a2] (cH a0 af ag ay az au av aw ax) (fun v B=>∃ aS aT bv bx bq br bw bz,v = .tuple #[.agg (al r.1 aS aT bv bx bq br bw bz).toArray,ae r.2]∧B = (bn r.1 aS aT bv bx bq br bw bz)):=by
 refine aj Tryz.func31 rfl rfl ?_
 unfold wi.f at H
 refine aR (o' (bO (h:=fun z=>o' (bO (h:=fun p=>o' (bO (h:=fun q=>o' (cw (h:=fun u=>ad aW (h:=cP (bp (cm 4) (h:=s' (.func (.func 80) #[] #[aH p,aH q]) (dJ (us:=[aH p,aH q]) rfl) ?_))))))))))))
 obtain⟨y,s,H⟩:=ac H
 refine o' (ed [0,1,2,3,5,6] [0,1,2,3,4,7] (gU.ok (bN:=p) (dA:=q) s) fun a j b l c m d o=>?_)
 refine ad cr (h:=ad cr (h:=o' (bi u 0 11 (al y.1 a j b l c m d o) (h:=ad aW (h:=cC ?_)))))
 have h:=aN H;subst h
 exact du [.cell 6 34,.tmp 7] [0,1,2,3] ⟨a,j,b,l,c,m,d,o,rfl,rfl⟩ ⟨cV 11,cW,trivial⟩

end Go.Proofs.YtckilbegmbaeeaaGreat.Z6

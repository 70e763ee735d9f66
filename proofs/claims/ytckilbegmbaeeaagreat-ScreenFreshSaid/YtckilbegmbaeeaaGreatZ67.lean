/- Walks. -/
import Derived.Test.YtckilbegmbaeeaaGreatZ66
namespace Go.Proofs.YtckilbegmbaeeaaGreat.Z6
open Go Go.RowKit Go.Proofs.YtckilbegmbaeeaaGreat.SL
open Go.IntKind (i64)
set_option linter.unusedVariables false
set_option maxHeartbeats 20000000
set_option maxRecDepth 100000
set_option linter.unusedSimpArgs false
attribute [local irreducible] IntKind.wrap da fk gR kN kD po ky eS kF rd sub bytesOf ib dj
variable {bg hM bN dA lj om uV ag az av ax k : Nat}
variable {af ay au aw : Option Addr}
def iR.f (k : Nat) (p0 : aJ) (a1 : Bool) (a2 : Int) (a3 : Bool) : Option (aJ):=if (!a1) = true then (if a2 = 4 then (some (({ p0 with f10:=a3 }))) else (some (p0))) else (if a2 = 1 then (some (({ p0 with f11:=a3 }))) else (if a2 = 6 then ((fB.f ({ p0 with f9:=a3 }) 0 0).bind (fun d=>some (d))) else (if a2 = 7 then (some (({ p0 with f8:=a3 }))) else (if a2 = 25 then (some (({ p0 with f13:=a3 }))) else (if a2 = 2004 then (some (({ p0 with f12:=a3 }))) else ((if a2 = 47 then (some (decide (a2 = 47))) else (some (decide (a2 = 1047))) : Option (Bool)).bind (fun l=>if l = true then ((gw.f k p0 a3).bind (fun h=>some (h))) else (if a2 = 1049 then ((if a3 = true then ((fM.f p0 false).bind (fun j=>some j)) else (some p0) : Option (aJ)).bind (fun m=>(gw.f k m a3).bind (fun a=>lt ((!a3) && p0.f15) fun b=>if b = true then ((fM.f a true).bind (fun c=>some (c))) else (some (a))))) else (some (p0))))))))))
theorem iR.ok {p0 : aJ} {a1 : Bool} {a2 : Int} {a3 : Bool} {r : aJ} (H : iR.f k p0 a1 a2 a3 = some r) : dk Tryz.prog 91 #[.agg #[.pointer (some ⟨bg,0,none⟩)],.bool a1,ae a2,.bool a3] (cN bg p0 af ag ay az au av aw ax) (fun v B=>∃ P0_0_ q0_0_ P0_1_ q0_1_ P0_2_ q0_2_ P0_3_ q0_3_,v = .tuple #[]∧B = (cN bg r P0_0_ q0_0_ P0_1_ q0_1_ P0_2_ q0_2_ P0_3_ q0_3_)):=by
 refine aj Tryz.func91 rfl rfl ?_
 unfold iR.f at H
 refine aR (o' (bO (h:=fun b=>eD (ad ar (h:=ad (bX rfl) (h:=bA ?_))))))
 rcases bE H with⟨h8,H⟩|⟨h8,H⟩
 ·refine aD rfl h8 (ao (aR (ad ar (h:=ad (bk rfl rfl) (h:=bA ?_)))))
  rcases bE H with⟨h9,H⟩|⟨h9,H⟩
  ·refine aC rfl h9 (ak (ad aA (h:=bp (aP 5) (h:=ad ar (h:=ad cI (h:=ad aA (h:=o' (cF 0 [.bool a3] (h:=(cD ?_))))))))))
   have h:=aN H;subst h
   exact kR (aK bg 34 (al ({ p0 with f10:=a3 }) af ag ay az au av aw ax)::bn p0 af ag ay az au av aw ax) rfl (eZ [0,1,2,3,4]) ⟨af,ag,ay,az,au,av,aw,ax,rfl,rfl⟩
  refine aB rfl h9 (ap (aa (fm (aG ?_))))
  have h:=aN H;subst h
  exact kR (cN bg p0 af ag ay az au av aw ax) rfl (eZ [0,1,2,3,4]) ⟨af,ag,ay,az,au,av,aw,ax,rfl,rfl⟩
 refine aE rfl h8 (ap (aa (aR (ad ar (h:=bA (aQ (aR (ad (bk rfl rfl) (h:=ad aW (h:=bA ?_))))))))))
 rcases bE H with⟨N,H⟩|⟨N,H⟩
 ·refine aC rfl N (ak (ad aA (h:=bp (aP 5) (h:=ad ar (h:=ad cI (h:=ad aA (h:=o' (cF 0 [.bool a3] (h:=(ah (aF ?_)))))))))))
  have h:=aN H;subst h
  exact fG [0,1,2,3,4] ⟨af,ag,ay,az,au,av,aw,ax,rfl,rfl⟩
 refine aB rfl N (aR (ad (bk rfl rfl) (h:=ad aW (h:=bA ?_))))
 rcases bE H with⟨O,H⟩|⟨O,H⟩
 ·refine aC rfl O (aR (ad aA (h:=bp (aP 5) (h:=ad ar (h:=ad cI (h:=ad aA (h:=o' (cF 0 [.bool a3] (h:=(bA (bM 1 fun f9=>?_)))))))))))
  refine bM 2 fun g0=>bM 3 fun g1=>bM 4 fun g2=>ak (l' (cz b 0 5 [aH bg]) ?_)
  obtain⟨h7,d9,H⟩:=ac H
  refine o' (ed [0,1,2,3,4] [5] (fB.ok (bg:=bg) d9) fun c7 e2 c8 e3 c9 e4 d0 e5=>?_)
  refine ah (aF ?_)
  have h:=aN H;subst h
  exact fG [0,1,2,3,4] ⟨c7,e2,c8,e3,c9,e4,d0,e5,rfl,rfl⟩
 refine aB rfl O (aR (ad (bk rfl rfl) (h:=ad aW (h:=bA ?_))))
 rcases bE H with⟨R,H⟩|⟨R,H⟩
 ·refine aC rfl R (ak (ad aA (h:=bp (aP 5) (h:=ad ar (h:=ad cI (h:=ad aA (h:=o' (cF 0 [.bool a3] (h:=(ah (aF ?_)))))))))))
  have h:=aN H;subst h
  exact fG [0,1,2,3,4] ⟨af,ag,ay,az,au,av,aw,ax,rfl,rfl⟩
 refine aB rfl R (aR (ad (bk rfl rfl) (h:=ad aW (h:=bA ?_))))
 rcases bE H with⟨S,H⟩|⟨S,H⟩
 ·refine aC rfl S (ak (ad aA (h:=bp (aP 5) (h:=ad ar (h:=ad cI (h:=ad aA (h:=o' (cF 0 [.bool a3] (h:=(ah (aF ?_)))))))))))
  have h:=aN H;subst h
  exact fG [0,1,2,3,4] ⟨af,ag,ay,az,au,av,aw,ax,rfl,rfl⟩
 refine aB rfl S (aR (ad (bk rfl rfl) (h:=ad aW (h:=bA ?_))))
 rcases bE H with⟨U,H⟩|⟨U,H⟩
 ·refine aC rfl U (ak (ad aA (h:=bp (aP 5) (h:=ad ar (h:=ad cI (h:=ad aA (h:=o' (cF 0 [.bool a3] (h:=(ah (aF ?_)))))))))))
  have h:=aN H;subst h
  exact fG [0,1,2,3,4] ⟨af,ag,ay,az,au,av,aw,ax,rfl,rfl⟩
 refine aB rfl U (ao (aR (ad (bk rfl rfl) (h:=ad aW (h:=bA ?_)))))
 obtain⟨f4,H,D⟩:=ac H
 refine bI (St [(3,.bool a3),(4,aH b),(18,ae a2),(56,.bool f4)] (aK bg 34 (al p0 af ag ay az au av aw ax)::(bn p0 af ag ay az au av aw ax++[aK b 84 [aH bg]]))) ?_ ?_
 ·rcases bE H with⟨Y,H⟩|⟨Y,H⟩
  ·refine aC rfl Y (ap ?_)
   have h:=aN H;subst h
   exact bK [0,1,2,3,4,5]
  refine aB rfl Y (ak (ad (bk rfl rfl) (h:=ad aW (h:=ah ?_))))
  have h:=aN H;subst h
  exact bK [0,1,2,3,4,5]
 rintro e ds As a6
 clear H
 have H:=D
 clear D
 refine aa (SA.of_St a6 fun junk=>?_)
 rcases bE H with⟨Z,H⟩|⟨Z,H⟩
 ·refine aD rfl Z (bM 1 fun g3=>bM 2 fun g4=>bM 3 fun g5=>bM 4 fun g6=>ak (bp (cz b 0 5 [aH bg]) (h:=S' ar ?_)))
  obtain⟨i0,e0,H⟩:=ac H
  refine o' (ed [0,1,2,3,4] [5] (gw.ok (bg:=bg) e0) fun d1 e6 d2 e7 d3 e8 d4 e9=>?_)
  refine ah (aF ?_)
  have h:=aN H;subst h
  exact fG [0,1,2,3,4] ⟨d1,e6,d2,e7,d3,e8,d4,e9,rfl,rfl⟩
 refine aE rfl Z (aR (ad (bk rfl rfl) (h:=ad aW (h:=bA ?_))))
 rcases bE H with⟨a0,H⟩|⟨a0,H⟩
 ·refine aC rfl a0 (aR (ad aA (h:=bp (aP 5) (h:=ad cI (h:=ad aA (h:=bp (aP 0) (h:=ad aW (h:=eD (S' ar ?_)))))))))
  refine bA ?_
  obtain⟨a9,H,E⟩:=ac H
  refine bI (fun e ds As=>∃ (p : Option Addr) (F : Nat),∃ (q : Option Addr) (I : Nat),∃ (s : Option Addr) (J : Nat),∃ (u : Option Addr) (K : Nat),St [(3,.bool a3),(4,aH b),(8,.bool p0.f15)] (aK bg 34 (al a9 p F q I s J u K)::(bn a9 p F q I s J u K++[aK b 84 [aH bg]])) e ds As) ?_ ?_
  ·rcases bE H with⟨a4,H⟩|⟨a4,H⟩
   ·refine aD rfl a4 (bM 1 fun g7=>bM 2 fun g8=>bM 3 fun g9=>bM 4 fun h0=>ak (l' (cz b 0 5 [aH bg]) ?_))
    obtain⟨i1,e1,H⟩:=ac H
    refine o' (ed [0,1,2,3,4] [5] (fM.ok (bg:=bg) e1) fun d5 f0 d6 f1 d7 f2 d8 f3=>?_)
    refine ah ?_
    have h:=aN H;subst h
    exact aa ⟨d5,f0,d6,f1,d7,f2,d8,f3,dZ [0,1,2,3,4,5]⟩
   refine aE rfl a4 (ap ?_)
   have h:=aN H;subst h
   exact aa ⟨af,ag,ay,az,au,av,aw,ax,dZ [0,1,2,3,4,5]⟩
  rintro e ds As ⟨p,F,q,I,s,J,u,K,a7⟩
  clear H
  have H:=E
  clear E
  refine aa (SA.of_St a7 fun junk=>ao (bM 1 fun h1=>bM 2 fun h3=>bM 3 fun h4=>bM 4 fun h5=>ak (bp (cz b 0 5 [aH bg]) (h:=S' ar ?_))))
  obtain⟨a8,b5,H⟩:=ac H
  refine o' (ed [0,1,2,3,4] [5] (gw.ok (bg:=bg) b5) fun y L z M c j d l=>?_)
  refine cP (ad ar (h:=ad (bX rfl) (h:=S' ar ?_)))
  obtain⟨c6,o,H⟩:=bj H
  refine cK 2 (St [(4,aH b),(79,.bool c6)] (aK bg 34 (al a8 y L z M c j d l)::(bn a8 y L z M c j d l++[aK b 84 [aH bg]]))) ?_ ?_
  ·by_cases a : (!a3) = true
   ·refine bf a ar (h:=cd a (h:=ah ?_))
    have x_:=fD o a;exact bK [0,1,2,3,4,5]
   refine cu 1 (aM a) (ck (aM a) (h:=ah ?_))
   have x_:=fC o ((aM a));exact bK [0,1,2,3,4,5]
  rintro e ds As a5
  refine bA (SA.of_St a5 fun junk=>?_)
  rcases bE H with⟨m,H⟩|⟨m,H⟩
  ·refine aD rfl m (bM 1 fun f5=>bM 2 fun f6=>bM 3 fun f7=>bM 4 fun f8=>ak (l' (cz b 0 5 [aH bg]) ?_))
   obtain⟨h6,b4,H⟩:=ac H
   refine o' (ed [0,1,2,3,4] [5] (fM.ok (bg:=bg) b4) fun b0 b7 b1 b8 b2 b9 b3 c5=>?_)
   refine ah (aF ?_)
   have h:=aN H;subst h
   exact fG [0,1,2,3,4] ⟨b0,b7,b1,b8,b2,b9,b3,c5,rfl,rfl⟩
  refine aE rfl m (ap (aF ?_))
  have h:=aN H;subst h
  exact fG [0,1,2,3,4] ⟨y,L,z,M,c,j,d,l,rfl,rfl⟩
 refine aB rfl a0 (ap (aF ?_))
 have h:=aN H;subst h
 exact fG [0,1,2,3,4] ⟨af,ag,ay,az,au,av,aw,ax,rfl,rfl⟩


def kj.f (k : Nat) (p0 : aJ) (p1 : Bool) (p2 : Int) (p3 : Bool) : Option (aJ):=(iR.f k p0 p1 p2 p3).bind (fun a=>some (a))
theorem kj.ok {p0 : aJ} {p1 : Bool} {p2 : Int} {p3 : Bool} {r : aJ} (H : kj.f k p0 p1 p2 p3 = some r) : dk Tryz.prog 90 #[.agg #[.pointer (some ⟨bg,0,none⟩)],.pointer (some ⟨hM,0,none⟩),.pointer (some ⟨om,0,none⟩),.pointer (some ⟨uV,0,none⟩)] (aK bg 34 (al p0 af ag ay az au av aw ax)::(bn p0 af ag ay az au av aw ax++[aK hM 4 [.bool p1],aK om 3 [ae p2],aK uV 4 [.bool p3]])) (fun v B=>∃ P0_0_ q0_0_ P0_1_ q0_1_ P0_2_ q0_2_ P0_3_ q0_3_,v = .tuple #[]∧B = (aK bg 34 (al r P0_0_ q0_0_ P0_1_ q0_1_ P0_2_ q0_2_ P0_3_ q0_3_)::(bn r P0_0_ q0_0_ P0_1_ q0_1_ P0_2_ q0_2_ P0_3_ q0_3_++[aK hM 4 [.bool p1],aK om 3 [ae p2],aK uV 4 [.bool p3]]))):=by
 refine aj Tryz.func90 rfl rfl ?_
 unfold kj.f at H
 refine aR (o' (bO (h:=fun q=>bA (bM 1 fun s=>bM 2 fun u=>bM 3 fun y=>bM 4 fun z=>ak (bp (cz q 0 8 [aH bg]) (h:=l' (aP 5) ?_))))))
 refine bp (aP 6) (h:=l' (aP 7) ?_)
 obtain⟨D,j,H⟩:=ac H
 refine o' (ed [0,1,2,3,4] [5,6,7,8] (iR.ok (bg:=bg) j) fun a l b m c o d p=>?_)
 refine ah ?_
 have h:=aN H;subst h
 exact fG [0,1,2,3,4,5,6,7] ⟨a,l,b,m,c,o,d,p,rfl,rfl⟩


def gx.f (k : Nat) (a0 : aJ) (p2000 : Bool) (p2001 : Int) (p2002 : Bool) : Option (aJ × Int):=(eF.f k a0).bind (fun a=>if (!a) = true then (some (((aJ.mk (bH.mk 0 0 ([] : (List aY))) 0 0 false (cM.mk 0 0 false false false false false false false false) 0 0 ([] : (List Int)) false false false false false false (dz.mk 0 0 false false (cM.mk 0 0 false false false false false false false false)) false (bH.mk 0 0 ([] : (List aY))) ([] : (List Int))),2))) else ((lE.f a0).bind (fun b=>(kj.f k b p2000 p2001 p2002).bind (fun oL=>some ((oL,0))))))
theorem gx.ok {a0 : aJ} {p2000 : Bool} {p2001 : Int} {p2002 : Bool} {r : aJ × Int} (H : gx.f k a0 p2000 p2001 p2002 = some r) : dk Tryz.prog 62 #[.agg (al a0 af ag ay az au av aw ax).toArray,.func (.func 90) #[] #[.pointer (some ⟨bN,0,none⟩),.pointer (some ⟨dA,0,none⟩),.pointer (some ⟨lj,0,none⟩)]] (cH a0 af ag ay az au av aw ax++[aK bN 4 [.bool p2000],aK dA 3 [ae p2001],aK lj 4 [.bool p2002]]) (fun v B=>∃ aS aT bv bx bq br bw bz,v = .tuple #[.agg (al r.1 aS aT bv bx bq br bw bz).toArray,ae r.2]∧B = (bn r.1 aS aT bv bx bq br bw bz++[aK bN 4 [.bool p2000],aK dA 3 [ae p2001],aK lj 4 [.bool p2002]])):=by
 refine aj Tryz.func62 rfl rfl ?_
 unfold gx.f at H
 refine aR (o' (bO (h:=fun c=>o' (cw (h:=fun b=>ad aW (h:=eD (l' (cm 7) ?_)))))))
 obtain⟨R,O,H⟩:=ac H
 refine o' (dc [0,1,2,3] [0,1,2,3,4,5,6,7,8] (rJ.ok O) ?_)
 refine ad (bX rfl) (h:=bA ?_)
 rcases bE H with⟨y,H⟩|⟨y,H⟩
 ·refine aD rfl y (aR (bP (.agg (al cy none 0 none 0 none 0 none 0).toArray) dP (h:=o' (bi b 0 8 (al cy none 0 none 0 none 0 none 0) (h:=ad aW (h:=cD ?_))))))
  have h:=aN H;subst h
  exact ma [.cell 4 34,.tmp 5] ((Gh.nilBuf bD 55).trans ((Gh.nilBuf (Kd.int .i64) 3).trans ((Gh.nilBuf bD 55).trans ((Gh.nilBuf (Kd.int .i32) 21).trans (eZ [9,10,11,12,4,5,6]))))) ⟨none,0,none,0,none,0,none,0,rfl,rfl⟩ ⟨cV 8,cW,trivial⟩
 refine aE rfl y (ap (aa (aR (l' (cm 7) ?_))))
 obtain⟨a,N,H⟩:=ac H
 refine o' (ed [0,1,2,3] [0,1,2,3,4,5,6,7,8] (lE.ok N) fun d p j q m s o u=>?_)
 refine o' (bi c 0 11 (al a d p j q m s o u) (h:=bA (SA.of_St (l:=[(1,.func (.func 90) #[] #[aH bN,aH dA,aH lj]),(2,aH c),(4,aH b)]) (B:=[aK lj 4 [.bool p2002],aK dA 3 [ae p2001],aK bN 4 [.bool p2000],aK c 34 (al a d p j q m s o u),Buf bD 55 d p a.f0.f2,gf 3 j q a.f7,Buf bD 55 m s a.f16.f2,kU 21 o u a.f17,aK b 34 (al cy none 0 none 0 none 0 none 0)]) (St.mk1 (cB rfl (cB rfl (cB rfl dS))) (Gh.sel [10,9,8,11,0,1,2,3,12] (by kernel_rfl) (by kernel_rfl))) fun junk=>aR (ad ar (h:=s' (.agg #[aH c]) dP ?_)))))
 obtain⟨oL,M,H⟩:=ac H
 refine o' (ra [3,4,5,6,7,2,1,0] [8] (jg (vs:=[.agg #[aH c]]) (cap:=[aH bN,aH dA,aH lj]) rfl Tryz.func90 AZ rfl rfl) (kj.ok (bg:=c) (hM:=bN) (om:=dA) (uV:=lj) M) ?_)
 rintro _ _⟨z,I,D,J,E,K,F,L,rfl,rfl⟩
 refine cP (bp (cm 0) (h:=o' (bi b 0 8 (al oL z I D J E K F L) (h:=ad aW (h:=cC ?_)))))
 have h:=aN H;subst h
 exact du [.cell 4 34,.tmp 5] [1,2,3,4,5,6,7] ⟨z,I,D,J,E,K,F,L,rfl,rfl⟩ ⟨cV 8,cW,trivial⟩


def wo.f (k : Nat) (a0 : aJ) (a1 : Bool) (a2 : Int) (a3 : Bool) : Option (aJ × Int):=(gx.f k a0 a1 a2 a3).bind (fun a=>some ((a.1,a.2)))
theorem wo.ok {a0 : aJ} {a1 : Bool} {a2 : Int} {a3 : Bool} {r : aJ × Int} (H : wo.f k a0 a1 a2 a3 = some r) : dk Tryz.prog 36 #[.agg (al a0 af ag ay az au av aw ax).toArray,.bool a1,ae a2,.bool a3] (cH a0 af ag ay az au av aw ax) (fun v B=>∃ aS aT bv bx bq br bw bz,v = .tuple #[.agg (al r.1 aS aT bv bx bq br bw bz).toArray,ae r.2]∧B = (bn r.1 aS aT bv bx bq br bw bz)):=by
 refine aj Tryz.func36 rfl rfl ?_
 unfold wo.f at H
 refine aR (o' (bO (h:=fun D=>o' (bO (h:=fun q=>o' (bO (h:=fun s=>o' (bO (h:=fun a=>o' (cw (h:=fun y=>ad aW (h:=cP (bp (cm 4) (h:=s' (.func (.func 90) #[] #[aH q,aH s,aH a]) (dJ (us:=[aH q,aH s,aH a]) rfl) ?_))))))))))))))
 obtain⟨z,u,H⟩:=ac H
 refine o' (ed [0,1,2,3,5,6,7] [0,1,2,3,4,8] (gx.ok (bN:=q) (dA:=s) (lj:=a) u) fun b l c m d o j p=>?_)
 refine ad cr (h:=ad cr (h:=o' (bi y 0 12 (al z.1 b l c m d o j p) (h:=ad aW (h:=cC ?_)))))
 have h:=aN H;subst h
 exact du [.cell 8 34,.tmp 9] [0,1,2,3] ⟨b,l,c,m,d,o,j,p,rfl,rfl⟩ ⟨cV 12,cW,trivial⟩


def jr.f (l0 : (List Int)) (a1 : Int) (l2 : (List Int)) : Option ((List Int)):=if 0 ≤ a1∧a1 ≤ (l0.length : Int)∧(l0.length : Int) ≤ (l0.length : Int) then (lt ((l2.length : Int)) fun n11=>if n11 = 0 then (some (l0)) else (lt ((l0.length : Int)) fun n13=>if a1 = n13 then (if l0.length + l2.length ≤ 17592186044416 then lt (l0 ++ l2) fun n19=>(some (n19)) else none) else (if l0.length + l2.length ≤ 17592186044416 then some (l0.take a1.toNat ++ l2 ++ l0.drop a1.toNat) else none))) else none
theorem jr.ok {l0 : (List Int)} {a1 : Int} {l2 : (List Int)} {A0 : Option Addr} {c0 : Nat} {A2 : Option Addr} {c2 : Nat} {r : (List Int)} (H : jr.f l0 a1 l2 = some r) : dk Tryz.prog 133 #[.slice A0 l0.length c0,ae a1,.slice A2 l2.length c2] [gf 3 A0 c0 l0,gf 3 A2 c2 l2] (fun v B=>∃ aS aT,v = .slice aS r.length aT∧B = [gf 3 aS aT r,gf 3 A2 c2 l2]):=by
 refine aj Tryz.func133 rfl rfl ?_
 unfold jr.f at H
 refine aR ?_
 refine s' (.slice none 0 0) rN ?_
 refine bA (ao ?_)
 refine bM 0 fun d1=>?_
 refine bM 1 fun d2=>?_
 refine ak ?_
 refine s' (.slice A0 l0.length c0) fO ?_
 refine s' (ae a1) fO ?_
 obtain⟨⟨g5,g6,g7⟩,H⟩:=aO H
 refine s' (.slice (dj A0 a1 ((c0 : Nat) : Int) 1) ((l0.length : Int) - a1).toNat (((c0 : Nat) : Int).toNat - a1.toNat)) (dq (l:=0) (m:=(l0.length : Int)) (a:=a1) (b:=(l0.length : Int)) (q:=((c0 : Nat) : Int)) (eu.whole (A:=A0) (sz:=1) (xs:=l0) (c:=c0) (by omega)) Tryz.underlying29 jl rfl rfl rfl rfl (.inr ⟨_,rfl⟩) (.inl ⟨rfl,rfl,rfl⟩) (.inl ⟨rfl,rfl⟩) g5 g6 g7) ?_
 have c6 : eu A0 (dj A0 a1 ((c0 : Nat) : Int) 1) 1 (0 + a1) ((l0.length : Int) - a1) (((c0 : Nat) : Int).toNat - a1.toNat):=eu.sub (eu.whole (A:=A0) (sz:=1) (xs:=l0) (c:=c0) (by omega)) g5 g6 g7 (.inl rfl) (Int.le_refl _)
 refine cP ?_
 refine s' (.slice A2 l2.length c2) fO ?_
 refine s' (ae (l2.length : Int)) (cO Tryz.underlying29 rfl) ?_
 obtain⟨n11,y,H⟩:=bj H
 refine s' (ae n11) (bo (v:=ae n11) (congrArg (Value.int .i64) y.symm)) ?_
 refine eD ?_
 refine s' (ae n11) fO ?_
 refine s' (.bool (decide (n11 = 0))) (bk rfl rfl) ?_
 refine bA ?_
 by_cases D : n11 = 0
 ·replace H:=lr D H
  refine aC rfl D ?_
  refine aR ?_
  refine s' (.slice A0 l0.length c0) fO ?_
  refine s' (.slice A0 l0.length c0) rN ?_
  refine cD ?_
  have h:=aN H;subst h
  exact dX [0,1] ⟨A0,c0,rfl,rfl⟩
 replace H:=lq D H
 refine aB rfl D ?_
 refine ap (aa (aR ?_))
 refine s' (.slice A0 l0.length c0) fO ?_
 refine s' (ae (l0.length : Int)) (cO Tryz.underlying29 rfl) ?_
 obtain⟨n13,z,H⟩:=bj H
 refine s' (ae n13) (bo (v:=ae n13) (congrArg (Value.int .i64) z.symm)) ?_
 refine eD ?_
 refine s' (ae a1) fO ?_
 refine s' (ae n13) fO ?_
 refine s' (.bool (decide (a1 = n13))) (bk rfl rfl) ?_
 refine bA ?_
 by_cases E : a1 = n13
 ·replace H:=lr E H
  refine aC rfl E ?_
  refine aR ?_
  refine s' (.slice A0 l0.length c0) fO ?_
  refine s' (.slice A2 l2.length c2) fO ?_
  obtain⟨c9,H⟩:=aO H
  obtain⟨n19,b6,H⟩:=bj H
  refine o' (gl (k:=0) (A:=A0) (c:=c0) (xs:=l0) (ys:=l2) n19 b6 rfl Tryz.underlying29 pf rfl rfl rfl rfl rfl (ng.slice Tryz.underlying29 (Src.buf (k:=1) rfl)) (by omega) (by omega) fun a4 a5=>?_)
  refine s' (.slice a4 n19.length a5) rN ?_
  refine cD ?_
  have h:=aN H;subst h
  exact dX [0,1] ⟨a4,a5,rfl,rfl⟩
 replace H:=lq E H
 refine aB rfl E ?_
 refine ap (aa (ao (aR ?_)))
 refine s' (ae n13) fO ?_
 refine s' (ae n11) fO ?_
 refine s' (ae (i64.wrap (n13 + n11))) (bW rfl rfl) ?_
 refine s' (.slice A0 l0.length c0) fO ?_
 refine s' (ae (c0 : Int)) (xJ Tryz.underlying29 rfl) ?_
 refine s' (.bool (decide ((i64.wrap (n13 + n11)) > (c0 : Int)))) (eK rfl rfl) ?_
 refine bA ?_
 obtain⟨b2,H⟩:=aO H
 by_cases U : (i64.wrap (n13 + n11)) > (c0 : Int)
 ·replace H:=rR (x:=if 0 ≤ (0 : Int)∧(0 : Int) ≤ a1∧a1 ≤ (l0.length : Int) then (if 0 < (i64.wrap ((i64.wrap (n13 + n11)) - a1))∧(sub l0 (0 + (0 : Int)) ((0 + (0 : Int)) + (a1 - (0 : Int)))).length + (i64.wrap ((i64.wrap (n13 + n11)) - a1)).toNat ≤ 17592186044416 then lt ((sub l0 (0 + (0 : Int)) ((0 + (0 : Int)) + (a1 - (0 : Int)))) ++ List.replicate (i64.wrap ((i64.wrap (n13 + n11)) - a1)).toNat 0) fun n33=>(if 0 ≤ a1∧a1 ≤ (n33.length : Int)∧(n33.length : Int) ≤ (n33.length : Int) then (lt (bB n33 (0 + a1).toNat (l2.take ((n33.length : Int) - a1).toNat)) fun n41=>(if 0 ≤ (i64.wrap (a1 + n11))∧(i64.wrap (a1 + n11)) ≤ (n41.length : Int)∧(n41.length : Int) ≤ (n41.length : Int) then (if 0 ≤ a1∧a1 ≤ (l0.length : Int)∧(l0.length : Int) ≤ (l0.length : Int) then (lt (bB n41 (0 + (i64.wrap (a1 + n11))).toNat ((sub l0 (0 + a1) ((0 + a1) + ((l0.length : Int) - a1))).take ((n41.length : Int) - (i64.wrap (a1 + n11))).toNat)) fun s=>(some (s))) else none) else none)) else none) else none) else none) H (tJ (z0:=0) (lim:=17592186044416) y z (by omega) (by omega) (by omega) (by omega) b2 (by omega))
  refine aC rfl U ?_
  have hwG : i64.wrap (n13 + n11) = n13 + n11:=by rw [IntKind.wrap_i64]; omega
  have c8 : i64.wrap (i64.wrap (n13 + n11) - a1) = n13 + n11 - a1:=by rw [hwG,IntKind.wrap_i64]; omega
  refine aR ?_
  refine s' (.slice A0 l0.length c0) fO ?_
  refine s' (ae a1) fO ?_
  obtain⟨⟨a6,a7,a8⟩,H⟩:=aO H
  refine s' (.slice (dj A0 (0 : Int) ((c0 : Nat) : Int) 1) (a1 - (0 : Int)).toNat (((c0 : Nat) : Int).toNat - (0 : Int).toNat)) (dq (l:=0) (m:=(l0.length : Int)) (a:=(0 : Int)) (b:=a1) (q:=((c0 : Nat) : Int)) (eu.whole (A:=A0) (sz:=1) (xs:=l0) (c:=c0) (by omega)) Tryz.underlying29 jl rfl rfl rfl rfl (.inl ⟨rfl,rfl⟩) (.inr ⟨_,rfl⟩) (.inl ⟨rfl,rfl⟩) a6 a7 a8) ?_
  have u : eu A0 (dj A0 (0 : Int) ((c0 : Nat) : Int) 1) 1 (0 + (0 : Int)) (a1 - (0 : Int)) (((c0 : Nat) : Int).toNat - (0 : Int).toNat):=eu.sub (eu.whole (A:=A0) (sz:=1) (xs:=l0) (c:=c0) (by omega)) a6 a7 a8 (.inl rfl) (Int.le_refl _)
  refine s' (ae n13) fO ?_
  refine s' (ae n11) fO ?_
  refine s' (ae (i64.wrap (n13 + n11))) (bW rfl rfl) ?_
  refine s' (ae a1) fO ?_
  refine s' (ae (i64.wrap ((i64.wrap (n13 + n11)) - a1))) (cT rfl rfl) ?_
  obtain⟨d0,H⟩:=aO H
  obtain⟨n33,b7,H⟩:=bj H
  have Z:=ny (xs:=l0) u.lo u.no (by omega)
  have b8 : (Value.int .i64 (i64.wrap ((i64.wrap (n13 + n11)) - a1))) = ae (((i64.wrap ((i64.wrap (n13 + n11)) - a1)).toNat : Nat) : Int):=by congr 1; omega
  refine o' (OA.ghost (Gh.nilBuf (Kd.int .i64) 3) (uM (k:=2) (V:=dj A0 (0 : Int) ((c0 : Nat) : Int) 1) (m:=(a1 - (0 : Int)).toNat) (vc:=(((c0 : Nat) : Int).toNat - (0 : Int).toNat)) (xs:=sub l0 (0 + (0 : Int)) ((0 + (0 : Int)) + (a1 - (0 : Int)))) (cnt:=(i64.wrap ((i64.wrap (n13 + n11)) - a1)).toNat) (z0:=0) n33 b7 rfl Tryz.underlying29 Tryz.underlying3 pf rfl rfl (by decide) rfl rfl (Src.win (Src.buf (k:=0) rfl) u rfl (by omega)) Z.symm b8 (fun _=>rfl) (by omega) (by rw [Z]; omega) (by omega) (by omega) fun o d=>?_))
  refine s' (.slice o n33.length d) rN ?_
  refine bA ?_
  refine SA.of_St (l:=[(0,.slice A0 l0.length c0),(1,ae a1),(2,.slice A2 l2.length c2),(7,ae n11),(9,.slice o n33.length d)]) (B:=[gf 3 A2 c2 l2,gf 3 A0 c0 l0,gf 3 o d n33]) (St.mk1 (cB rfl (cB rfl (cB rfl (cB rfl (cB rfl dS))))) (Gh.sel [1,0,2] (by kernel_rfl) (by kernel_rfl))) fun junk=>?_
  refine ao ?_
  refine bM 2 fun c7=>?_
  refine ak ?_
  refine s' (.slice o n33.length d) fO ?_
  refine s' (ae a1) fO ?_
  obtain⟨⟨a9,b0,b1⟩,H⟩:=aO H
  refine s' (.slice (dj o a1 ((d : Nat) : Int) 1) ((n33.length : Int) - a1).toNat (((d : Nat) : Int).toNat - a1.toNat)) (dq (l:=0) (m:=(n33.length : Int)) (a:=a1) (b:=(n33.length : Int)) (q:=((d : Nat) : Int)) (eu.whole (A:=o) (sz:=1) (xs:=n33) (c:=d) (by omega)) Tryz.underlying29 jl rfl rfl rfl rfl (.inr ⟨_,rfl⟩) (.inl ⟨rfl,rfl,rfl⟩) (.inl ⟨rfl,rfl⟩) a9 b0 b1) ?_
  have b5 : eu o (dj o a1 ((d : Nat) : Int) 1) 1 (0 + a1) ((n33.length : Int) - a1) (((d : Nat) : Int).toNat - a1.toNat):=eu.sub (eu.whole (A:=o) (sz:=1) (xs:=n33) (c:=d) (by omega)) a9 b0 b1 (.inl rfl) (Int.le_refl _)
  refine s' (.slice A2 l2.length c2) fO ?_
  obtain⟨n41,Y,H⟩:=bj H
  have hl_n41 : n41.length = n33.length:=by rw [Y]; exact eR (by rw [List.length_take]; omega)
  refine o' (gm (k:=2) (l:=0 + a1) (m:=(n33.length : Int) - a1) (xs:=n33) (ys:=l2) n41 Y b5 rfl Tryz.underlying29 jl rfl rfl rfl (by omega) rfl (pD.slice (Src.buf (k:=0) rfl)) ?_)
  try rewrite [← hl_n41]
  refine bA (ao ?_)
  refine lG jw (bU.thn (bU.thn bU.body)) fun I0 b9 w0 pk=>?_
  refine fb (v:=.slice o n41.length d) 0 (by kernel_rfl) rfl rfl (.no rfl) pk rfl fO ?_
  refine fb (v:=ae a1) 1 (by kernel_rfl) rfl rfl (.no rfl) pk rfl fO ?_
  refine fb (v:=ae n11) 2 (by kernel_rfl) rfl rfl (.no rfl) pk rfl fO ?_
  refine fb (v:=ae (i64.wrap (a1 + n11))) 3 (by kernel_rfl) rfl rfl (.no rfl) pk rfl (bW rfl rfl) ?_
  obtain⟨⟨L,M,N⟩,H⟩:=aO H
  refine fb (v:=.slice (dj o (i64.wrap (a1 + n11)) ((d : Nat) : Int) 1) ((n41.length : Int) - (i64.wrap (a1 + n11))).toNat (((d : Nat) : Int).toNat - (i64.wrap (a1 + n11)).toNat)) 4 (by kernel_rfl) rfl rfl (.no rfl) pk rfl (dq (l:=0) (m:=(n41.length : Int)) (a:=i64.wrap (a1 + n11)) (b:=(n41.length : Int)) (q:=((d : Nat) : Int)) (eu.whole (A:=o) (sz:=1) (xs:=n41) (c:=d) (by omega)) Tryz.underlying29 jl rfl rfl rfl rfl (.inr ⟨_,rfl⟩) (.inl ⟨rfl,rfl,rfl⟩) (.inl ⟨rfl,rfl⟩) L M N) ?_
  have a0 : eu o (dj o (i64.wrap (a1 + n11)) ((d : Nat) : Int) 1) 1 (0 + (i64.wrap (a1 + n11))) ((n41.length : Int) - (i64.wrap (a1 + n11))) (((d : Nat) : Int).toNat - (i64.wrap (a1 + n11)).toNat):=eu.sub (eu.whole (A:=o) (sz:=1) (xs:=n41) (c:=d) (by omega)) L M N (.inl rfl) (Int.le_refl _)
  refine fb (v:=.slice A0 l0.length c0) 5 (by kernel_rfl) rfl rfl (.no rfl) pk rfl fO ?_
  refine fb (v:=ae a1) 6 (by kernel_rfl) rfl rfl (.no rfl) pk rfl fO ?_
  obtain⟨⟨O,R,S⟩,H⟩:=aO H
  refine fb (v:=.slice (dj A0 a1 ((c0 : Nat) : Int) 1) ((l0.length : Int) - a1).toNat (((c0 : Nat) : Int).toNat - a1.toNat)) 7 (by kernel_rfl) rfl rfl (.no rfl) pk rfl (dq (l:=0) (m:=(l0.length : Int)) (a:=a1) (b:=(l0.length : Int)) (q:=((c0 : Nat) : Int)) (eu.whole (A:=A0) (sz:=1) (xs:=l0) (c:=c0) (by omega)) Tryz.underlying29 jl rfl rfl rfl rfl (.inr ⟨_,rfl⟩) (.inl ⟨rfl,rfl,rfl⟩) (.inl ⟨rfl,rfl⟩) O R S) ?_
  have a2 : eu A0 (dj A0 a1 ((c0 : Nat) : Int) 1) 1 (0 + a1) ((l0.length : Int) - a1) (((c0 : Nat) : Int).toNat - a1.toNat):=eu.sub (eu.whole (A:=A0) (sz:=1) (xs:=l0) (c:=c0) (by omega)) O R S (.inl rfl) (Int.le_refl _)
  obtain⟨s,I,H⟩:=bj H
  have hl_n522 : s.length = n41.length:=by rw [I]; exact eR (by rw [List.length_take]; omega)
  refine qI 8 (by kernel_rfl) rfl rfl (.no rfl) (gm (k:=2) (l:=0 + (i64.wrap (a1 + n11))) (m:=(n41.length : Int) - (i64.wrap (a1 + n11))) (xs:=n41) (ys:=sub l0 (0 + a1) ((0 + a1) + ((l0.length : Int) - a1))) s I a0 rfl Tryz.underlying29 jl rfl rfl rfl (by omega) rfl (pD.win (Src.buf (k:=1) rfl) a2 rfl (by omega)) ?_)
  try rewrite [← hl_n522]
  refine aI (by kernel_rfl) ?_
  refine aa (aR ?_)
  refine s' (.slice o s.length d) fO ?_
  refine s' (.slice o s.length d) rN ?_
  refine cD ?_
  have h:=aN H;subst h
  exact dX [2,0] ⟨o,d,rfl,rfl⟩
 subst y
 subst z
 obtain⟨i_,rfl⟩ : ∃ i_ : Nat,a1 = (i_ : Int):=⟨a1.toNat,by omega⟩
 have hwN : i64.wrap ((l0.length : Int) + (l2.length : Int)) = ((l0.length + l2.length : Nat) : Int):=by rw [IntKind.wrap_i64]; omega
 have hwI : i64.wrap ((i_ : Int) + (l2.length : Int)) = ((i_ + l2.length : Nat) : Int):=by rw [IntKind.wrap_i64]; omega
 have hroom : l0.length + l2.length ≤ c0:=by rw [hwN] at U; omega
 refine rM (k:=0) rfl rfl (.inr (by omega)) fun bg J b3 c5 p=>?_
 subst b3
 have p : J.length = c0 * 1:=p
 refine rM (k:=1) rfl rfl (.inr (by omega)) fun hM K b4 a3 F=>?_
 subst b4
 have F : K.length = c2 * 1:=F
 refine aB rfl U ?_
 refine ap (aa (aR ?_))
 refine s' (.slice (some ⟨bg,0 * 1,none⟩) l0.length c0) fO ?_
 refine s' (ae (l0.length : Int)) fO ?_
 refine s' (ae (l2.length : Int)) fO ?_
 refine s' (ae (i64.wrap ((l0.length : Int) + (l2.length : Int)))) (bW rfl rfl) ?_
 refine s' (.slice (some ⟨bg,0 * 1,none⟩) ((l0.length + l2.length) - 0) (c0 - 0)) (ju (o2:=0) (a:=0) (h:=l0.length + l2.length) Tryz.underlying29 jl rfl rfl rfl (.inl ⟨rfl,rfl⟩) (.inr ⟨.i64,congrArg (fun z_=>some (Value.int .i64 z_)) hwN⟩) (by omega) (by omega) (by omega) (by omega)) ?_
 refine s' (.slice (some ⟨bg,0 * 1,none⟩) ((l0.length + l2.length) - 0) (c0 - 0)) rN ?_
 refine eD ?_
 refine s' (.slice (some ⟨hM,0 * 1,none⟩) l2.length c2) fO ?_
 refine s' (.slice (some ⟨bg,0 * 1,none⟩) ((l0.length + l2.length) - 0) (c0 - 0)) fO ?_
 refine s' (ae (i_ : Int)) fO ?_
 refine s' (ae (l2.length : Int)) fO ?_
 refine s' (ae (i64.wrap ((i_ : Int) + (l2.length : Int)))) (bW rfl rfl) ?_
 refine s' (.slice (some ⟨bg,(i_ + l2.length) * 1,none⟩) (((l0.length + l2.length) - 0) - (i_ + l2.length)) ((c0 - 0) - (i_ + l2.length))) (ju (o2:=i_ + l2.length) (a:=i_ + l2.length) (h:=(l0.length + l2.length) - 0) Tryz.underlying29 jl rfl rfl rfl (.inr ⟨.i64,congrArg (fun z_=>some (Value.int .i64 z_)) hwI⟩) (.inl ⟨rfl,rfl⟩) (by omega) (by omega) (by omega) (by omega)) ?_
 refine l' (qh (k:=1) (k':=0) (tb:=4) rfl rfl (by decide) (by intro q_; rw [q_] at p; simp only [List.length_nil] at p; omega) Tryz.func155 yw (by kernel_rfl) (by kernel_rfl) (by kernel_rfl) Tryz.underlying29 jl rfl rfl) ?_
 refine s' (.bool true) (wB rfl) ?_
 refine bA ?_
 refine aD rfl rfl ?_
 refine ao ?_
 refine lG jw (bU.thn (bU.thn bU.body)) fun I0 b9 w0 pk=>?_
 refine fb (v:=.slice (some ⟨bg,0 * 1,none⟩) ((l0.length + l2.length) - 0) (c0 - 0)) 0 (by kernel_rfl) rfl rfl (.no rfl) pk rfl fO ?_
 refine fb (v:=ae (i_ : Int)) 1 (by kernel_rfl) rfl rfl (.no rfl) pk rfl fO ?_
 refine fb (v:=ae (l2.length : Int)) 2 (by kernel_rfl) rfl rfl (.no rfl) pk rfl fO ?_
 refine fb (v:=ae (i64.wrap ((i_ : Int) + (l2.length : Int)))) 3 (by kernel_rfl) rfl rfl (.no rfl) pk rfl (bW rfl rfl) ?_
 refine fb (v:=.slice (some ⟨bg,(i_ + l2.length) * 1,none⟩) (((l0.length + l2.length) - 0) - (i_ + l2.length)) ((c0 - 0) - (i_ + l2.length))) 4 (by kernel_rfl) rfl rfl (.no rfl) pk rfl (ju (o2:=i_ + l2.length) (a:=i_ + l2.length) (h:=(l0.length + l2.length) - 0) Tryz.underlying29 jl rfl rfl rfl (.inr ⟨.i64,congrArg (fun z_=>some (Value.int .i64 z_)) hwI⟩) (.inl ⟨rfl,rfl⟩) (by omega) (by omega) (by omega) (by omega)) ?_
 refine fb (v:=.slice (some ⟨bg,0 * 1,none⟩) ((l0.length + l2.length) - 0) (c0 - 0)) 5 (by kernel_rfl) rfl rfl (.no rfl) pk rfl fO ?_
 refine fb (v:=ae (i_ : Int)) 6 (by kernel_rfl) rfl rfl (.no rfl) pk rfl fO ?_
 refine fb (v:=.slice (some ⟨bg,i_ * 1,none⟩) (((l0.length + l2.length) - 0) - i_) ((c0 - 0) - i_)) 7 (by kernel_rfl) rfl rfl (.no rfl) pk rfl (ju (o2:=i_) (a:=i_) (h:=(l0.length + l2.length) - 0) Tryz.underlying29 jl rfl rfl rfl (.inr ⟨.i64,rfl⟩) (.inl ⟨rfl,rfl⟩) (by omega) (by omega) (by omega) (by omega)) ?_
 refine qI 8 (by kernel_rfl) rfl rfl (.no rfl) (nD (k:=0) (kS:=0) (off:=i_ + l2.length) (so:=i_) (cnt:=l0.length - i_) (es:=(J.drop (i_ * 1)).take ((l0.length - i_) * 1)) rfl Tryz.underlying29 jl rfl rfl rfl (by omega) (by omega) rfl rfl rfl (by omega) (fun I_ h_ s_=>rY (nF (j:=2) rfl s_) (by show _ ≤ l0.length * 1; omega)) ?_)
 refine aI (by kernel_rfl) ?_
 refine aa (aR ?_)
 refine s' (.slice (some ⟨bg,0 * 1,none⟩) ((l0.length + l2.length) - 0) (c0 - 0)) fO ?_
 refine s' (ae (i_ : Int)) fO ?_
 refine s' (.slice (some ⟨bg,i_ * 1,none⟩) (((l0.length + l2.length) - 0) - i_) ((c0 - 0) - i_)) (ju (o2:=i_) (a:=i_) (h:=(l0.length + l2.length) - 0) Tryz.underlying29 jl rfl rfl rfl (.inr ⟨.i64,rfl⟩) (.inl ⟨rfl,rfl⟩) (by omega) (by omega) (by omega) (by omega)) ?_
 refine s' (.slice (some ⟨hM,0 * 1,none⟩) l2.length c2) fO ?_
 refine o' (nD (k:=0) (kS:=1) (off:=i_) (so:=0) (cnt:=l2.length) (es:=(K.drop (0 * 1)).take (l2.length * 1)) rfl Tryz.underlying29 jl rfl rfl rfl (by omega) (by omega) rfl rfl rfl (by omega) (fun I_ h_ s_=>rY (nF (j:=3) rfl s_) (by show _ ≤ l2.length * 1; omega)) ?_)
 refine cP ?_
 refine s' (.slice (some ⟨bg,0 * 1,none⟩) ((l0.length + l2.length) - 0) (c0 - 0)) fO ?_
 refine s' (.slice (some ⟨bg,0 * 1,none⟩) ((l0.length + l2.length) - 0) (c0 - 0)) rN ?_
 refine cD ?_
 have h:=aN H;subst h
 have hln_ : (l0.take (i_ : Int).toNat ++ l2 ++ l0.drop (i_ : Int).toNat).length = l0.length + l2.length:=by simp; omega
 exact mi [gf 3 (some ⟨bg,0,none⟩) c0 (l0.take (i_ : Int).toNat ++ l2 ++ l0.drop (i_ : Int).toNat),gf 3 (some ⟨hM,0,none⟩) c2 l2] rfl rfl ((qe (k:=0) (zs:=l0.take (i_ : Int).toNat ++ l2 ++ l0.drop (i_ : Int).toNat) rfl (by rw [hln_]; omega) (fun I_ h_ s_=>sF (i:=i_) rfl (nF (j:=2) rfl s_) (nF (j:=3) rfl s_) (by omega) (by omega) p (by show l2.length * 1 ≤ _; omega))).trans ((qe (k:=1) (zs:=l2) rfl a3 (fun I_ h_ s_=>nF (j:=3) rfl s_)).trans (eZ [0,1]))) ⟨some ⟨bg,0,none⟩,c0,(by rw [hln_]; rfl),rfl⟩


def lY.f (l0 : (List Int)) (a1 : Int) (a2 : Int) : Option ((List Int)):=if 0 ≤ a1∧a1 ≤ a2∧a2 ≤ (l0.length : Int)∧a2 ≤ (l0.length : Int)∧(l0.length : Int) ≤ (l0.length : Int) then (if a1 = a2 then (some (l0)) else (lt ((l0.length : Int)) fun n10=>if 0 ≤ (0 : Int)∧(0 : Int) ≤ a1∧a1 ≤ (l0.length : Int) then (if 0 ≤ a2∧a2 ≤ (l0.length : Int)∧(l0.length : Int) ≤ (l0.length : Int) then (if (0 + (0 : Int)) + (a1 - (0 : Int)) + ((l0.length : Int) - a2) ≤ (l0.length : Int) then lt (bB l0 ((0 + (0 : Int)) + (a1 - (0 : Int))).toNat (sub l0 (0 + a2) ((0 + a2) + ((l0.length : Int) - a2)))) fun a=>(if 0 ≤ ((a1 - (0 : Int)) + ((l0.length : Int) - a2))∧((a1 - (0 : Int)) + ((l0.length : Int) - a2)) ≤ n10∧(0 + (0 : Int)) + n10 ≤ (a.length : Int) then (if ((0 + (0 : Int)) + ((a1 - (0 : Int)) + ((l0.length : Int) - a2))) + (n10 - ((a1 - (0 : Int)) + ((l0.length : Int) - a2))) ≤ (a.length : Int) then lt (bB a ((0 + (0 : Int)) + ((a1 - (0 : Int)) + ((l0.length : Int) - a2))).toNat (List.replicate (n10 - ((a1 - (0 : Int)) + ((l0.length : Int) - a2))).toNat 0)) fun b=>(some (b.take ((a1 - (0 : Int)) + ((l0.length : Int) - a2)).toNat)) else none) else none) else none) else none) else none)) else none
theorem lY.ok {l0 : (List Int)} {a1 : Int} {a2 : Int} {A0 : Option Addr} {c0 : Nat} {r : (List Int)} (H : lY.f l0 a1 a2 = some r) : dk Tryz.prog 134 #[.slice A0 l0.length c0,ae a1,ae a2] [gf 3 A0 c0 l0] (fun v B=>∃ aS aT,v = .slice aS r.length aT∧B = [gf 3 aS aT r]):=by
 refine aj Tryz.func134 rfl rfl ?_
 unfold lY.f at H
 refine aR (ad aW (h:=bA (ao (bM 0 fun a6=>ak (ad ar (h:=ad ar (h:=ad ar (h:=ad ar (h:=s' (ae (l0.length : Int)) (cO Tryz.underlying29 rfl) ?_)))))))))
 obtain⟨⟨S,U,Y,Z,g7⟩,H⟩:=aO H
 refine s' (.slice (dj A0 a1 (l0.length : Int) 1) (a2 - a1).toNat ((l0.length : Int).toNat - a1.toNat)) (dq (l:=0) (m:=(l0.length : Int)) (a:=a1) (b:=a2) (q:=(l0.length : Int)) (eu.whole (A:=A0) (sz:=1) (xs:=l0) (c:=c0) (by omega)) Tryz.underlying29 jl rfl rfl rfl rfl (.inr ⟨_,rfl⟩) (.inr ⟨_,rfl⟩) (.inr ⟨⟨_,rfl⟩,⟨_,rfl⟩,Z,g7⟩) S U Y) ?_
 have a5 : eu A0 (dj A0 a1 (l0.length : Int) 1) 1 (0 + a1) (a2 - a1) ((l0.length : Int).toNat - a1.toNat):=eu.sub (eu.whole (A:=A0) (sz:=1) (xs:=l0) (c:=c0) (by omega)) S U Y (.inr Z) (Int.le_trans g7 ((eu.whole (A:=A0) (sz:=1) (xs:=l0) (c:=c0) (by omega))).cap)
 refine eD (ad ar (h:=ad ar (h:=ad (bk rfl rfl) (h:=bA ?_))))
 rcases bE H with⟨O,H⟩|⟨O,H⟩
 ·refine aC rfl O (aR (ad ar (h:=ad aW (h:=cD ?_))))
  have h:=aN H;subst h
  exact dX [0] ⟨A0,c0,rfl,rfl⟩
 refine aB rfl O (ap (aa (aR (ad ar (h:=s' (ae (l0.length : Int)) (cO Tryz.underlying29 rfl) ?_)))))
 obtain⟨n10,R,H⟩:=bj H
 refine bP (ae n10) (bo (v:=ae n10) (congrArg (Value.int .i64) R.symm)) (h:=bA (ao ?_))
 refine lG jw (bU.thn bU.body) fun I0 a7 w0 pk=>?_
 refine ca 0 rfl ar (h:=xG 1 rfl ar ?_)
 obtain⟨⟨D,E,F⟩,H⟩:=aO H
 refine BI (.slice (dj A0 (0 : Int) ((c0 : Nat) : Int) 1) (a1 - (0 : Int)).toNat (((c0 : Nat) : Int).toNat - (0 : Int).toNat)) 2 rfl (dq (l:=0) (m:=(l0.length : Int)) (a:=(0 : Int)) (b:=a1) (q:=((c0 : Nat) : Int)) (eu.whole (A:=A0) (sz:=1) (xs:=l0) (c:=c0) (by omega)) Tryz.underlying29 jl rfl rfl rfl rfl (.inl ⟨rfl,rfl⟩) (.inr ⟨_,rfl⟩) (.inl ⟨rfl,rfl⟩) D E F) ?_
 have u : eu A0 (dj A0 (0 : Int) ((c0 : Nat) : Int) 1) 1 (0 + (0 : Int)) (a1 - (0 : Int)) (((c0 : Nat) : Int).toNat - (0 : Int).toNat):=eu.sub (eu.whole (A:=A0) (sz:=1) (xs:=l0) (c:=c0) (by omega)) D E F (.inl rfl) (Int.le_refl _)
 refine ca 3 rfl ar (h:=xG 4 rfl ar ?_)
 obtain⟨⟨I,J,K⟩,H⟩:=aO H
 refine BI (.slice (dj A0 a2 ((c0 : Nat) : Int) 1) ((l0.length : Int) - a2).toNat (((c0 : Nat) : Int).toNat - a2.toNat)) 5 rfl (dq (l:=0) (m:=(l0.length : Int)) (a:=a2) (b:=(l0.length : Int)) (q:=((c0 : Nat) : Int)) (eu.whole (A:=A0) (sz:=1) (xs:=l0) (c:=c0) (by omega)) Tryz.underlying29 jl rfl rfl rfl rfl (.inr ⟨_,rfl⟩) (.inl ⟨rfl,rfl,rfl⟩) (.inl ⟨rfl,rfl⟩) I J K) ?_
 have o : eu A0 (dj A0 a2 ((c0 : Nat) : Int) 1) 1 (0 + a2) ((l0.length : Int) - a2) (((c0 : Nat) : Int).toNat - a2.toNat):=eu.sub (eu.whole (A:=A0) (sz:=1) (xs:=l0) (c:=c0) (by omega)) I J K (.inl rfl) (Int.le_refl _)
 obtain⟨a0,H⟩:=aO H
 obtain⟨s,y,H⟩:=bj H
 have hq372l:=ny (xs:=l0) o.lo o.no (by omega)
 have N : (a1 - (0 : Int)) + ((sub l0 (0 + a2) ((0 + a2) + ((l0.length : Int) - a2))).length : Int) = (a1 - (0 : Int)) + ((l0.length : Int) - a2):=by omega
 have hl_n371 : s.length = l0.length:=by rw [y]; exact eR (by omega)
 have d : eu A0 (dj A0 (0 : Int) ((c0 : Nat) : Int) 1) 1 (0 + (0 : Int)) ((a1 - (0 : Int)) + ((l0.length : Int) - a2)) (((c0 : Nat) : Int).toNat - (0 : Int).toNat):=eu.grow u (by omega) (by omega)
 refine eC 6 rfl (uL (k:=0) (l:=0 + (0 : Int)) (m:=a1 - (0 : Int)) (xs:=l0) (ys:=sub l0 (0 + a2) ((0 + a2) + ((l0.length : Int) - a2))) s y u rfl Tryz.underlying29 pf rfl rfl rfl rfl (ng.win Tryz.underlying29 (Src.buf (k:=0) rfl) o rfl (by omega)) (by omega) (by omega) (N ▸ (ca 7 rfl aW (h:=aI (by kernel_rfl) (aa (aR (bP (.slice (dj A0 (0 : Int) ((c0 : Nat) : Int) 1) ((a1 - (0 : Int)) + ((l0.length : Int) - a2)).toNat (((c0 : Nat) : Int).toNat - (0 : Int).toNat)) fO (h:=bP (.slice (dj A0 (0 : Int) ((c0 : Nat) : Int) 1) ((a1 - (0 : Int)) + ((l0.length : Int) - a2)).toNat (((c0 : Nat) : Int).toNat - (0 : Int).toNat)) fO (h:=bP (ae ((a1 - (0 : Int)) + ((l0.length : Int) - a2))) (jR d Tryz.underlying29 rfl) (h:=S' ar ?_))))))))))
 obtain⟨⟨L,M,a3⟩,H⟩:=aO H
 refine s' (.slice (dj (dj A0 (0 : Int) ((c0 : Nat) : Int) 1) ((a1 - (0 : Int)) + ((l0.length : Int) - a2)) ((((c0 : Nat) : Int).toNat - (0 : Int).toNat : Nat) : Int) 1) (n10 - ((a1 - (0 : Int)) + ((l0.length : Int) - a2))).toNat (((((c0 : Nat) : Int).toNat - (0 : Int).toNat : Nat) : Int).toNat - ((a1 - (0 : Int)) + ((l0.length : Int) - a2)).toNat)) (tq (l:=0 + (0 : Int)) (m:=(a1 - (0 : Int)) + ((l0.length : Int) - a2)) (a:=(a1 - (0 : Int)) + ((l0.length : Int) - a2)) (b:=n10) (q:=((((c0 : Nat) : Int).toNat - (0 : Int).toNat : Nat) : Int)) d Tryz.underlying29 jl rfl rfl rfl rfl (.inr ⟨_,rfl⟩) (.inr ⟨_,rfl⟩) L M (by omega)) ?_
 have p : eu A0 (dj (dj A0 (0 : Int) ((c0 : Nat) : Int) 1) ((a1 - (0 : Int)) + ((l0.length : Int) - a2)) ((((c0 : Nat) : Int).toNat - (0 : Int).toNat : Nat) : Int) 1) 1 ((0 + (0 : Int)) + ((a1 - (0 : Int)) + ((l0.length : Int) - a2))) (n10 - ((a1 - (0 : Int)) + ((l0.length : Int) - a2))) (((((c0 : Nat) : Int).toNat - (0 : Int).toNat : Nat) : Int).toNat - ((a1 - (0 : Int)) + ((l0.length : Int) - a2)).toNat):=eu.sub (eu.grow d (show 0 ≤ n10 by omega) (by omega)) L M (Int.le_refl _) (.inl rfl) (Int.le_refl _)
 obtain⟨a4,H⟩:=aO H
 obtain⟨j,z,H⟩:=bj H
 have hl_n499 : j.length = s.length:=by rw [z]; exact eR (by rw [List.length_replicate]; have:=p.lo; have:=p.no; omega)
 refine o' (sx (k:=0) (l:=(0 + (0 : Int)) + ((a1 - (0 : Int)) + ((l0.length : Int) - a2))) (m:=n10 - ((a1 - (0 : Int)) + ((l0.length : Int) - a2))) (xs:=s) (z0:=0) j z p rfl Tryz.underlying29 np rfl rfl rfl (fun _=>rfl) (by omega) (bA (SA.of_St (l:=[(0,.slice (dj A0 (0 : Int) ((c0 : Nat) : Int) 1) ((a1 - (0 : Int)) + ((l0.length : Int) - a2)).toNat (((c0 : Nat) : Int).toNat - (0 : Int).toNat))]) (B:=[gf 3 A0 c0 j]) (St.mk1 (cB rfl dS) (Gh.sel [0] (by kernel_rfl) (by kernel_rfl))) fun junk=>aR (bP (.slice (dj A0 (0 : Int) ((c0 : Nat) : Int) 1) ((a1 - (0 : Int)) + ((l0.length : Int) - a2)).toNat (((c0 : Nat) : Int).toNat - (0 : Int).toNat)) fO (h:=bP (.slice (dj A0 (0 : Int) ((c0 : Nat) : Int) 1) ((a1 - (0 : Int)) + ((l0.length : Int) - a2)).toNat (((c0 : Nat) : Int).toNat - (0 : Int).toNat)) rN (h:=cC ?_))))))
 have hln_ : (j.take ((a1 - (0 : Int)) + ((l0.length : Int) - a2)).toNat).length = ((a1 - (0 : Int)) + ((l0.length : Int) - a2)).toNat:=by rw [List.length_take]; have:=d.no; omega
 have hva_ : dj A0 (0 : Int) ((c0 : Nat) : Int) 1 = A0:=by simp only [um]
 have hvc_ : ((c0 : Nat) : Int).toNat - (0 : Int).toNat = c0:=by omega
 have h:=aN H;subst h
 exact mi [gf 3 A0 c0 (j.take ((a1 - (0 : Int)) + ((l0.length : Int) - a2)).toNat)] rfl (by show (.slice (dj A0 (0 : Int) ((c0 : Nat) : Int) 1) ((a1 - (0 : Int)) + ((l0.length : Int) - a2)).toNat (((c0 : Nat) : Int).toNat - (0 : Int).toNat) : Value) = _; rw [hln_,hva_,hvc_]) ((tc (k:=0) (((a1 - (0 : Int)) + ((l0.length : Int) - a2)).toNat) rfl).trans (eZ [0])) ⟨A0,c0,rfl,rfl⟩


def iS.f (k : Nat) (p0 : aJ) (a1 : Int) : Option (aJ):=(fR.f k p0.f7 p0.f2).bind (fun a=>lt ((decide (a1 = 0)) && (!a.2)) fun h=>if h = true then ((jr.f p0.f7 a.1 ([p0.f2] : (List Int))).bind (fun c=>some (({ p0 with f7:=c })))) else (lt ((decide (a1 = 1)) && a.2) fun b=>if b = true then ((lY.f p0.f7 a.1 (i64.wrap (a.1 + 1))).bind (fun d=>some (({ p0 with f7:=d })))) else (if a1 = 2 then (some (({ p0 with f7:=([] : (List Int)) }))) else (some (p0)))))
theorem iS.ok {p0 : aJ} {a1 : Int} {r : aJ} (H : iS.f k p0 a1 = some r) : dk Tryz.prog 93 #[.agg #[.pointer (some ⟨bg,0,none⟩)],ae a1] (cN bg p0 af ag ay az au av aw ax) (fun v B=>∃ P0_0_ q0_0_ P0_1_ q0_1_ P0_2_ q0_2_ P0_3_ q0_3_,v = .tuple #[]∧B = (cN bg r P0_0_ q0_0_ P0_1_ q0_1_ P0_2_ q0_2_ P0_3_ q0_3_)):=by
 refine aj Tryz.func93 rfl rfl ?_
 unfold iS.f at H
 refine aR (o' (bO (h:=fun E=>bA (ao (bM 1 fun O=>bM 2 fun R=>bM 3 fun M=>bM 4 fun N=>?_)))))
 refine fj (0::1::2::3::4::5::6::7::8::9::11::12::13::14::15::[]) [0,5] (dt 1 4) fun _ _ _ _ _ sH dd pk=>?_
 refine bc 0 rfl sH aA (h:=bQ 1 rfl sH (aP 1) (h:=bc 2 rfl sH cI (h:=bc 3 rfl sH aA (h:=bQ 4 rfl sH (aP 0) (h:=bc 5 rfl sH aA (h:=bQ 6 rfl sH (aP 1) (h:=bc 7 rfl sH cI (h:=bc 8 rfl sH aA (h:=r' 9 rfl sH (aP 0) ?_)))))))))
 obtain⟨m,K,H⟩:=ac H
 refine dU 10 rfl dd (dc [1] [0,2,3] (fR.ok (A0:=ay) (c0:=az) K) ?_)
 refine bc 11 rfl sH ar (h:=bc 12 rfl sH cr (h:=bc 13 rfl sH cr (h:=bc 14 rfl sH aW (h:=bc 15 rfl sH aW (h:=aV dd sH (aI (by kernel_rfl) (aa (aQ (aR (ad ar (h:=S' (bk rfl rfl) ?_)))))))))))
 refine S' ar ?_
 obtain⟨L,u,H⟩:=bj H
 refine dy 3 [(1,ae a1),(2,aH E),(4,ae m.1),(5,.bool m.2),(26,.bool L)] (aK bg 34 (al p0 af ag ay az au av aw ax)::(bn p0 af ag ay az au av aw ax++[aK E 84 [aH bg]])) ?_ fun junk=>?_
 ·by_cases b : a1 = 0
  ·refine bf (ai b) ar (h:=bf (ai b) (bX rfl) (h:=cd (ai b) (h:=ah ?_)))
   have x_:=fD u ((ai b));exact bK [0,3,2,4,5,1]
  refine cu 2 (am b) (ck (am b) (h:=ah ?_))
  have x_:=fC u ((am b));exact bK [0,3,2,4,5,1]
 refine ad aW (h:=bA ?_)
 rcases bE H with⟨l,H⟩|⟨l,H⟩
 ·refine aD rfl l ?_
  refine fj (0::1::2::3::4::5::6::7::8::9::10::11::12::15::16::[]) [0,5] (dt 1 4) fun _ _ _ _ _ sH dd pk=>?_
  refine bc 0 rfl sH aA (h:=bQ 1 rfl sH (aP 1) (h:=bc 2 rfl sH aA (h:=bQ 3 rfl sH (aP 1) (h:=bc 4 rfl sH cI (h:=bc 5 rfl sH aA (h:=bQ 6 rfl sH (aP 0) (h:=bc 7 rfl sH ar (h:=bc 8 rfl sH aA (h:=r' 9 rfl sH (aP 1) ?_)))))))))
  refine bc 10 rfl sH cI (h:=bc 11 rfl sH aA (h:=bQ 12 rfl sH (aP 0) (h:=dU 13 rfl dd (gE (kd:=(Kd.int .i64)) (zv:=(ae 0)) (sz:=1) (cells:=[ae p0.f2]) (xs:=([p0.f2] : (List Int))) rfl Tryz.underlying29 np jl rfl rfl rfl (by kernel_rfl) rfl rfl (dO (fun x_ : Int=>[Value.int .i64 x_]) (fun _ _=>rfl) (by kernel_rfl)) fun D=>?_))))
  obtain⟨I,y,H⟩:=ac H
  refine dU 14 rfl dd (gy [1,4] [0,2,3] (jr.ok (A0:=ay) (c0:=az) (A2:=some ⟨D,0,none⟩) (c2:=1) y) fun o q=>?_)
  refine bc 15 rfl sH cI (h:=bc 16 rfl sH aA (h:=aV dd sH (eC 17 rfl (cF 0 [.slice o I.length q] (h:=(aI (by kernel_rfl) (aF ?_)))))))
  have h:=aN H;subst h
  exact fG [0,4,2,5,6] ⟨af,ag,o,q,au,av,aw,ax,rfl,rfl⟩
 refine aE rfl l (aR (ad ar (h:=ad (bk rfl rfl) (h:=S' ar ?_))))
 obtain⟨F,j,H⟩:=bj H
 refine dy 2 [(1,ae a1),(2,aH E),(4,ae m.1),(49,.bool F)] (aK bg 34 (al p0 af ag ay az au av aw ax)::(bn p0 af ag ay az au av aw ax++[aK E 84 [aH bg]])) ?_ fun junk=>?_
 ·by_cases a : a1 = 1
  ·refine bf (ai a) ar (h:=cd (ai a) (h:=ah ?_))
   have x_:=fD j ((ai a));exact bK [0,1,2,3,4,5]
  refine cu 1 (am a) (ck (am a) (h:=ah ?_))
  have x_:=fC j ((am a));exact bK [0,1,2,3,4,5]
 refine ad aW (h:=bA ?_)
 rcases bE H with⟨c,H⟩|⟨c,H⟩
 ·refine aD rfl c ?_
  refine fj [0,1,2,3,4,5,6,7,8,9,11,12] [0,5] (dt 1 4) fun _ _ _ _ _ sH dd pk=>?_
  refine bc 0 rfl sH aA (h:=bQ 1 rfl sH (aP 1) (h:=bc 2 rfl sH aA (h:=bQ 3 rfl sH (aP 1) (h:=bc 4 rfl sH cI (h:=bc 5 rfl sH aA (h:=bQ 6 rfl sH (aP 0) (h:=bc 7 rfl sH ar (h:=bc 8 rfl sH ar (h:=T' 9 rfl sH (bW rfl rfl) ?_)))))))))
  obtain⟨J,z,H⟩:=ac H
  refine dU 10 rfl dd (gy [1] [0,2,3] (lY.ok (A0:=ay) (c0:=az) z) fun p s=>?_)
  refine bc 11 rfl sH cI (h:=bc 12 rfl sH aA (h:=aV dd sH (eC 13 rfl (cF 0 [.slice p J.length s] (h:=(aI (by kernel_rfl) (aF ?_)))))))
  have h:=aN H;subst h
  exact fG [0,3,2,4,5] ⟨af,ag,p,s,au,av,aw,ax,rfl,rfl⟩
 refine aE rfl c (aR (ad ar (h:=ad (bk rfl rfl) (h:=ad aW (h:=bA ?_)))))
 rcases bE H with⟨d,H⟩|⟨d,H⟩
 ·refine aC rfl d (ak (ad aA (h:=bp (aP 5) (h:=ad cI (h:=ad aA (h:=o' (cF 0 [.slice none 0 0] (h:=(ah (aF ?_))))))))))
  have h:=aN H;subst h
  exact rH [aK bg 34 (al ({ p0 with f7:=([] : (List Int)) }) af ag none 0 au av aw ax),Buf bD 55 af ag p0.f0.f2,gf 3 none 0 ([] : (List Int)),Buf bD 55 au av p0.f16.f2,kU 21 aw ax p0.f17] rfl ((Gh.nilBuf (Kd.int .i64) 3).trans (eZ [0,1,6,3,4])) ⟨af,ag,none,0,au,av,aw,ax,rfl,rfl⟩
 refine aB rfl d (ap (aF ?_))
 have h:=aN H;subst h
 exact fG [0,1,2,3,4] ⟨af,ag,ay,az,au,av,aw,ax,rfl,rfl⟩


def ko.f (k : Nat) (p0 : aJ) (p1 : Int) : Option (aJ):=(iS.f k p0 p1).bind (fun a=>some (a))
theorem ko.ok {p0 : aJ} {p1 : Int} {r : aJ} (H : ko.f k p0 p1 = some r) : dk Tryz.prog 92 #[.agg #[.pointer (some ⟨bg,0,none⟩)],.pointer (some ⟨hM,0,none⟩)] (aK bg 34 (al p0 af ag ay az au av aw ax)::(bn p0 af ag ay az au av aw ax++[aK hM 3 [ae p1]])) (fun v B=>∃ P0_0_ q0_0_ P0_1_ q0_1_ P0_2_ q0_2_ P0_3_ q0_3_,v = .tuple #[]∧B = (aK bg 34 (al r P0_0_ q0_0_ P0_1_ q0_1_ P0_2_ q0_2_ P0_3_ q0_3_)::(bn r P0_0_ q0_0_ P0_1_ q0_1_ P0_2_ q0_2_ P0_3_ q0_3_++[aK hM 3 [ae p1]]))):=by
 refine aj Tryz.func92 rfl rfl ?_
 unfold ko.f at H
 refine aR (o' (bO (h:=fun q=>bA (bM 1 fun z=>bM 2 fun s=>bM 3 fun u=>bM 4 fun y=>ak (bp (cz q 0 6 [aH bg]) (h:=l' (aP 5) ?_))))))
 obtain⟨D,j,H⟩:=ac H
 refine o' (ed [0,1,2,3,4] [5,6] (iS.ok (bg:=bg) j) fun a l b m c o d p=>?_)
 refine ah ?_
 have h:=aN H;subst h
 exact fG [0,1,2,3,4,5] ⟨a,l,b,m,c,o,d,p,rfl,rfl⟩


def iz.f (k : Nat) (a0 : aJ) (p2000 : Int) : Option (aJ × Int):=(eF.f k a0).bind (fun a=>if (!a) = true then (some (((aJ.mk (bH.mk 0 0 ([] : (List aY))) 0 0 false (cM.mk 0 0 false false false false false false false false) 0 0 ([] : (List Int)) false false false false false false (dz.mk 0 0 false false (cM.mk 0 0 false false false false false false false false)) false (bH.mk 0 0 ([] : (List aY))) ([] : (List Int))),2))) else ((lE.f a0).bind (fun b=>(ko.f k b p2000).bind (fun c=>some ((c,0))))))
theorem iz.ok {a0 : aJ} {p2000 : Int} {r : aJ × Int} (H : iz.f k a0 p2000 = some r) : dk Tryz.prog 62 #[.agg (al a0 af ag ay az au av aw ax).toArray,.func (.func 92) #[] #[.pointer (some ⟨bN,0,none⟩)]] (cH a0 af ag ay az au av aw ax++[aK bN 3 [ae p2000]]) (fun v B=>∃ aS aT bv bx bq br bw bz,v = .tuple #[.agg (al r.1 aS aT bv bx bq br bw bz).toArray,ae r.2]∧B = (bn r.1 aS aT bv bx bq br bw bz++[aK bN 3 [ae p2000]])):=by
 refine aj Tryz.func62 rfl rfl ?_
 unfold iz.f at H
 refine aR (o' (bO (h:=fun b=>o' (cw (h:=fun I=>ad aW (h:=eD (l' (cm 5) ?_)))))))
 obtain⟨R,F,H⟩:=ac H
 refine o' (dc [0,1,2,3] [0,1,2,3,4,5,6] (rJ.ok F) ?_)
 refine ad (bX rfl) (h:=bA ?_)
 rcases bE H with⟨a,H⟩|⟨a,H⟩
 ·refine aD rfl a (aR (bP (.agg (al cy none 0 none 0 none 0 none 0).toArray) dP (h:=o' (bi I 0 6 (al cy none 0 none 0 none 0 none 0) (h:=ad aW (h:=cD ?_))))))
  have h:=aN H;subst h
  exact ma [.cell 4 34,.tmp 5] ((Gh.nilBuf bD 55).trans ((Gh.nilBuf (Kd.int .i64) 3).trans ((Gh.nilBuf bD 55).trans ((Gh.nilBuf (Kd.int .i32) 21).trans (eZ [7,8,9,10,4]))))) ⟨none,0,none,0,none,0,none,0,rfl,rfl⟩ ⟨cV 6,cW,trivial⟩
 refine aE rfl a (ap (aa (aR (l' (cm 5) ?_))))
 obtain⟨N,E,H⟩:=ac H
 refine o' (ed [0,1,2,3] [0,1,2,3,4,5,6] (lE.ok E) fun s J u K y L z M=>?_)
 refine o' (bi b 0 9 (al N s J u K y L z M) (h:=cP (ad ar (h:=s' (.agg #[aH b]) dP ?_))))
 obtain⟨O,D,H⟩:=ac H
 refine o' (ra [9,0,1,2,3,8] [4,5,6,7,10] (jg (vs:=[.agg #[aH b]]) (cap:=[aH bN]) rfl Tryz.func92 Ba rfl rfl) (ko.ok (bg:=b) (hM:=bN) D) ?_)
 rintro _ _⟨c,m,d,o,j,p,l,q,rfl,rfl⟩
 refine cP (bp (cm 0) (h:=o' (bi I 0 10 (al O c m d o j p l q) (h:=ad aW (h:=cC ?_)))))
 have h:=aN H;subst h
 exact du [.cell 4 34,.tmp 5] [1,2,3,4,5] ⟨c,m,d,o,j,p,l,q,rfl,rfl⟩ ⟨cV 10,cW,trivial⟩


def wq.f (k : Nat) (a0 : aJ) (a1 : Int) : Option (aJ × Int):=(iz.f k a0 a1).bind (fun a=>some ((a.1,a.2)))
theorem wq.ok {a0 : aJ} {a1 : Int} {r : aJ × Int} (H : wq.f k a0 a1 = some r) : dk Tryz.prog 37 #[.agg (al a0 af ag ay az au av aw ax).toArray,ae a1] (cH a0 af ag ay az au av aw ax) (fun v B=>∃ aS aT bv bx bq br bw bz,v = .tuple #[.agg (al r.1 aS aT bv bx bq br bw bz).toArray,ae r.2]∧B = (bn r.1 aS aT bv bx bq br bw bz)):=by
 refine aj Tryz.func37 rfl rfl ?_
 unfold wq.f at H
 refine aR (o' (bO (h:=fun y=>o' (bO (h:=fun p=>o' (cw (h:=fun u=>ad aW (h:=cP (bp (cm 4) (h:=s' (.func (.func 92) #[] #[aH p]) (dJ (us:=[aH p]) rfl) ?_))))))))))
 obtain⟨s,q,H⟩:=ac H
 refine o' (ed [0,1,2,3,5] [0,1,2,3,4,6] (iz.ok (bN:=p) q) fun a j b l c m d o=>?_)
 refine ad cr (h:=ad cr (h:=o' (bi u 0 10 (al s.1 a j b l c m d o) (h:=ad aW (h:=cC ?_)))))
 have h:=aN H;subst h
 exact du [.cell 4 34,.tmp 5] [0,1,2,3] ⟨a,j,b,l,c,m,d,o,rfl,rfl⟩ ⟨cV 10,cW,trivial⟩


def iT.f (k : Nat) (p0 : aJ) (a1 : Int) : Option (aJ):=(ef.f p0).bind (fun a=>if (0 ≤ a.1∧0 ≤ a.2∧a.1 + a.2 ≤ (p0.f0.f2.length : Int)) then ((lX.f a1).bind (fun d=>(kB.f (i64.wrap (p0.f2 + d)) p0.f2 p0.f0.f0).bind (fun c=>(jb.f k p0.f0.f2 a.1 a.2 p0.f2 c p0.f4).bind (fun b=>if b.length = p0.f0.f2.length then (some (({ p0 with f0:=(bH.mk p0.f0.f0 p0.f0.f1 b),f3:=false }))) else none)))) else none)
theorem iT.ok {p0 : aJ} {a1 : Int} {r : aJ} (H : iT.f k p0 a1 = some r) : dk Tryz.prog 95 #[.agg #[.pointer (some ⟨bg,0,none⟩)],ae a1] (cN bg p0 af ag ay az au av aw ax) (fun v B=>∃ P0_0_ q0_0_ P0_1_ q0_1_ P0_2_ q0_2_ P0_3_ q0_3_,v = .tuple #[]∧B = (cN bg r P0_0_ q0_0_ P0_1_ q0_1_ P0_2_ q0_2_ P0_3_ q0_3_)):=by
 refine aj Tryz.func95 rfl rfl ?_
 unfold iT.f at H
 refine aR (o' (bO (h:=fun a=>bA (ao (bM 1 fun F=>bM 2 fun I=>bM 3 fun D=>bM 4 fun E=>?_)))))
 refine fN (0::2::3::4::5::6::7::8::9::10::11::12::14::15::16::17::18::19::20::21::22::23::24::25::27::28::29::30::31::[]) (List.toArray ([]::[0]::[]::[2]::[2,3]::[2,3,4]::(dt 2 4)::[]::[7]::[7,8]::[7,8,9]::(dt 7 4)::[]::[0,12]::[0,7,8,9,10,11,12]::[]::[15]::[15,16]::[15,16,17]::(dt 15 4)::[]::[20]::[20,21]::[20,21,22]::(dt 20 4)::(dt 20 5)::(0::7::8::9::10::11::12::14::15::16::17::18::19::20::21::22::23::24::25::[])::[]::[27]::[27,28]::[27,28,29]::(dt 27 4)::(0::2::3::4::5::6::7::8::9::10::11::12::14::15::16::17::18::19::20::21::22::23::24::25::27::28::29::30::31::[])::[])) [aK bg 34 (al p0 af ag ay az au av aw ax),aK a 84 [aH bg]] jw (bU.thn bU.body) fun K J L pk=>?_
 refine gZ 0 [0,5] rfl (cz a 0 1 [aH bg]) (h:=eA (aH a) 2 [0,5] rfl (kv a 0 0) (h:=gZ 3 [0,5] rfl (ij a 0 1) (h:=eA (aH bg) 4 [0,5] rfl cI (h:=eA (sM bg 4) 5 [0,5] rfl (kv bg 0 4) (h:=gZ 6 [0,5] rfl (ij bg 4 0) (h:=eA (aH a) 7 [0,5] rfl (kv a 0 0) (h:=gZ 8 [0,5] rfl (ij a 0 1) (h:=eA (aH bg) 9 [0,5] rfl cI (h:=vS (sM bg 4) 10 [0,5] rfl (kv bg 0 4) ?_)))))))))
 refine gZ 11 [0,5] rfl (ij bg 4 0) (h:=eA (ae a1) 12 [0,5] rfl fO (h:=eA (aH a) 15 [0,5] rfl (kv a 0 0) (h:=gZ 16 [0,5] rfl (ij a 0 1) (h:=eA (aH bg) 17 [0,5] rfl cI (h:=eA (sM bg 4) 18 [0,5] rfl (kv bg 0 4) (h:=gZ 19 [0,5] rfl (ij bg 4 0) (h:=eA (aH a) 20 [0,5] rfl (kv a 0 0) (h:=gZ 21 [0,5] rfl (ij a 0 1) (h:=vS (aH bg) 22 [0,5] rfl cI ?_)))))))))
 refine eA (aH bg) 23 [0,5] rfl (kv bg 0 0) (h:=eA (aH bg) 24 [0,5] rfl (kv bg 0 0) (h:=gZ 25 [0,5] rfl (ij bg 0 0) (h:=eA (aH a) 27 [0,5] rfl (kv a 0 0) (h:=gZ 28 [0,5] rfl (ij a 0 1) (h:=eA (aH bg) 29 [0,5] rfl cI (h:=eA (sM bg 6) 30 [0,5] rfl (kv bg 0 6) (h:=sI 31 [0,5] rfl (cz bg 6 0 (bF p0.f4)) ?_)))))))
 obtain⟨m,s,H⟩:=ac H
 obtain⟨⟨hl76a,hl76b,hl76c⟩,H⟩:=aO H
 refine eX 1 (by kernel_rfl) rfl (.no rfl) (ms [0,1,2,3,4] [5] (ef.ok (bg:=bg) s) ?_)
 rintro _ _⟨u,y,p,rfl,rfl⟩
 refine ⟨fun _=>⟨[0,5],rfl,rfl⟩,?_⟩
 obtain⟨q,o,H⟩:=ac H
 refine eX 13 (by kernel_rfl) rfl (.no rfl) (dc [] [0,1,2,3,4,5] (lX.ok o) ?_)
 refine ⟨fun _=>⟨[0,5],rfl,rfl⟩,?_⟩
 refine vS (ae (i64.wrap (p0.f2 + q))) 14 [0,5] rfl (bW rfl rfl) ?_
 obtain⟨z,d,H⟩:=ac H
 refine eX 26 (by kernel_rfl) rfl (.no rfl) (dc [] [0,1,2,3,4,5] (kB.ok d) ?_)
 refine ⟨fun _=>⟨[0,5],rfl,rfl⟩,?_⟩
 obtain⟨b,j,H⟩:=ac H
 obtain⟨c,H⟩:=aO H
 refine eX 32 (by kernel_rfl) rfl (.no rfl) (dc [1] [0,2,3,4,5] (jb.ok (o0:=m.1) (n0:=m.2) (A0:=af) (c0:=ag) (V0:=u) (v0:=y) (hw0:=p) j) ?_)
 try unfold cN
 try unfold fc
 try unfold al
 try rewrite [← c]
 refine ⟨fun h_=>absurd h_ (by decide),?_⟩
 refine aI (by kernel_rfl) (aa (SA.of_St (l:=[(2,aH a)]) (B:=[aK bg 34 (al ({ p0 with f0:=(bH.mk p0.f0.f0 p0.f0.f1 b) }) af ag ay az au av aw ax),Buf bD 55 af ag b,gf 3 ay az p0.f7,Buf bD 55 au av p0.f16.f2,kU 21 aw ax p0.f17,aK a 84 [aH bg]]) (St.mk1 (cB rfl dS) (Gh.sel [1,0,2,3,4,5] (by kernel_rfl) (by kernel_rfl))) fun junk=>ak (ad aA (h:=bp (aP 5) (h:=ad cI (h:=ad aA (h:=o' (cF 0 [.bool false] (h:=(ah ?_))))))))))
 have h:=aN H;subst h
 exact fG [0,1,2,3,4] ⟨af,ag,ay,az,au,av,aw,ax,rfl,rfl⟩


def kp.f (k : Nat) (p0 : aJ) (p1 : Int) : Option (aJ):=(iT.f k p0 p1).bind (fun a=>some (a))
theorem kp.ok {p0 : aJ} {p1 : Int} {r : aJ} (H : kp.f k p0 p1 = some r) : dk Tryz.prog 94 #[.agg #[.pointer (some ⟨bg,0,none⟩)],.pointer (some ⟨hM,0,none⟩)] (aK bg 34 (al p0 af ag ay az au av aw ax)::(bn p0 af ag ay az au av aw ax++[aK hM 3 [ae p1]])) (fun v B=>∃ P0_0_ q0_0_ P0_1_ q0_1_ P0_2_ q0_2_ P0_3_ q0_3_,v = .tuple #[]∧B = (aK bg 34 (al r P0_0_ q0_0_ P0_1_ q0_1_ P0_2_ q0_2_ P0_3_ q0_3_)::(bn r P0_0_ q0_0_ P0_1_ q0_1_ P0_2_ q0_2_ P0_3_ q0_3_++[aK hM 3 [ae p1]]))):=by
 refine aj Tryz.func94 rfl rfl ?_
 unfold kp.f at H
 refine aR (o' (bO (h:=fun q=>bA (bM 1 fun z=>bM 2 fun s=>bM 3 fun u=>bM 4 fun y=>ak (bp (cz q 0 6 [aH bg]) (h:=l' (aP 5) ?_))))))
 obtain⟨D,j,H⟩:=ac H
 refine o' (ed [0,1,2,3,4] [5,6] (iT.ok (bg:=bg) j) fun a l b m c o d p=>?_)
 refine ah ?_
 have h:=aN H;subst h
 exact fG [0,1,2,3,4,5] ⟨a,l,b,m,c,o,d,p,rfl,rfl⟩


def iA.f (k : Nat) (a0 : aJ) (p2000 : Int) : Option (aJ × Int):=(eF.f k a0).bind (fun a=>if (!a) = true then (some (((aJ.mk (bH.mk 0 0 ([] : (List aY))) 0 0 false (cM.mk 0 0 false false false false false false false false) 0 0 ([] : (List Int)) false false false false false false (dz.mk 0 0 false false (cM.mk 0 0 false false false false false false false false)) false (bH.mk 0 0 ([] : (List aY))) ([] : (List Int))),2))) else ((lE.f a0).bind (fun b=>(kp.f k b p2000).bind (fun c=>some ((c,0))))))
theorem iA.ok {a0 : aJ} {p2000 : Int} {r : aJ × Int} (H : iA.f k a0 p2000 = some r) : dk Tryz.prog 62 #[.agg (al a0 af ag ay az au av aw ax).toArray,.func (.func 94) #[] #[.pointer (some ⟨bN,0,none⟩)]] (cH a0 af ag ay az au av aw ax++[aK bN 3 [ae p2000]]) (fun v B=>∃ aS aT bv bx bq br bw bz,v = .tuple #[.agg (al r.1 aS aT bv bx bq br bw bz).toArray,ae r.2]∧B = (bn r.1 aS aT bv bx bq br bw bz++[aK bN 3 [ae p2000]])):=by
 refine aj Tryz.func62 rfl rfl ?_
 unfold iA.f at H
 refine aR (o' (bO (h:=fun b=>o' (cw (h:=fun I=>ad aW (h:=eD (l' (cm 5) ?_)))))))
 obtain⟨R,F,H⟩:=ac H
 refine o' (dc [0,1,2,3] [0,1,2,3,4,5,6] (rJ.ok F) ?_)
 refine ad (bX rfl) (h:=bA ?_)
 rcases bE H with⟨a,H⟩|⟨a,H⟩
 ·refine aD rfl a (aR (bP (.agg (al cy none 0 none 0 none 0 none 0).toArray) dP (h:=o' (bi I 0 6 (al cy none 0 none 0 none 0 none 0) (h:=ad aW (h:=cD ?_))))))
  have h:=aN H;subst h
  exact ma [.cell 4 34,.tmp 5] ((Gh.nilBuf bD 55).trans ((Gh.nilBuf (Kd.int .i64) 3).trans ((Gh.nilBuf bD 55).trans ((Gh.nilBuf (Kd.int .i32) 21).trans (eZ [7,8,9,10,4]))))) ⟨none,0,none,0,none,0,none,0,rfl,rfl⟩ ⟨cV 6,cW,trivial⟩
 refine aE rfl a (ap (aa (aR (l' (cm 5) ?_))))
 obtain⟨N,E,H⟩:=ac H
 refine o' (ed [0,1,2,3] [0,1,2,3,4,5,6] (lE.ok E) fun s J u K y L z M=>?_)
 refine o' (bi b 0 9 (al N s J u K y L z M) (h:=cP (ad ar (h:=s' (.agg #[aH b]) dP ?_))))
 obtain⟨O,D,H⟩:=ac H
 refine o' (ra [9,0,1,2,3,8] [4,5,6,7,10] (jg (vs:=[.agg #[aH b]]) (cap:=[aH bN]) rfl Tryz.func94 Bb rfl rfl) (kp.ok (bg:=b) (hM:=bN) D) ?_)
 rintro _ _⟨c,m,d,o,j,p,l,q,rfl,rfl⟩
 refine cP (bp (cm 0) (h:=o' (bi I 0 10 (al O c m d o j p l q) (h:=ad aW (h:=cC ?_)))))
 have h:=aN H;subst h
 exact du [.cell 4 34,.tmp 5] [1,2,3,4,5] ⟨c,m,d,o,j,p,l,q,rfl,rfl⟩ ⟨cV 10,cW,trivial⟩


def ws.f (k : Nat) (a0 : aJ) (a1 : Int) : Option (aJ × Int):=(iA.f k a0 a1).bind (fun a=>some ((a.1,a.2)))
theorem ws.ok {a0 : aJ} {a1 : Int} {r : aJ × Int} (H : ws.f k a0 a1 = some r) : dk Tryz.prog 38 #[.agg (al a0 af ag ay az au av aw ax).toArray,ae a1] (cH a0 af ag ay az au av aw ax) (fun v B=>∃ aS aT bv bx bq br bw bz,v = .tuple #[.agg (al r.1 aS aT bv bx bq br bw bz).toArray,ae r.2]∧B = (bn r.1 aS aT bv bx bq br bw bz)):=by
 refine aj Tryz.func38 rfl rfl ?_
 unfold ws.f at H
 refine aR (o' (bO (h:=fun y=>o' (bO (h:=fun p=>o' (cw (h:=fun u=>ad aW (h:=cP (bp (cm 4) (h:=s' (.func (.func 94) #[] #[aH p]) (dJ (us:=[aH p]) rfl) ?_))))))))))
 obtain⟨s,q,H⟩:=ac H
 refine o' (ed [0,1,2,3,5] [0,1,2,3,4,6] (iA.ok (bN:=p) q) fun a j b l c m d o=>?_)
 refine ad cr (h:=ad cr (h:=o' (bi u 0 10 (al s.1 a j b l c m d o) (h:=ad aW (h:=cC ?_)))))
 have h:=aN H;subst h
 exact du [.cell 4 34,.tmp 5] [0,1,2,3] ⟨a,j,b,l,c,m,d,o,rfl,rfl⟩ ⟨cV 10,cW,trivial⟩


def jc.f (p0 : bH) (a1 : Int) : Option ((Int × Int)):=lt (i64.wrap (a1 * p0.f0)) fun a=>if 0 ≤ a∧a ≤ (i64.wrap (a + p0.f0))∧(i64.wrap (a + p0.f0)) ≤ (p0.f2.length : Int)∧(i64.wrap (a + p0.f0)) ≤ (i64.wrap (a + p0.f0))∧(i64.wrap (a + p0.f0)) ≤ (p0.f2.length : Int) then (some (((0 + a : Int),((i64.wrap (a + p0.f0)) - a : Int)))) else none
theorem jc.ok {p0 : bH} {a1 : Int} {r : (Int × Int)} (H : jc.f p0 a1 = some r) : dk Tryz.prog 135 #[.pointer (some ⟨bg,0,none⟩),ae a1] [aK bg 26 [ae p0.f0,ae p0.f1,.slice af p0.f2.length ag],Buf bD 55 af ag p0.f2] (fun v B=>∃ (V0_ : Option Addr) (v0_ : Nat) (_ : eu af V0_ 15 r.1 r.2 v0_),v = .slice V0_ r.2.toNat v0_∧B = [aK bg 26 [ae p0.f0,ae p0.f1,.slice af p0.f2.length ag],Buf bD 55 af ag p0.f2]):=by
 refine aj Tryz.func135 rfl rfl ?_
 unfold jc.f at H
 refine aR (ad aW (h:=cP (ad ar (h:=ad ar (h:=ad cI (h:=ad aA (h:=bp (aP 0) (h:=S' (jt rfl rfl) ?_))))))))
 obtain⟨d,z,H⟩:=bj H
 refine bP (ae d) (bo (v:=ae d) (congrArg (Value.int .i64) z.symm)) (h:=bA (ao (bM 1 fun D=>?_)))
 refine fj (dt 0 19) [0] [1] fun _ _ _ _ _ sH dd pk=>?_
 refine bc 0 rfl sH ar (h:=bc 1 rfl sH cI (h:=bc 2 rfl sH aA (h:=bQ 3 rfl sH (aP 0) (h:=bc 4 rfl sH ar (h:=bc 5 rfl sH ar (h:=bc 6 rfl sH ar (h:=bc 7 rfl sH cI (h:=bc 8 rfl sH aA (h:=r' 9 rfl sH (aP 0) ?_)))))))))
 refine bc 10 rfl sH (bW rfl rfl) (h:=bc 11 rfl sH ar (h:=bc 12 rfl sH ar (h:=bc 13 rfl sH cI (h:=bc 14 rfl sH aA (h:=bQ 15 rfl sH (aP 0) (h:=T' 16 rfl sH (bW rfl rfl) ?_))))))
 obtain⟨⟨j,o,p,s,u⟩,H⟩:=aO H
 refine t' (.slice (dj af d (i64.wrap (d + p0.f0)) 15) ((i64.wrap (d + p0.f0)) - d).toNat ((i64.wrap (d + p0.f0)).toNat - d.toNat)) 17 rfl sH (dq (l:=0) (m:=(p0.f2.length : Int)) (a:=d) (b:=i64.wrap (d + p0.f0)) (q:=i64.wrap (d + p0.f0)) (eu.whole (A:=af) (sz:=15) (xs:=p0.f2) (c:=ag) (by omega)) Tryz.underlying24 cl rfl rfl rfl rfl (.inr ⟨_,rfl⟩) (.inr ⟨_,rfl⟩) (.inr ⟨⟨_,rfl⟩,⟨_,rfl⟩,s,u⟩) j o p) ?_
 have y : eu af (dj af d (i64.wrap (d + p0.f0)) 15) 15 (0 + d) ((i64.wrap (d + p0.f0)) - d) ((i64.wrap (d + p0.f0)).toNat - d.toNat):=eu.sub (eu.whole (A:=af) (sz:=15) (xs:=p0.f2) (c:=ag) (by omega)) j o p (.inr s) (Int.le_trans u ((eu.whole (A:=af) (sz:=15) (xs:=p0.f2) (c:=ag) (by omega))).cap)
 refine kV (.slice (dj af d (i64.wrap (d + p0.f0)) 15) ((i64.wrap (d + p0.f0)) - d).toNat ((i64.wrap (d + p0.f0)).toNat - d.toNat)) 18 rfl sH rN (h:=aV dd sH (aI (by kernel_rfl) (aa (fm ?_))))
 have h:=aN H;subst h
 exact dX [0,1] ⟨dj af d (i64.wrap (d + p0.f0)) 15,(i64.wrap (d + p0.f0)).toNat - d.toNat,y,rfl,rfl⟩


def pM.f (p0 : bH) (a1 : Int) : Option ((List aY)):=lt (i64.wrap (a1 * p0.f0)) fun a=>if 0 ≤ a∧a ≤ (i64.wrap (a + p0.f0))∧(i64.wrap (a + p0.f0)) ≤ (p0.f2.length : Int)∧(i64.wrap (a + p0.f0)) ≤ (i64.wrap (a + p0.f0))∧(i64.wrap (a + p0.f0)) ≤ (p0.f2.length : Int) then lt (sub p0.f2 a (i64.wrap (a + p0.f0))) fun b=>(some (b)) else none
theorem pM.ok {p0 : bH} {a1 : Int} {r : (List aY)} (H : pM.f p0 a1 = some r) : dk Tryz.prog 135 #[.pointer (some ⟨bg,0,none⟩),ae a1] [aK bg 26 [ae p0.f0,ae p0.f1,.slice af p0.f2.length ag],Ro bD af ag p0.f2] (fun v B=>∃ aS aT,v = .slice aS r.length aT∧B = [Ro bD aS aT r,aK bg 26 [ae p0.f0,ae p0.f1,.slice af p0.f2.length ag]]):=by
 refine aj Tryz.func135 rfl rfl ?_
 unfold pM.f at H
 refine aR (ad aW (h:=cP (ad ar (h:=ad ar (h:=ad cI (h:=ad aA (h:=bp (aP 0) (h:=S' (jt rfl rfl) ?_))))))))
 obtain⟨a,s,H⟩:=bj H
 refine bP (ae a) (bo (v:=ae a) (congrArg (Value.int .i64) s.symm)) (h:=bA (ao ?_))
 refine fj (dt 0 19) [0,1] [1] fun _ _ _ _ _ sH dd pk=>?_
 refine bc 0 rfl sH ar (h:=bc 1 rfl sH cI (h:=bc 2 rfl sH aA (h:=bQ 3 rfl sH (aP 0) (h:=bc 4 rfl sH ar (h:=bc 5 rfl sH ar (h:=bc 6 rfl sH ar (h:=bc 7 rfl sH cI (h:=bc 8 rfl sH aA (h:=r' 9 rfl sH (aP 0) ?_)))))))))
 refine bc 10 rfl sH (bW rfl rfl) (h:=bc 11 rfl sH ar (h:=bc 12 rfl sH ar (h:=bc 13 rfl sH cI (h:=bc 14 rfl sH aA (h:=bQ 15 rfl sH (aP 0) (h:=T' 16 rfl sH (bW rfl rfl) ?_))))))
 obtain⟨⟨c,d,j,o,p⟩,H⟩:=aO H
 obtain⟨q,b,H⟩:=bj H
 replace sH:=dE (GP.subN (k:=1) (l:=a) (h:=i64.wrap (a + p0.f0)) (m:=i64.wrap (a + p0.f0)) (sz:=15) b rfl rfl c d j (.inr o)) sH
 refine wa 2 sH rfl rfl (bQ 17 rfl sH (wA (k:=1) (l:=a) (h:=i64.wrap (a + p0.f0)) (m:=i64.wrap (a + p0.f0)) b rfl Tryz.underlying24 cl rfl rfl rfl rfl (.inr ⟨_,rfl⟩) (.inr ⟨_,rfl⟩) (.inr ⟨⟨_,rfl⟩,⟨_,rfl⟩,o,p⟩) c d j) (h:=kV (.slice (dj af a (i64.wrap (a + p0.f0)) 15) q.length ((i64.wrap (a + p0.f0)).toNat - a.toNat)) 18 rfl sH rN (h:=aV dd sH (aI (by kernel_rfl) (aa (fm ?_))))))
 have h:=aN H;subst h
 exact dX [2,0] ⟨dj af a (i64.wrap (a + p0.f0)) 15,(i64.wrap (a + p0.f0)).toNat - a.toNat,rfl,rfl⟩


def qP.l0 (a0 : bH) (a2 : Int) (gB : bH) : Nat → Int → (List aY) → Option ((List aY))
  | 0,_,_=>none
  | k + 1,b,a=>if a.length = gB.f2.length then (if b < (da a2 a0.f1) then ((jc.f (bH.mk gB.f0 gB.f1 a) b).bind (fun nr=>if (0 ≤ nr.1∧0 ≤ nr.2∧nr.1 + nr.2 ≤ (a.length : Int)) then ((pM.f a0 b).bind (fun d=>lt (bB a nr.1.toNat (d.take nr.2.toNat)) fun n41=>((ei.f k n41 nr.1 nr.2).bind (fun c=>if c.length = n41.length then (qP.l0 a0 a2 gB k (i64.wrap (b + 1)) c) else none)))) else none)) else (some a)) else none
def qP.f (k : Nat) (a0 : bH) (a1 : Int) (a2 : Int) (a3 : cM) : Option (bH × Int):=(fL.f k a0).bind (fun j=>(if (!j) = true then (some true) else ((qF.f a1 a2).bind (fun c=>some (!c))) : Option Bool).bind (fun h=>(if h = true then (some true) else ((qb.f a3).bind (fun d=>some (!d))) : Option Bool).bind (fun b=>if b = true then (some (((bH.mk 0 0 ([] : (List aY))),2))) else ((ta.f k a1 a2 a3).bind (fun gB=>(qP.l0 a0 a2 gB k 0 gB.f2 : Option ((List aY))).bind (fun a=>if a.length = gB.f2.length then (some (((bH.mk gB.f0 gB.f1 a),0))) else none))))))
theorem qP.ok {a0 : bH} {a1 : Int} {a2 : Int} {a3 : cM} {r : bH × Int} (H : qP.f k a0 a1 a2 a3 = some r) : dk Tryz.prog 96 #[.agg #[ae a0.f0,ae a0.f1,.slice af a0.f2.length ag],ae a1,ae a2,.agg (bF a3).toArray] [Ro bD af ag a0.f2] (fun v B=>∃ aS aT,v = .tuple #[.agg #[ae r.1.f0,ae r.1.f1,.slice aS r.1.f2.length aT],ae r.2]∧B = [Buf bD 55 aS aT r.1.f2]):=by
 refine aj Tryz.func96 rfl rfl ?_
 unfold qP.f at H
 refine aR (o' (bO (h:=fun s=>o' (bO (h:=fun J=>o' (cw (h:=fun q=>ad aW (h:=eD (l' (cz s 0 1 [ae a0.f0,ae a0.f1,.slice af a0.f2.length ag]) ?_)))))))))
 obtain⟨r8,a5,H⟩:=ac H
 refine o' (dc [0] [0,1,2,3] (zL.ok a5) ?_)
 refine ad (bX rfl) (h:=S' ar ?_)
 obtain⟨q9,H,O⟩:=ac H
 refine dy 5 [(1,ae a1),(2,ae a2),(4,aH s),(7,aH J),(8,aH q),(21,.bool q9)] [aK s 26 [ae a0.f0,ae a0.f1,.slice af a0.f2.length ag],Ro bD af ag a0.f2,aK J 28 (bF a3),aK q 26 [ae 0,ae 0,.slice none 0 0]] ?_ fun junk=>?_
 ·rcases bE H with⟨d,H⟩|⟨d,H⟩
  ·refine cu 4 d (gN d ?_)
   have h:=aN H;subst h
   exact dL [1,0,2,3]
  refine bf (aM d) ar (h:=Y' (aM d) ar ?_)
  obtain⟨b8,R,H⟩:=ac H
  refine fT (aM d) (dc [] [0,1,2,3] (qF.ok R) ?_)
  refine bf (aM d) (bX rfl) (h:=fZ (aM d) ?_)
  have h:=aN H;subst h
  exact dL [1,0,2,3]
 replace H:=O
 refine S' ar ?_
 obtain⟨a7,H,y⟩:=ac H
 refine cK 4 (St [(1,ae a1),(2,ae a2),(4,aH s),(7,aH J),(8,aH q),(26,.bool a7)] [aK s 26 [ae a0.f0,ae a0.f1,.slice af a0.f2.length ag],Ro bD af ag a0.f2,aK J 28 (bF a3),aK q 26 [ae 0,ae 0,.slice none 0 0]]) ?_ ?_
 ·rcases bE H with⟨o,H⟩|⟨o,H⟩
  ·refine cu 3 o (gN o ?_)
   have h:=aN H;subst h
   exact dL [0,1,2,3]
  refine z' (aM o) (cm 2) ?_
  obtain⟨b9,S,H⟩:=ac H
  refine fT (aM o) (dc [] [0,1,2,3] (qb.ok S) ?_)
  refine bf (aM o) (bX rfl) (h:=fZ (aM o) ?_)
  have h:=aN H;subst h
  exact dL [0,1,2,3]
 rintro e ds As K
 clear H
 have H:=y
 clear y
 refine bA (SA.of_St K fun junk=>?_)
 rcases bE H with⟨D,H⟩|⟨D,H⟩
 ·refine aD rfl D (aR (bP (.agg #[ae 0,ae 0,.slice none 0 0]) dP (h:=o' (bi q 0 3 [ae 0,ae 0,.slice none 0 0] (h:=ad aW (h:=cD ?_))))))
  have h:=aN H;subst h
  exact ma [.cell 8 26,.tmp 9] ((Gh.nilBuf bD 55).trans (eZ [4])) ⟨none,0,rfl,rfl⟩ ⟨cV 3,cW,trivial⟩
 refine aE rfl D (ap (aa (aR (ad ar (h:=ad ar (h:=l' (cm 2) ?_))))))
 obtain⟨gB,a4,H⟩:=ac H
 refine o' (gy [] [0,1,2,3] (ta.ok a4) fun b c=>?_)
 refine o' (cw (h:=fun j=>o' (bi j 0 5 [ae gB.f0,ae gB.f1,.slice b gB.f2.length c] (h:=eD (ad ar (h:=ad aA (h:=bp (aP 1) (h:=bP (ae (da a2 a0.f1)) (jK rfl rfl) (h:=ad ar (h:=bA ?_))))))))))
 obtain⟨u,H,z⟩:=ac H
 refine bI (St [(8,aH q),(10,aH j)] [aK q 26 [ae 0,ae 0,.slice none 0 0],aK j 26 [ae gB.f0,ae gB.f1,.slice b u.length c],Buf bD 55 b c u]) ?_ ?_
 ·refine aQ (cj (fun k_ e ds As=>∃ (p : Int) (a : (List aY)),qP.l0 a0 a2 gB k_ p a = some u∧St [(4,aH s),(8,aH q),(10,aH j),(35,ae (da a2 a0.f1)),(36,ae p)] [aK s 26 [ae a0.f0,ae a0.f1,.slice af a0.f2.length ag],Ro bD af ag a0.f2,aK q 26 [ae 0,ae 0,.slice none 0 0],aK j 26 [ae gB.f0,ae gB.f1,.slice b a.length c],Buf bD 55 b c a] e ds As) (k:=k) ⟨_,_,H,jV [1,2,4,5,0]⟩ ?_)
  clear H
  rintro pF e ds As ⟨p,a,H,L⟩
  obtain _ | pF:=pF
  ·cases H
  rw [qP.l0] at H
  obtain⟨b1,H⟩:=aO H
  refine SA.of_St L fun junk=>aR (ad (ce rfl rfl) (h:=bA (ao ?_)))
  rcases bE H with⟨E,H⟩|⟨E,H⟩
  ·refine aC rfl E (ap (aa (ao (aQ (aR (ad ar (h:=ad aW (h:=bA (ao (bM 4 fun b0=>ak (S' ar ?_)))))))))))
   obtain⟨nr,Z,H⟩:=ac H
   obtain⟨⟨hl36a,hl36b,hl36c⟩,H⟩:=aO H
   refine o' (ms [3,4] [0,1,2] (jc.ok (bg:=j) Z) ?_)
   rintro _ _⟨a6,a9,F,rfl,rfl⟩
   refine ad aW (h:=cP (ad ar (h:=S' ar ?_)))
   obtain⟨a8,Y,H⟩:=ac H
   refine o' (gy [2,3] [0,1,3,4] (pM.ok (bg:=s) Y) fun b5 b7=>?_)
   obtain⟨n41,I,H⟩:=bj H
   have hl_n41 : n41.length = a.length:=by rw [I]; exact eR (by rw [List.length_take]; omega)
   refine o' (gm (k:=3) (l:=nr.1) (m:=nr.2) (xs:=a) (ys:=a8) n41 I F rfl Tryz.underlying116 cl rfl rfl rfl (by omega) rfl (pD.slice (Src.ro (k:=0) rfl)) ?_)
   try unfold bF
   try rewrite [← hl_n41]
   refine bA (ak (S' ar ?_))
   obtain⟨c5,U,H⟩:=ac H
   obtain⟨N,H⟩:=aO H
   refine o' (dc [3] [0,1,2,4,5] (ei.ok (o0:=nr.1) (n0:=nr.2) (A0:=b) (c0:=c) (V0:=a6) (v0:=a9) (hw0:=F) U) ?_)
   try unfold bF
   try rewrite [← N]
   refine ah (aF (aa (ak (ad (bW rfl rfl) (h:=ad ar (h:=ah ?_))))))
   exact aa ⟨pF,Nat.lt_succ_self _,_,_,H,dZ [2,4,5,3,0]⟩
  refine aB rfl E (cf (aX (aX (cg ?_))))
  have h:=aN H;subst h
  exact bK [2,3,4]
 rintro e ds As M
 clear H
 have H:=z
 clear z
 obtain⟨b3,H⟩:=aO H
 refine aa (SA.of_St M fun junk=>aR (bp (cz j 0 1 [ae gB.f0,ae gB.f1,.slice b u.length c]) (h:=o' (bi q 0 0 [ae gB.f0,ae gB.f1,.slice b u.length c] (h:=ad aW (h:=cC ?_))))))
 have h:=aN H;subst h
 exact du [.cell 8 26,.tmp 9] [2] ⟨b,c,rfl,rfl⟩ ⟨cV 0,cW,trivial⟩

end Go.Proofs.YtckilbegmbaeeaaGreat.Z6

/- Walks. -/
import Derived.Test.YtckilbegmbaeeaaGreatZ74
namespace Go.Proofs.YtckilbegmbaeeaaGreat.Z7
open Go Go.RowKit Go.Proofs.YtckilbegmbaeeaaGreat.SL
open Go.IntKind (i64)
set_option linter.unusedVariables false
set_option maxHeartbeats 20000000
set_option maxRecDepth 100000
set_option linter.unusedSimpArgs false
attribute [local irreducible] IntKind.wrap dm fE iD md lW rn lM fG ma rd sub bytesOf jD dv
variable {bg ig bS dN kZ ox vf ag az av ax k : Nat}
variable {af ay au aw : Option Addr}
def iv.f (k : Nat) (a0 : aJ) (p2000 : Bool) : Option (aJ × Int):=(eu.f k a0).bind (fun a=>if (!a) = true then (some (((aJ.mk (bJ.mk 0 0 ([] : (List ba))) 0 0 false (cN.mk 0 0 false false false false false false false false) 0 0 ([] : (List Int)) false false false false false false (dH.mk 0 0 false false (cN.mk 0 0 false false false false false false false false)) false (bJ.mk 0 0 ([] : (List ba))) ([] : (List Int))),2))) else ((ly.f a0).bind (fun b=>(jZ.f b p2000).bind (fun c=>some ((c,0))))))
theorem iv.ok {a0 : aJ} {p2000 : Bool} {r : aJ × Int} (H : iv.f k a0 p2000 = some r) : dp Tryz.prog 62 #[.agg (am a0 af ag ay az au av aw ax).toArray,.func (.func 63) #[] #[.pointer (some ⟨bS,0,none⟩)]] (co a0 af ag ay az au av aw ax++[aL bS 4 [.bool p2000]]) (fun v B=>∃ aQ aR bv bx bo bp bw bz,v = .tuple #[.agg (am r.1 aQ aR bv bx bo bp bw bz).toArray,ae r.2]∧B = (bn r.1 aQ aR bv bx bo bp bw bz++[aL bS 4 [.bool p2000]])):=by
 refine aj Tryz.func62 rfl rfl ?_
 unfold iv.f at H
 refine aP (o' (bO (h:=fun b=>o' (cC (h:=fun I=>ad aW (h:=eA (l' (cm 5) ?_)))))))
 obtain⟨R,F,H⟩:=ac H
 refine o' (da [0,1,2,3] [0,1,2,3,4,5,6] (qR.ok F) ?_)
 refine ad (bU rfl) (h:=bA ?_)
 rcases bD H with⟨a,H⟩|⟨a,H⟩
 ·refine aD rfl a (aP (bT (.agg (am cB none 0 none 0 none 0 none 0).toArray) dS (h:=o' (bj I 0 6 (am cB none 0 none 0 none 0 none 0) (h:=ad aW (h:=cA ?_))))))
  have h:=aN H;subst h
  exact lX [.cell 4 34,.tmp 5] ((Gh.nilBuf bI 55).trans ((Gh.nilBuf (Kd.int .i64) 3).trans ((Gh.nilBuf bI 55).trans ((Gh.nilBuf (Kd.int .i32) 21).trans (fk [7,8,9,10,4]))))) ⟨none,0,none,0,none,0,none,0,rfl,rfl⟩ ⟨cW 6,cX,trivial⟩
 refine aE rfl a (ao (aa (aP (l' (cm 5) ?_))))
 obtain⟨N,E,H⟩:=ac H
 refine o' (ef [0,1,2,3] [0,1,2,3,4,5,6] (ly.ok E) fun s J u K y L z M=>?_)
 refine o' (bj b 0 9 (am N s J u K y L z M) (h:=cR (ad ar (h:=s' (.agg #[aI b]) dS ?_))))
 obtain⟨O,D,H⟩:=ac H
 refine o' (re [9,0,1,2,3,8] [4,5,6,7,10] (jj (vs:=[.agg #[aI b]]) (cap:=[aI bS]) rfl Tryz.func63 Bd rfl rfl) (jZ.ok (bg:=b) (ig:=bS) D) ?_)
 rintro _ _⟨c,m,d,o,j,p,l,q,rfl,rfl⟩
 refine cR (bq (cm 0) (h:=o' (bj I 0 10 (am O c m d o j p l q) (h:=ad aW (h:=cD ?_)))))
 have h:=aN H;subst h
 exact dE [.cell 4 34,.tmp 5] [1,2,3,4,5] ⟨c,m,d,o,j,p,l,q,rfl,rfl⟩ ⟨cW 10,cX,trivial⟩


def ws.f (k : Nat) (a0 : aJ) (a1 : Bool) : Option (aJ × Int):=(iv.f k a0 a1).bind (fun a=>some ((a.1,a.2)))
theorem ws.ok {a0 : aJ} {a1 : Bool} {r : aJ × Int} (H : ws.f k a0 a1 = some r) : dp Tryz.prog 17 #[.agg (am a0 af ag ay az au av aw ax).toArray,.bool a1] (co a0 af ag ay az au av aw ax) (fun v B=>∃ aQ aR bv bx bo bp bw bz,v = .tuple #[.agg (am r.1 aQ aR bv bx bo bp bw bz).toArray,ae r.2]∧B = (bn r.1 aQ aR bv bx bo bp bw bz)):=by
 refine aj Tryz.func17 rfl rfl ?_
 unfold ws.f at H
 refine aP (o' (bO (h:=fun y=>o' (bO (h:=fun p=>o' (cC (h:=fun u=>ad aW (h:=cR (bq (cm 4) (h:=s' (.func (.func 63) #[] #[aI p]) (dP (us:=[aI p]) rfl) ?_))))))))))
 obtain⟨s,q,H⟩:=ac H
 refine o' (ef [0,1,2,3,5] [0,1,2,3,4,6] (iv.ok (bS:=p) q) fun a j b l c m d o=>?_)
 refine ad cw (h:=ad cw (h:=o' (bj u 0 10 (am s.1 a j b l c m d o) (h:=ad aW (h:=cD ?_)))))
 have h:=aN H;subst h
 exact dE [.cell 4 34,.tmp 5] [0,1,2,3] ⟨a,j,b,l,c,m,d,o,rfl,rfl⟩ ⟨cW 10,cX,trivial⟩


def gw.f (k : Nat) (p0 : aJ) (a1 : Bool) : Option (aJ):=lt (a1 && (!p0.f15)) fun d=>if d = true then (if 0 ≤ (p0.f0.f2.length : Int)∧(p0.f0.f2.length : Int) ≤ 2932031007402 then lt (List.replicate (p0.f0.f2.length : Int).toNat (ba.mk 0 (fX.mk 0 0 0) 0 (cN.mk 0 0 false false false false false false false false))) fun a=>((cY.f k ({ p0 with f0:=(bJ.mk p0.f0.f0 p0.f0.f1 a),f15:=true,f16:=p0.f0 }) 0 p0.f0.f1).bind (fun c=>some (c))) else none) else (lt ((!a1) && p0.f15) fun b=>if b = true then (some (({ p0 with f0:=p0.f16,f15:=false,f16:=(bJ.mk 0 0 ([] : (List ba))) }))) else (some (p0)))
theorem gw.ok {p0 : aJ} {a1 : Bool} {r : aJ} (H : gw.f k p0 a1 = some r) : dp Tryz.prog 132 #[.agg #[.pointer (some ⟨bg,0,none⟩)],.bool a1] (cQ bg p0 af ag ay az au av aw ax) (fun v B=>∃ P0_0_ q0_0_ P0_1_ q0_1_ P0_2_ q0_2_ P0_3_ q0_3_,v = .tuple #[]∧B = (cQ bg r P0_0_ q0_0_ P0_1_ q0_1_ P0_2_ q0_2_ P0_3_ q0_3_)):=by
 refine aj Tryz.func132 rfl rfl ?_
 unfold gw.f at H
 refine aP (o' (bO (h:=fun o=>bA (aT (aP (ad ar (h:=S' ar ?_)))))))
 obtain⟨Z,M,H⟩:=bi H
 refine dy 7 [(1,.bool a1),(2,aI o),(13,.bool Z)] (aL bg 34 (am p0 af ag ay az au av aw ax)::(bn p0 af ag ay az au av aw ax++[aL o 84 [aI bg]])) ?_ fun junk=>?_
 ·by_cases d : a1 = true
  ·refine aZ d aA (h:=cn d (aO 5) (h:=aZ d cL (h:=aZ d aA (h:=cn d (aO 0) (h:=aZ d (bU rfl) (h:=bY d (h:=ah ?_)))))))
   have x_:=fq M d;exact bH [0,1,2,3,4,5]
  refine ct 6 (aK d) (ca (aK d) (h:=ah ?_))
  have x_:=fp M ((aK d));exact bH [0,1,2,3,4,5]
 refine ad aW (h:=bA ?_)
 rcases bD H with⟨p,H⟩|⟨p,H⟩
 ·refine aD rfl p (ap ?_)
  refine fg [0,1,2,3,4,5,6,7,9,10,12,13] [5] (dC 0 5) fun _ _ _ _ _ sH dd pk=>?_
  refine bf 0 rfl sH aA (h:=bN 1 rfl sH (aO 0) (h:=bf 2 rfl sH aA (h:=bN 3 rfl sH (aO 0) (h:=bf 4 rfl sH aA (h:=bN 5 rfl sH (aO 0) (h:=bf 6 rfl sH cL (h:=bf 7 rfl sH aA (h:=dT 8 rfl dd (dL rfl (cx bg 0 0 [ae p0.f0.f0,ae p0.f0.f1,.slice af p0.f0.f2.length ag]) (T' 9 rfl sH cL ?_))))))))))
  refine bf 10 rfl sH aA (h:=dT 11 rfl dd (cJ 0 [ae p0.f0.f0,ae p0.f0.f1,.slice af p0.f0.f2.length ag] (h:=(bf 12 rfl sH cL (h:=bf 13 rfl sH aA (h:=dT 14 rfl dd (cJ 0 [.bool true] (h:=(aV dd sH (aH (by kernel_rfl) (aa (ap ?_))))))))))))
  refine fg (0::1::2::3::4::5::6::7::8::9::10::11::12::13::14::15::16::17::18::19::20::22::23::24::[]) [0,1] (dC 2 4) fun _ _ _ _ _ sH dd pk=>?_
  refine bf 0 rfl sH aA (h:=bN 1 rfl sH (aO 0) (h:=bf 2 rfl sH aA (h:=bN 3 rfl sH (aO 0) (h:=bf 4 rfl sH cL (h:=bf 5 rfl sH aA (h:=bf 6 rfl sH aA (h:=bN 7 rfl sH (aO 1) (h:=bf 8 rfl sH aA (h:=r' 9 rfl sH (aO 0) ?_)))))))))
  refine bf 10 rfl sH cL (h:=bf 11 rfl sH aA (h:=bf 12 rfl sH aA (h:=bN 13 rfl sH (aO 1) (h:=bf 14 rfl sH aA (h:=bN 15 rfl sH (aO 0) (h:=bf 16 rfl sH cL (h:=bf 17 rfl sH aA (h:=bf 18 rfl sH aA (h:=r' 19 rfl sH (aO 1) ?_)))))))))
  refine t' (ae (p0.f0.f2.length : Int)) 20 rfl sH (cP Tryz.underlying24 rfl) ?_
  obtain⟨⟨K,U⟩,H⟩:=aS H
  obtain⟨b,q,H⟩:=bi H
  refine dT 21 rfl dd (vO (kd:=bI) (sz:=15) (l:=(p0.f0.f2.length : Int)) lu b q rfl Tryz.underlying24 mD rfl rfl K (by omega) (by omega) rfl rfl (fun _=>rfl) fun c=>kQ (.agg #[ae p0.f0.f0,ae p0.f0.f1,.slice (some ⟨c,0,none⟩) b.length ((p0.f0.f2.length : Int).toNat)]) 22 rfl sH dS (h:=bf 23 rfl sH cL (h:=bf 24 rfl sH aA (h:=aV dd sH (eG 25 rfl (cJ 1 [ae p0.f0.f0,ae p0.f0.f1,.slice (some ⟨c,0,none⟩) b.length ((p0.f0.f2.length : Int).toNat)] (h:=(aH (by kernel_rfl) (aa (SA.of_St (l:=[(2,aI o)]) (B:=[aL bg 34 (am ({ p0 with f0:=(bJ.mk p0.f0.f0 p0.f0.f1 b),f15:=true,f16:=p0.f0 }) (some ⟨c,0,none⟩) ((p0.f0.f2.length : Int).toNat) ay az af ag aw ax),Buf bI 55 (some ⟨c,0,none⟩) ((p0.f0.f2.length : Int).toNat) b,gL 3 ay az p0.f7,Buf bI 55 af ag p0.f0.f2,lZ 21 aw ax p0.f17,aL o 84 [aI bg]]) (St.mk1 (cO rfl dY) (Gh.sel [1,6,3,2,5,0] (by kernel_rfl) (by kernel_rfl))) fun junk=>bQ 1 fun N=>?_))))))))))
  refine bQ 2 fun O=>bQ 3 fun R=>bQ 4 fun S=>?_
  refine fg (dC 0 7) [0,5] (dC 1 4) fun _ _ _ _ _ sH dd pk=>?_
  refine bN 0 rfl sH (cx o 0 1 [aI bg]) (h:=bf 1 rfl sH aA (h:=bN 2 rfl sH (aO 1) (h:=bf 3 rfl sH cL (h:=bf 4 rfl sH aA (h:=bf 5 rfl sH aA (h:=bN 6 rfl sH (aO 0) (h:=aV dd sH ?_)))))))
  obtain⟨Y,D,H⟩:=ac H
  refine eG 7 rfl (ef [0,2,3,4,5] [1] (cY.ok (bg:=bg) (ag:=(p0.f0.f2.length : Int).toNat) D) fun s E u F y I z J=>?_)
  refine aH (by kernel_rfl) (aG ?_)
  have h:=aN H;subst h
  exact fH [0,1,2,3,4] ⟨s,E,u,F,y,I,z,J,rfl,rfl⟩
 refine aE rfl p (aP (ad ar (h:=ad (bU rfl) (h:=S' ar ?_))))
 obtain⟨L,m,H⟩:=bi H
 refine dy 6 [(2,aI o),(69,.bool L)] (aL bg 34 (am p0 af ag ay az au av aw ax)::(bn p0 af ag ay az au av aw ax++[aL o 84 [aI bg]])) ?_ fun junk=>?_
 ·by_cases a : (!a1) = true
  ·refine aZ a aA (h:=cn a (aO 5) (h:=aZ a cL (h:=aZ a aA (h:=cn a (aO 0) (h:=bY a (h:=ah ?_))))))
   have x_:=fq m a;exact bH [0,1,2,3,4,5]
  refine ct 5 (aK a) (ca (aK a) (h:=ah ?_))
  have x_:=fp m ((aK a));exact bH [0,1,2,3,4,5]
 refine ad aW (h:=bA ?_)
 rcases bD H with⟨j,H⟩|⟨j,H⟩
 ·refine aD rfl j ?_
  refine fg (0::1::2::3::4::5::6::7::8::9::11::12::13::15::16::18::19::[]) [5] (dC 0 5) fun _ _ _ _ _ sH dd pk=>?_
  refine bf 0 rfl sH aA (h:=bN 1 rfl sH (aO 0) (h:=bf 2 rfl sH aA (h:=bN 3 rfl sH (aO 0) (h:=bf 4 rfl sH aA (h:=bN 5 rfl sH (aO 0) (h:=bf 6 rfl sH aA (h:=bN 7 rfl sH (aO 0) (h:=bf 8 rfl sH cL (h:=T' 9 rfl sH aA ?_)))))))))
  refine kQ (.agg #[ae 0,ae 0,.slice none 0 0]) 11 rfl sH dS (h:=dT 10 rfl dd (dL rfl (cx bg 40 0 [ae p0.f16.f0,ae p0.f16.f1,.slice au p0.f16.f2.length av]) (bf 12 rfl sH cL (h:=bf 13 rfl sH aA (h:=dT 14 rfl dd (cJ 0 [ae p0.f16.f0,ae p0.f16.f1,.slice au p0.f16.f2.length av] (h:=(bf 15 rfl sH cL (h:=bf 16 rfl sH aA (h:=dT 17 rfl dd (cJ 0 [ae 0,ae 0,.slice none 0 0] (h:=(bf 18 rfl sH cL (h:=T' 19 rfl sH aA ?_))))))))))))))
  refine dT 20 rfl dd (cJ 0 [.bool false] (h:=(aV dd sH (aH (by kernel_rfl) (aG ?_)))))
  have h:=aN H;subst h
  exact rM [aL bg 34 (am ({ p0 with f0:=p0.f16,f15:=false,f16:=pB }) au av ay az none 0 aw ax),Buf bI 55 au av p0.f16.f2,gL 3 ay az p0.f7,Buf bI 55 none 0 ([] : (List ba)),lZ 21 aw ax p0.f17] rfl ((Gh.nilBuf bI 55).trans (fk [1,4,3,6,5])) ⟨au,av,ay,az,none,0,aw,ax,rfl,rfl⟩
 refine aE rfl j (ao (aG ?_))
 have h:=aN H;subst h
 exact fH [0,1,2,3,4] ⟨af,ag,ay,az,au,av,aw,ax,rfl,rfl⟩


def iS.f (k : Nat) (p0 : aJ) (a1 : Bool) (a2 : Int) (a3 : Bool) : Option (aJ):=if (!a1) = true then (if a2 = 4 then (some (({ p0 with f10:=a3 }))) else (some (p0))) else (if a2 = 1 then (some (({ p0 with f11:=a3 }))) else (if a2 = 6 then ((fC.f ({ p0 with f9:=a3 }) 0 0).bind (fun d=>some (d))) else (if a2 = 7 then (some (({ p0 with f8:=a3 }))) else (if a2 = 25 then (some (({ p0 with f13:=a3 }))) else (if a2 = 2004 then (some (({ p0 with f12:=a3 }))) else ((if a2 = 47 then (some (decide (a2 = 47))) else (some (decide (a2 = 1047))) : Option (Bool)).bind (fun l=>if l = true then ((gw.f k p0 a3).bind (fun h=>some (h))) else (if a2 = 1049 then ((if a3 = true then ((fN.f p0 false).bind (fun j=>some j)) else (some p0) : Option (aJ)).bind (fun m=>(gw.f k m a3).bind (fun a=>lt ((!a3) && p0.f15) fun b=>if b = true then ((fN.f a true).bind (fun c=>some (c))) else (some (a))))) else (some (p0))))))))))
theorem iS.ok {p0 : aJ} {a1 : Bool} {a2 : Int} {a3 : Bool} {r : aJ} (H : iS.f k p0 a1 a2 a3 = some r) : dp Tryz.prog 91 #[.agg #[.pointer (some ⟨bg,0,none⟩)],.bool a1,ae a2,.bool a3] (cQ bg p0 af ag ay az au av aw ax) (fun v B=>∃ P0_0_ q0_0_ P0_1_ q0_1_ P0_2_ q0_2_ P0_3_ q0_3_,v = .tuple #[]∧B = (cQ bg r P0_0_ q0_0_ P0_1_ q0_1_ P0_2_ q0_2_ P0_3_ q0_3_)):=by
 refine aj Tryz.func91 rfl rfl ?_
 unfold iS.f at H
 refine aP (o' (bO (h:=fun b=>eA (ad ar (h:=ad (bU rfl) (h:=bA ?_))))))
 rcases bD H with⟨h8,H⟩|⟨h8,H⟩
 ·refine aD rfl h8 (ap (aP (ad ar (h:=ad (bk rfl rfl) (h:=bA ?_)))))
  rcases bD H with⟨h9,H⟩|⟨h9,H⟩
  ·refine aC rfl h9 (ak (ad aA (h:=bq (aO 5) (h:=ad ar (h:=ad cL (h:=ad aA (h:=o' (cJ 0 [.bool a3] (h:=(cA ?_))))))))))
   have h:=aN H;subst h
   exact kO (aL bg 34 (am ({ p0 with f10:=a3 }) af ag ay az au av aw ax)::bn p0 af ag ay az au av aw ax) rfl (fk [0,1,2,3,4]) ⟨af,ag,ay,az,au,av,aw,ax,rfl,rfl⟩
  refine aB rfl h9 (ao (aa (eM (aF ?_))))
  have h:=aN H;subst h
  exact kO (cQ bg p0 af ag ay az au av aw ax) rfl (fk [0,1,2,3,4]) ⟨af,ag,ay,az,au,av,aw,ax,rfl,rfl⟩
 refine aE rfl h8 (ao (aa (aP (ad ar (h:=bA (aT (aP (ad (bk rfl rfl) (h:=ad aW (h:=bA ?_))))))))))
 rcases bD H with⟨N,H⟩|⟨N,H⟩
 ·refine aC rfl N (ak (ad aA (h:=bq (aO 5) (h:=ad ar (h:=ad cL (h:=ad aA (h:=o' (cJ 0 [.bool a3] (h:=(ah (aG ?_)))))))))))
  have h:=aN H;subst h
  exact fH [0,1,2,3,4] ⟨af,ag,ay,az,au,av,aw,ax,rfl,rfl⟩
 refine aB rfl N (aP (ad (bk rfl rfl) (h:=ad aW (h:=bA ?_))))
 rcases bD H with⟨O,H⟩|⟨O,H⟩
 ·refine aC rfl O (aP (ad aA (h:=bq (aO 5) (h:=ad ar (h:=ad cL (h:=ad aA (h:=o' (cJ 0 [.bool a3] (h:=(bA (bQ 1 fun f9=>?_)))))))))))
  refine bQ 2 fun g0=>bQ 3 fun g1=>bQ 4 fun g2=>ak (l' (cx b 0 5 [aI bg]) ?_)
  obtain⟨h7,d9,H⟩:=ac H
  refine o' (ef [0,1,2,3,4] [5] (fC.ok (bg:=bg) d9) fun c7 e2 c8 e3 c9 e4 d0 e5=>?_)
  refine ah (aG ?_)
  have h:=aN H;subst h
  exact fH [0,1,2,3,4] ⟨c7,e2,c8,e3,c9,e4,d0,e5,rfl,rfl⟩
 refine aB rfl O (aP (ad (bk rfl rfl) (h:=ad aW (h:=bA ?_))))
 rcases bD H with⟨R,H⟩|⟨R,H⟩
 ·refine aC rfl R (ak (ad aA (h:=bq (aO 5) (h:=ad ar (h:=ad cL (h:=ad aA (h:=o' (cJ 0 [.bool a3] (h:=(ah (aG ?_)))))))))))
  have h:=aN H;subst h
  exact fH [0,1,2,3,4] ⟨af,ag,ay,az,au,av,aw,ax,rfl,rfl⟩
 refine aB rfl R (aP (ad (bk rfl rfl) (h:=ad aW (h:=bA ?_))))
 rcases bD H with⟨S,H⟩|⟨S,H⟩
 ·refine aC rfl S (ak (ad aA (h:=bq (aO 5) (h:=ad ar (h:=ad cL (h:=ad aA (h:=o' (cJ 0 [.bool a3] (h:=(ah (aG ?_)))))))))))
  have h:=aN H;subst h
  exact fH [0,1,2,3,4] ⟨af,ag,ay,az,au,av,aw,ax,rfl,rfl⟩
 refine aB rfl S (aP (ad (bk rfl rfl) (h:=ad aW (h:=bA ?_))))
 rcases bD H with⟨U,H⟩|⟨U,H⟩
 ·refine aC rfl U (ak (ad aA (h:=bq (aO 5) (h:=ad ar (h:=ad cL (h:=ad aA (h:=o' (cJ 0 [.bool a3] (h:=(ah (aG ?_)))))))))))
  have h:=aN H;subst h
  exact fH [0,1,2,3,4] ⟨af,ag,ay,az,au,av,aw,ax,rfl,rfl⟩
 refine aB rfl U (ap (aP (ad (bk rfl rfl) (h:=ad aW (h:=bA ?_)))))
 obtain⟨f4,H,D⟩:=ac H
 refine bK (St [(3,.bool a3),(4,aI b),(18,ae a2),(56,.bool f4)] (aL bg 34 (am p0 af ag ay az au av aw ax)::(bn p0 af ag ay az au av aw ax++[aL b 84 [aI bg]]))) ?_ ?_
 ·rcases bD H with⟨Y,H⟩|⟨Y,H⟩
  ·refine aC rfl Y (ao ?_)
   have h:=aN H;subst h
   exact bH [0,1,2,3,4,5]
  refine aB rfl Y (ak (ad (bk rfl rfl) (h:=ad aW (h:=ah ?_))))
  have h:=aN H;subst h
  exact bH [0,1,2,3,4,5]
 rintro e ds As a6
 clear H
 have H:=D
 clear D
 refine aa (SA.of_St a6 fun junk=>?_)
 rcases bD H with⟨Z,H⟩|⟨Z,H⟩
 ·refine aD rfl Z (bQ 1 fun g3=>bQ 2 fun g4=>bQ 3 fun g5=>bQ 4 fun g6=>ak (bq (cx b 0 5 [aI bg]) (h:=S' ar ?_)))
  obtain⟨i0,e0,H⟩:=ac H
  refine o' (ef [0,1,2,3,4] [5] (gw.ok (bg:=bg) e0) fun d1 e6 d2 e7 d3 e8 d4 e9=>?_)
  refine ah (aG ?_)
  have h:=aN H;subst h
  exact fH [0,1,2,3,4] ⟨d1,e6,d2,e7,d3,e8,d4,e9,rfl,rfl⟩
 refine aE rfl Z (aP (ad (bk rfl rfl) (h:=ad aW (h:=bA ?_))))
 rcases bD H with⟨a0,H⟩|⟨a0,H⟩
 ·refine aC rfl a0 (aP (ad aA (h:=bq (aO 5) (h:=ad cL (h:=ad aA (h:=bq (aO 0) (h:=ad aW (h:=eA (S' ar ?_)))))))))
  refine bA ?_
  obtain⟨a9,H,E⟩:=ac H
  refine bK (fun e ds As=>∃ (p : Option Addr) (F : Nat),∃ (q : Option Addr) (I : Nat),∃ (s : Option Addr) (J : Nat),∃ (u : Option Addr) (K : Nat),St [(3,.bool a3),(4,aI b),(8,.bool p0.f15)] (aL bg 34 (am a9 p F q I s J u K)::(bn a9 p F q I s J u K++[aL b 84 [aI bg]])) e ds As) ?_ ?_
  ·rcases bD H with⟨a4,H⟩|⟨a4,H⟩
   ·refine aD rfl a4 (bQ 1 fun g7=>bQ 2 fun g8=>bQ 3 fun g9=>bQ 4 fun h0=>ak (l' (cx b 0 5 [aI bg]) ?_))
    obtain⟨i1,e1,H⟩:=ac H
    refine o' (ef [0,1,2,3,4] [5] (fN.ok (bg:=bg) e1) fun d5 f0 d6 f1 d7 f2 d8 f3=>?_)
    refine ah ?_
    have h:=aN H;subst h
    exact aa ⟨d5,f0,d6,f1,d7,f2,d8,f3,eb [0,1,2,3,4,5]⟩
   refine aE rfl a4 (ao ?_)
   have h:=aN H;subst h
   exact aa ⟨af,ag,ay,az,au,av,aw,ax,eb [0,1,2,3,4,5]⟩
  rintro e ds As ⟨p,F,q,I,s,J,u,K,a7⟩
  clear H
  have H:=E
  clear E
  refine aa (SA.of_St a7 fun junk=>ap (bQ 1 fun h1=>bQ 2 fun h3=>bQ 3 fun h4=>bQ 4 fun h5=>ak (bq (cx b 0 5 [aI bg]) (h:=S' ar ?_))))
  obtain⟨a8,b5,H⟩:=ac H
  refine o' (ef [0,1,2,3,4] [5] (gw.ok (bg:=bg) b5) fun y L z M c j d l=>?_)
  refine cR (ad ar (h:=ad (bU rfl) (h:=S' ar ?_)))
  obtain⟨c6,o,H⟩:=bi H
  refine cI 2 (St [(4,aI b),(79,.bool c6)] (aL bg 34 (am a8 y L z M c j d l)::(bn a8 y L z M c j d l++[aL b 84 [aI bg]]))) ?_ ?_
  ·by_cases a : (!a3) = true
   ·refine aZ a ar (h:=bY a (h:=ah ?_))
    have x_:=fq o a;exact bH [0,1,2,3,4,5]
   refine ct 1 (aK a) (ca (aK a) (h:=ah ?_))
   have x_:=fp o ((aK a));exact bH [0,1,2,3,4,5]
  rintro e ds As a5
  refine bA (SA.of_St a5 fun junk=>?_)
  rcases bD H with⟨m,H⟩|⟨m,H⟩
  ·refine aD rfl m (bQ 1 fun f5=>bQ 2 fun f6=>bQ 3 fun f7=>bQ 4 fun f8=>ak (l' (cx b 0 5 [aI bg]) ?_))
   obtain⟨h6,b4,H⟩:=ac H
   refine o' (ef [0,1,2,3,4] [5] (fN.ok (bg:=bg) b4) fun b0 b7 b1 b8 b2 b9 b3 c5=>?_)
   refine ah (aG ?_)
   have h:=aN H;subst h
   exact fH [0,1,2,3,4] ⟨b0,b7,b1,b8,b2,b9,b3,c5,rfl,rfl⟩
  refine aE rfl m (ao (aG ?_))
  have h:=aN H;subst h
  exact fH [0,1,2,3,4] ⟨y,L,z,M,c,j,d,l,rfl,rfl⟩
 refine aB rfl a0 (ao (aG ?_))
 have h:=aN H;subst h
 exact fH [0,1,2,3,4] ⟨af,ag,ay,az,au,av,aw,ax,rfl,rfl⟩


def kp.f (k : Nat) (p0 : aJ) (p1 : Bool) (p2 : Int) (p3 : Bool) : Option (aJ):=(iS.f k p0 p1 p2 p3).bind (fun a=>some (a))
theorem kp.ok {p0 : aJ} {p1 : Bool} {p2 : Int} {p3 : Bool} {r : aJ} (H : kp.f k p0 p1 p2 p3 = some r) : dp Tryz.prog 90 #[.agg #[.pointer (some ⟨bg,0,none⟩)],.pointer (some ⟨ig,0,none⟩),.pointer (some ⟨ox,0,none⟩),.pointer (some ⟨vf,0,none⟩)] (aL bg 34 (am p0 af ag ay az au av aw ax)::(bn p0 af ag ay az au av aw ax++[aL ig 4 [.bool p1],aL ox 3 [ae p2],aL vf 4 [.bool p3]])) (fun v B=>∃ P0_0_ q0_0_ P0_1_ q0_1_ P0_2_ q0_2_ P0_3_ q0_3_,v = .tuple #[]∧B = (aL bg 34 (am r P0_0_ q0_0_ P0_1_ q0_1_ P0_2_ q0_2_ P0_3_ q0_3_)::(bn r P0_0_ q0_0_ P0_1_ q0_1_ P0_2_ q0_2_ P0_3_ q0_3_++[aL ig 4 [.bool p1],aL ox 3 [ae p2],aL vf 4 [.bool p3]]))):=by
 refine aj Tryz.func90 rfl rfl ?_
 unfold kp.f at H
 refine aP (o' (bO (h:=fun q=>bA (bQ 1 fun s=>bQ 2 fun u=>bQ 3 fun y=>bQ 4 fun z=>ak (bq (cx q 0 8 [aI bg]) (h:=l' (aO 5) ?_))))))
 refine bq (aO 6) (h:=l' (aO 7) ?_)
 obtain⟨D,j,H⟩:=ac H
 refine o' (ef [0,1,2,3,4] [5,6,7,8] (iS.ok (bg:=bg) j) fun a l b m c o d p=>?_)
 refine ah ?_
 have h:=aN H;subst h
 exact fH [0,1,2,3,4,5,6,7] ⟨a,l,b,m,c,o,d,p,rfl,rfl⟩


def gx.f (k : Nat) (a0 : aJ) (p2000 : Bool) (p2001 : Int) (p2002 : Bool) : Option (aJ × Int):=(eu.f k a0).bind (fun a=>if (!a) = true then (some (((aJ.mk (bJ.mk 0 0 ([] : (List ba))) 0 0 false (cN.mk 0 0 false false false false false false false false) 0 0 ([] : (List Int)) false false false false false false (dH.mk 0 0 false false (cN.mk 0 0 false false false false false false false false)) false (bJ.mk 0 0 ([] : (List ba))) ([] : (List Int))),2))) else ((ly.f a0).bind (fun b=>(kp.f k b p2000 p2001 p2002).bind (fun oO=>some ((oO,0))))))
theorem gx.ok {a0 : aJ} {p2000 : Bool} {p2001 : Int} {p2002 : Bool} {r : aJ × Int} (H : gx.f k a0 p2000 p2001 p2002 = some r) : dp Tryz.prog 62 #[.agg (am a0 af ag ay az au av aw ax).toArray,.func (.func 90) #[] #[.pointer (some ⟨bS,0,none⟩),.pointer (some ⟨dN,0,none⟩),.pointer (some ⟨kZ,0,none⟩)]] (co a0 af ag ay az au av aw ax++[aL bS 4 [.bool p2000],aL dN 3 [ae p2001],aL kZ 4 [.bool p2002]]) (fun v B=>∃ aQ aR bv bx bo bp bw bz,v = .tuple #[.agg (am r.1 aQ aR bv bx bo bp bw bz).toArray,ae r.2]∧B = (bn r.1 aQ aR bv bx bo bp bw bz++[aL bS 4 [.bool p2000],aL dN 3 [ae p2001],aL kZ 4 [.bool p2002]])):=by
 refine aj Tryz.func62 rfl rfl ?_
 unfold gx.f at H
 refine aP (o' (bO (h:=fun c=>o' (cC (h:=fun b=>ad aW (h:=eA (l' (cm 7) ?_)))))))
 obtain⟨R,O,H⟩:=ac H
 refine o' (da [0,1,2,3] [0,1,2,3,4,5,6,7,8] (qR.ok O) ?_)
 refine ad (bU rfl) (h:=bA ?_)
 rcases bD H with⟨y,H⟩|⟨y,H⟩
 ·refine aD rfl y (aP (bT (.agg (am cB none 0 none 0 none 0 none 0).toArray) dS (h:=o' (bj b 0 8 (am cB none 0 none 0 none 0 none 0) (h:=ad aW (h:=cA ?_))))))
  have h:=aN H;subst h
  exact lX [.cell 4 34,.tmp 5] ((Gh.nilBuf bI 55).trans ((Gh.nilBuf (Kd.int .i64) 3).trans ((Gh.nilBuf bI 55).trans ((Gh.nilBuf (Kd.int .i32) 21).trans (fk [9,10,11,12,4,5,6]))))) ⟨none,0,none,0,none,0,none,0,rfl,rfl⟩ ⟨cW 8,cX,trivial⟩
 refine aE rfl y (ao (aa (aP (l' (cm 7) ?_))))
 obtain⟨a,N,H⟩:=ac H
 refine o' (ef [0,1,2,3] [0,1,2,3,4,5,6,7,8] (ly.ok N) fun d p j q m s o u=>?_)
 refine o' (bj c 0 11 (am a d p j q m s o u) (h:=bA (SA.of_St (l:=[(1,.func (.func 90) #[] #[aI bS,aI dN,aI kZ]),(2,aI c),(4,aI b)]) (B:=[aL kZ 4 [.bool p2002],aL dN 3 [ae p2001],aL bS 4 [.bool p2000],aL c 34 (am a d p j q m s o u),Buf bI 55 d p a.f0.f2,gL 3 j q a.f7,Buf bI 55 m s a.f16.f2,lZ 21 o u a.f17,aL b 34 (am cB none 0 none 0 none 0 none 0)]) (St.mk1 (cO rfl (cO rfl (cO rfl dY))) (Gh.sel [10,9,8,11,0,1,2,3,12] (by kernel_rfl) (by kernel_rfl))) fun junk=>aP (ad ar (h:=s' (.agg #[aI c]) dS ?_)))))
 obtain⟨oO,M,H⟩:=ac H
 refine o' (re [3,4,5,6,7,2,1,0] [8] (jj (vs:=[.agg #[aI c]]) (cap:=[aI bS,aI dN,aI kZ]) rfl Tryz.func90 Bo rfl rfl) (kp.ok (bg:=c) (ig:=bS) (ox:=dN) (vf:=kZ) M) ?_)
 rintro _ _⟨z,I,D,J,E,K,F,L,rfl,rfl⟩
 refine cR (bq (cm 0) (h:=o' (bj b 0 8 (am oO z I D J E K F L) (h:=ad aW (h:=cD ?_)))))
 have h:=aN H;subst h
 exact dE [.cell 4 34,.tmp 5] [1,2,3,4,5,6,7] ⟨z,I,D,J,E,K,F,L,rfl,rfl⟩ ⟨cW 8,cX,trivial⟩


def wD.f (k : Nat) (a0 : aJ) (a1 : Bool) (a2 : Int) (a3 : Bool) : Option (aJ × Int):=(gx.f k a0 a1 a2 a3).bind (fun a=>some ((a.1,a.2)))
theorem wD.ok {a0 : aJ} {a1 : Bool} {a2 : Int} {a3 : Bool} {r : aJ × Int} (H : wD.f k a0 a1 a2 a3 = some r) : dp Tryz.prog 36 #[.agg (am a0 af ag ay az au av aw ax).toArray,.bool a1,ae a2,.bool a3] (co a0 af ag ay az au av aw ax) (fun v B=>∃ aQ aR bv bx bo bp bw bz,v = .tuple #[.agg (am r.1 aQ aR bv bx bo bp bw bz).toArray,ae r.2]∧B = (bn r.1 aQ aR bv bx bo bp bw bz)):=by
 refine aj Tryz.func36 rfl rfl ?_
 unfold wD.f at H
 refine aP (o' (bO (h:=fun D=>o' (bO (h:=fun q=>o' (bO (h:=fun s=>o' (bO (h:=fun a=>o' (cC (h:=fun y=>ad aW (h:=cR (bq (cm 4) (h:=s' (.func (.func 90) #[] #[aI q,aI s,aI a]) (dP (us:=[aI q,aI s,aI a]) rfl) ?_))))))))))))))
 obtain⟨z,u,H⟩:=ac H
 refine o' (ef [0,1,2,3,5,6,7] [0,1,2,3,4,8] (gx.ok (bS:=q) (dN:=s) (kZ:=a) u) fun b l c m d o j p=>?_)
 refine ad cw (h:=ad cw (h:=o' (bj y 0 12 (am z.1 b l c m d o j p) (h:=ad aW (h:=cD ?_)))))
 have h:=aN H;subst h
 exact dE [.cell 8 34,.tmp 9] [0,1,2,3] ⟨b,l,c,m,d,o,j,p,rfl,rfl⟩ ⟨cW 12,cX,trivial⟩


def jr.f (l0 : (List Int)) (a1 : Int) (l2 : (List Int)) : Option ((List Int)):=if 0 ≤ a1∧a1 ≤ (l0.length : Int)∧(l0.length : Int) ≤ (l0.length : Int) then (lt ((l2.length : Int)) fun n11=>if n11 = 0 then (some (l0)) else (lt ((l0.length : Int)) fun n13=>if a1 = n13 then (if l0.length + l2.length ≤ 17592186044416 then lt (l0 ++ l2) fun n19=>(some (n19)) else none) else (if l0.length + l2.length ≤ 17592186044416 then some (l0.take a1.toNat ++ l2 ++ l0.drop a1.toNat) else none))) else none
theorem jr.ok {l0 : (List Int)} {a1 : Int} {l2 : (List Int)} {A0 : Option Addr} {c0 : Nat} {A2 : Option Addr} {c2 : Nat} {r : (List Int)} (H : jr.f l0 a1 l2 = some r) : dp Tryz.prog 133 #[.slice A0 l0.length c0,ae a1,.slice A2 l2.length c2] [gL 3 A0 c0 l0,gL 3 A2 c2 l2] (fun v B=>∃ aQ aR,v = .slice aQ r.length aR∧B = [gL 3 aQ aR r,gL 3 A2 c2 l2]):=by
 refine aj Tryz.func133 rfl rfl ?_
 unfold jr.f at H
 refine aP ?_
 refine s' (.slice none 0 0) rR ?_
 refine bA (ap ?_)
 refine bQ 0 fun d1=>?_
 refine bQ 1 fun d2=>?_
 refine ak ?_
 refine s' (.slice A0 l0.length c0) fP ?_
 refine s' (ae a1) fP ?_
 obtain⟨⟨g5,g6,g7⟩,H⟩:=aS H
 refine s' (.slice (dv A0 a1 ((c0 : Nat) : Int) 1) ((l0.length : Int) - a1).toNat (((c0 : Nat) : Int).toNat - a1.toNat)) (dA (l:=0) (m:=(l0.length : Int)) (a:=a1) (b:=(l0.length : Int)) (q:=((c0 : Nat) : Int)) (ey.whole (A:=A0) (sz:=1) (xs:=l0) (c:=c0) (by omega)) Tryz.underlying29 jm rfl rfl rfl rfl (.inr ⟨_,rfl⟩) (.inl ⟨rfl,rfl,rfl⟩) (.inl ⟨rfl,rfl⟩) g5 g6 g7) ?_
 have c6 : ey A0 (dv A0 a1 ((c0 : Nat) : Int) 1) 1 (0 + a1) ((l0.length : Int) - a1) (((c0 : Nat) : Int).toNat - a1.toNat):=ey.sub (ey.whole (A:=A0) (sz:=1) (xs:=l0) (c:=c0) (by omega)) g5 g6 g7 (.inl rfl) (Int.le_refl _)
 refine cR ?_
 refine s' (.slice A2 l2.length c2) fP ?_
 refine s' (ae (l2.length : Int)) (cP Tryz.underlying29 rfl) ?_
 obtain⟨n11,y,H⟩:=bi H
 refine s' (ae n11) (bu (v:=ae n11) (congrArg (Value.int .i64) y.symm)) ?_
 refine eA ?_
 refine s' (ae n11) fP ?_
 refine s' (.bool (decide (n11 = 0))) (bk rfl rfl) ?_
 refine bA ?_
 by_cases D : n11 = 0
 ·replace H:=ll D H
  refine aC rfl D ?_
  refine aP ?_
  refine s' (.slice A0 l0.length c0) fP ?_
  refine s' (.slice A0 l0.length c0) rR ?_
  refine cA ?_
  have h:=aN H;subst h
  exact dJ [0,1] ⟨A0,c0,rfl,rfl⟩
 replace H:=lk D H
 refine aB rfl D ?_
 refine ao (aa (aP ?_))
 refine s' (.slice A0 l0.length c0) fP ?_
 refine s' (ae (l0.length : Int)) (cP Tryz.underlying29 rfl) ?_
 obtain⟨n13,z,H⟩:=bi H
 refine s' (ae n13) (bu (v:=ae n13) (congrArg (Value.int .i64) z.symm)) ?_
 refine eA ?_
 refine s' (ae a1) fP ?_
 refine s' (ae n13) fP ?_
 refine s' (.bool (decide (a1 = n13))) (bk rfl rfl) ?_
 refine bA ?_
 by_cases E : a1 = n13
 ·replace H:=ll E H
  refine aC rfl E ?_
  refine aP ?_
  refine s' (.slice A0 l0.length c0) fP ?_
  refine s' (.slice A2 l2.length c2) fP ?_
  obtain⟨c9,H⟩:=aS H
  obtain⟨n19,b6,H⟩:=bi H
  refine o' (gm (k:=0) (A:=A0) (c:=c0) (xs:=l0) (ys:=l2) n19 b6 rfl Tryz.underlying29 pg rfl rfl rfl rfl rfl (nk.slice Tryz.underlying29 (Src.buf (k:=1) rfl)) (by omega) (by omega) fun a4 a5=>?_)
  refine s' (.slice a4 n19.length a5) rR ?_
  refine cA ?_
  have h:=aN H;subst h
  exact dJ [0,1] ⟨a4,a5,rfl,rfl⟩
 replace H:=lk E H
 refine aB rfl E ?_
 refine ao (aa (ap (aP ?_)))
 refine s' (ae n13) fP ?_
 refine s' (ae n11) fP ?_
 refine s' (ae (i64.wrap (n13 + n11))) (bX rfl rfl) ?_
 refine s' (.slice A0 l0.length c0) fP ?_
 refine s' (ae (c0 : Int)) (xY Tryz.underlying29 rfl) ?_
 refine s' (.bool (decide ((i64.wrap (n13 + n11)) > (c0 : Int)))) (eN rfl rfl) ?_
 refine bA ?_
 obtain⟨b2,H⟩:=aS H
 by_cases U : (i64.wrap (n13 + n11)) > (c0 : Int)
 ·replace H:=rV (x:=if 0 ≤ (0 : Int)∧(0 : Int) ≤ a1∧a1 ≤ (l0.length : Int) then (if 0 < (i64.wrap ((i64.wrap (n13 + n11)) - a1))∧(sub l0 (0 + (0 : Int)) ((0 + (0 : Int)) + (a1 - (0 : Int)))).length + (i64.wrap ((i64.wrap (n13 + n11)) - a1)).toNat ≤ 17592186044416 then lt ((sub l0 (0 + (0 : Int)) ((0 + (0 : Int)) + (a1 - (0 : Int)))) ++ List.replicate (i64.wrap ((i64.wrap (n13 + n11)) - a1)).toNat 0) fun n33=>(if 0 ≤ a1∧a1 ≤ (n33.length : Int)∧(n33.length : Int) ≤ (n33.length : Int) then (lt (bB n33 (0 + a1).toNat (l2.take ((n33.length : Int) - a1).toNat)) fun n41=>(if 0 ≤ (i64.wrap (a1 + n11))∧(i64.wrap (a1 + n11)) ≤ (n41.length : Int)∧(n41.length : Int) ≤ (n41.length : Int) then (if 0 ≤ a1∧a1 ≤ (l0.length : Int)∧(l0.length : Int) ≤ (l0.length : Int) then (lt (bB n41 (0 + (i64.wrap (a1 + n11))).toNat ((sub l0 (0 + a1) ((0 + a1) + ((l0.length : Int) - a1))).take ((n41.length : Int) - (i64.wrap (a1 + n11))).toNat)) fun s=>(some (s))) else none) else none)) else none) else none) else none) H (tO (z0:=0) (lim:=17592186044416) y z (by omega) (by omega) (by omega) (by omega) b2 (by omega))
  refine aC rfl U ?_
  have hwG : i64.wrap (n13 + n11) = n13 + n11:=by rw [IntKind.wrap_i64]; omega
  have c8 : i64.wrap (i64.wrap (n13 + n11) - a1) = n13 + n11 - a1:=by rw [hwG,IntKind.wrap_i64]; omega
  refine aP ?_
  refine s' (.slice A0 l0.length c0) fP ?_
  refine s' (ae a1) fP ?_
  obtain⟨⟨a6,a7,a8⟩,H⟩:=aS H
  refine s' (.slice (dv A0 (0 : Int) ((c0 : Nat) : Int) 1) (a1 - (0 : Int)).toNat (((c0 : Nat) : Int).toNat - (0 : Int).toNat)) (dA (l:=0) (m:=(l0.length : Int)) (a:=(0 : Int)) (b:=a1) (q:=((c0 : Nat) : Int)) (ey.whole (A:=A0) (sz:=1) (xs:=l0) (c:=c0) (by omega)) Tryz.underlying29 jm rfl rfl rfl rfl (.inl ⟨rfl,rfl⟩) (.inr ⟨_,rfl⟩) (.inl ⟨rfl,rfl⟩) a6 a7 a8) ?_
  have u : ey A0 (dv A0 (0 : Int) ((c0 : Nat) : Int) 1) 1 (0 + (0 : Int)) (a1 - (0 : Int)) (((c0 : Nat) : Int).toNat - (0 : Int).toNat):=ey.sub (ey.whole (A:=A0) (sz:=1) (xs:=l0) (c:=c0) (by omega)) a6 a7 a8 (.inl rfl) (Int.le_refl _)
  refine s' (ae n13) fP ?_
  refine s' (ae n11) fP ?_
  refine s' (ae (i64.wrap (n13 + n11))) (bX rfl rfl) ?_
  refine s' (ae a1) fP ?_
  refine s' (ae (i64.wrap ((i64.wrap (n13 + n11)) - a1))) (cV rfl rfl) ?_
  obtain⟨d0,H⟩:=aS H
  obtain⟨n33,b7,H⟩:=bi H
  have Z:=nC (xs:=l0) u.lo u.no (by omega)
  have b8 : (Value.int .i64 (i64.wrap ((i64.wrap (n13 + n11)) - a1))) = ae (((i64.wrap ((i64.wrap (n13 + n11)) - a1)).toNat : Nat) : Int):=by congr 1; omega
  refine o' (OA.ghost (Gh.nilBuf (Kd.int .i64) 3) (uT (k:=2) (V:=dv A0 (0 : Int) ((c0 : Nat) : Int) 1) (m:=(a1 - (0 : Int)).toNat) (vc:=(((c0 : Nat) : Int).toNat - (0 : Int).toNat)) (xs:=sub l0 (0 + (0 : Int)) ((0 + (0 : Int)) + (a1 - (0 : Int)))) (cnt:=(i64.wrap ((i64.wrap (n13 + n11)) - a1)).toNat) (z0:=0) n33 b7 rfl Tryz.underlying29 Tryz.underlying3 pg rfl rfl (by decide) rfl rfl (Src.win (Src.buf (k:=0) rfl) u rfl (by omega)) Z.symm b8 (fun _=>rfl) (by omega) (by rw [Z]; omega) (by omega) (by omega) fun o d=>?_))
  refine s' (.slice o n33.length d) rR ?_
  refine bA ?_
  refine SA.of_St (l:=[(0,.slice A0 l0.length c0),(1,ae a1),(2,.slice A2 l2.length c2),(7,ae n11),(9,.slice o n33.length d)]) (B:=[gL 3 A2 c2 l2,gL 3 A0 c0 l0,gL 3 o d n33]) (St.mk1 (cO rfl (cO rfl (cO rfl (cO rfl (cO rfl dY))))) (Gh.sel [1,0,2] (by kernel_rfl) (by kernel_rfl))) fun junk=>?_
  refine ap ?_
  refine bQ 2 fun c7=>?_
  refine ak ?_
  refine s' (.slice o n33.length d) fP ?_
  refine s' (ae a1) fP ?_
  obtain⟨⟨a9,b0,b1⟩,H⟩:=aS H
  refine s' (.slice (dv o a1 ((d : Nat) : Int) 1) ((n33.length : Int) - a1).toNat (((d : Nat) : Int).toNat - a1.toNat)) (dA (l:=0) (m:=(n33.length : Int)) (a:=a1) (b:=(n33.length : Int)) (q:=((d : Nat) : Int)) (ey.whole (A:=o) (sz:=1) (xs:=n33) (c:=d) (by omega)) Tryz.underlying29 jm rfl rfl rfl rfl (.inr ⟨_,rfl⟩) (.inl ⟨rfl,rfl,rfl⟩) (.inl ⟨rfl,rfl⟩) a9 b0 b1) ?_
  have b5 : ey o (dv o a1 ((d : Nat) : Int) 1) 1 (0 + a1) ((n33.length : Int) - a1) (((d : Nat) : Int).toNat - a1.toNat):=ey.sub (ey.whole (A:=o) (sz:=1) (xs:=n33) (c:=d) (by omega)) a9 b0 b1 (.inl rfl) (Int.le_refl _)
  refine s' (.slice A2 l2.length c2) fP ?_
  obtain⟨n41,Y,H⟩:=bi H
  have hl_n41 : n41.length = n33.length:=by rw [Y]; exact eU (by rw [List.length_take]; omega)
  refine o' (gn (k:=2) (l:=0 + a1) (m:=(n33.length : Int) - a1) (xs:=n33) (ys:=l2) n41 Y b5 rfl Tryz.underlying29 jm rfl rfl rfl (by omega) rfl (pE.slice (Src.buf (k:=0) rfl)) ?_)
  try rewrite [← hl_n41]
  refine bA (ap ?_)
  refine lB jx (bV.thn (bV.thn bV.body)) fun I0 b9 w0 pk=>?_
  refine fe (v:=.slice o n41.length d) 0 (by kernel_rfl) rfl rfl (.no rfl) pk rfl fP ?_
  refine fe (v:=ae a1) 1 (by kernel_rfl) rfl rfl (.no rfl) pk rfl fP ?_
  refine fe (v:=ae n11) 2 (by kernel_rfl) rfl rfl (.no rfl) pk rfl fP ?_
  refine fe (v:=ae (i64.wrap (a1 + n11))) 3 (by kernel_rfl) rfl rfl (.no rfl) pk rfl (bX rfl rfl) ?_
  obtain⟨⟨L,M,N⟩,H⟩:=aS H
  refine fe (v:=.slice (dv o (i64.wrap (a1 + n11)) ((d : Nat) : Int) 1) ((n41.length : Int) - (i64.wrap (a1 + n11))).toNat (((d : Nat) : Int).toNat - (i64.wrap (a1 + n11)).toNat)) 4 (by kernel_rfl) rfl rfl (.no rfl) pk rfl (dA (l:=0) (m:=(n41.length : Int)) (a:=i64.wrap (a1 + n11)) (b:=(n41.length : Int)) (q:=((d : Nat) : Int)) (ey.whole (A:=o) (sz:=1) (xs:=n41) (c:=d) (by omega)) Tryz.underlying29 jm rfl rfl rfl rfl (.inr ⟨_,rfl⟩) (.inl ⟨rfl,rfl,rfl⟩) (.inl ⟨rfl,rfl⟩) L M N) ?_
  have a0 : ey o (dv o (i64.wrap (a1 + n11)) ((d : Nat) : Int) 1) 1 (0 + (i64.wrap (a1 + n11))) ((n41.length : Int) - (i64.wrap (a1 + n11))) (((d : Nat) : Int).toNat - (i64.wrap (a1 + n11)).toNat):=ey.sub (ey.whole (A:=o) (sz:=1) (xs:=n41) (c:=d) (by omega)) L M N (.inl rfl) (Int.le_refl _)
  refine fe (v:=.slice A0 l0.length c0) 5 (by kernel_rfl) rfl rfl (.no rfl) pk rfl fP ?_
  refine fe (v:=ae a1) 6 (by kernel_rfl) rfl rfl (.no rfl) pk rfl fP ?_
  obtain⟨⟨O,R,S⟩,H⟩:=aS H
  refine fe (v:=.slice (dv A0 a1 ((c0 : Nat) : Int) 1) ((l0.length : Int) - a1).toNat (((c0 : Nat) : Int).toNat - a1.toNat)) 7 (by kernel_rfl) rfl rfl (.no rfl) pk rfl (dA (l:=0) (m:=(l0.length : Int)) (a:=a1) (b:=(l0.length : Int)) (q:=((c0 : Nat) : Int)) (ey.whole (A:=A0) (sz:=1) (xs:=l0) (c:=c0) (by omega)) Tryz.underlying29 jm rfl rfl rfl rfl (.inr ⟨_,rfl⟩) (.inl ⟨rfl,rfl,rfl⟩) (.inl ⟨rfl,rfl⟩) O R S) ?_
  have a2 : ey A0 (dv A0 a1 ((c0 : Nat) : Int) 1) 1 (0 + a1) ((l0.length : Int) - a1) (((c0 : Nat) : Int).toNat - a1.toNat):=ey.sub (ey.whole (A:=A0) (sz:=1) (xs:=l0) (c:=c0) (by omega)) O R S (.inl rfl) (Int.le_refl _)
  obtain⟨s,I,H⟩:=bi H
  have hl_n522 : s.length = n41.length:=by rw [I]; exact eU (by rw [List.length_take]; omega)
  refine qK 8 (by kernel_rfl) rfl rfl (.no rfl) (gn (k:=2) (l:=0 + (i64.wrap (a1 + n11))) (m:=(n41.length : Int) - (i64.wrap (a1 + n11))) (xs:=n41) (ys:=sub l0 (0 + a1) ((0 + a1) + ((l0.length : Int) - a1))) s I a0 rfl Tryz.underlying29 jm rfl rfl rfl (by omega) rfl (pE.win (Src.buf (k:=1) rfl) a2 rfl (by omega)) ?_)
  try rewrite [← hl_n522]
  refine aH (by kernel_rfl) ?_
  refine aa (aP ?_)
  refine s' (.slice o s.length d) fP ?_
  refine s' (.slice o s.length d) rR ?_
  refine cA ?_
  have h:=aN H;subst h
  exact dJ [2,0] ⟨o,d,rfl,rfl⟩
 subst y
 subst z
 obtain⟨i_,rfl⟩ : ∃ i_ : Nat,a1 = (i_ : Int):=⟨a1.toNat,by omega⟩
 have hwN : i64.wrap ((l0.length : Int) + (l2.length : Int)) = ((l0.length + l2.length : Nat) : Int):=by rw [IntKind.wrap_i64]; omega
 have hwI : i64.wrap ((i_ : Int) + (l2.length : Int)) = ((i_ + l2.length : Nat) : Int):=by rw [IntKind.wrap_i64]; omega
 have hroom : l0.length + l2.length ≤ c0:=by rw [hwN] at U; omega
 refine rQ (k:=0) rfl rfl (.inr (by omega)) fun bg J b3 c5 p=>?_
 subst b3
 have p : J.length = c0 * 1:=p
 refine rQ (k:=1) rfl rfl (.inr (by omega)) fun ig K b4 a3 F=>?_
 subst b4
 have F : K.length = c2 * 1:=F
 refine aB rfl U ?_
 refine ao (aa (aP ?_))
 refine s' (.slice (some ⟨bg,0 * 1,none⟩) l0.length c0) fP ?_
 refine s' (ae (l0.length : Int)) fP ?_
 refine s' (ae (l2.length : Int)) fP ?_
 refine s' (ae (i64.wrap ((l0.length : Int) + (l2.length : Int)))) (bX rfl rfl) ?_
 refine s' (.slice (some ⟨bg,0 * 1,none⟩) ((l0.length + l2.length) - 0) (c0 - 0)) (ju (o2:=0) (a:=0) (h:=l0.length + l2.length) Tryz.underlying29 jm rfl rfl rfl (.inl ⟨rfl,rfl⟩) (.inr ⟨.i64,congrArg (fun z_=>some (Value.int .i64 z_)) hwN⟩) (by omega) (by omega) (by omega) (by omega)) ?_
 refine s' (.slice (some ⟨bg,0 * 1,none⟩) ((l0.length + l2.length) - 0) (c0 - 0)) rR ?_
 refine eA ?_
 refine s' (.slice (some ⟨ig,0 * 1,none⟩) l2.length c2) fP ?_
 refine s' (.slice (some ⟨bg,0 * 1,none⟩) ((l0.length + l2.length) - 0) (c0 - 0)) fP ?_
 refine s' (ae (i_ : Int)) fP ?_
 refine s' (ae (l2.length : Int)) fP ?_
 refine s' (ae (i64.wrap ((i_ : Int) + (l2.length : Int)))) (bX rfl rfl) ?_
 refine s' (.slice (some ⟨bg,(i_ + l2.length) * 1,none⟩) (((l0.length + l2.length) - 0) - (i_ + l2.length)) ((c0 - 0) - (i_ + l2.length))) (ju (o2:=i_ + l2.length) (a:=i_ + l2.length) (h:=(l0.length + l2.length) - 0) Tryz.underlying29 jm rfl rfl rfl (.inr ⟨.i64,congrArg (fun z_=>some (Value.int .i64 z_)) hwI⟩) (.inl ⟨rfl,rfl⟩) (by omega) (by omega) (by omega) (by omega)) ?_
 refine l' (qg (k:=1) (k':=0) (tb:=4) rfl rfl (by decide) (by intro q_; rw [q_] at p; simp only [List.length_nil] at p; omega) Tryz.func155 yJ (by kernel_rfl) (by kernel_rfl) (by kernel_rfl) Tryz.underlying29 jm rfl rfl) ?_
 refine s' (.bool true) (wO rfl) ?_
 refine bA ?_
 refine aD rfl rfl ?_
 refine ap ?_
 refine lB jx (bV.thn (bV.thn bV.body)) fun I0 b9 w0 pk=>?_
 refine fe (v:=.slice (some ⟨bg,0 * 1,none⟩) ((l0.length + l2.length) - 0) (c0 - 0)) 0 (by kernel_rfl) rfl rfl (.no rfl) pk rfl fP ?_
 refine fe (v:=ae (i_ : Int)) 1 (by kernel_rfl) rfl rfl (.no rfl) pk rfl fP ?_
 refine fe (v:=ae (l2.length : Int)) 2 (by kernel_rfl) rfl rfl (.no rfl) pk rfl fP ?_
 refine fe (v:=ae (i64.wrap ((i_ : Int) + (l2.length : Int)))) 3 (by kernel_rfl) rfl rfl (.no rfl) pk rfl (bX rfl rfl) ?_
 refine fe (v:=.slice (some ⟨bg,(i_ + l2.length) * 1,none⟩) (((l0.length + l2.length) - 0) - (i_ + l2.length)) ((c0 - 0) - (i_ + l2.length))) 4 (by kernel_rfl) rfl rfl (.no rfl) pk rfl (ju (o2:=i_ + l2.length) (a:=i_ + l2.length) (h:=(l0.length + l2.length) - 0) Tryz.underlying29 jm rfl rfl rfl (.inr ⟨.i64,congrArg (fun z_=>some (Value.int .i64 z_)) hwI⟩) (.inl ⟨rfl,rfl⟩) (by omega) (by omega) (by omega) (by omega)) ?_
 refine fe (v:=.slice (some ⟨bg,0 * 1,none⟩) ((l0.length + l2.length) - 0) (c0 - 0)) 5 (by kernel_rfl) rfl rfl (.no rfl) pk rfl fP ?_
 refine fe (v:=ae (i_ : Int)) 6 (by kernel_rfl) rfl rfl (.no rfl) pk rfl fP ?_
 refine fe (v:=.slice (some ⟨bg,i_ * 1,none⟩) (((l0.length + l2.length) - 0) - i_) ((c0 - 0) - i_)) 7 (by kernel_rfl) rfl rfl (.no rfl) pk rfl (ju (o2:=i_) (a:=i_) (h:=(l0.length + l2.length) - 0) Tryz.underlying29 jm rfl rfl rfl (.inr ⟨.i64,rfl⟩) (.inl ⟨rfl,rfl⟩) (by omega) (by omega) (by omega) (by omega)) ?_
 refine qK 8 (by kernel_rfl) rfl rfl (.no rfl) (nH (k:=0) (kS:=0) (off:=i_ + l2.length) (so:=i_) (cnt:=l0.length - i_) (es:=(J.drop (i_ * 1)).take ((l0.length - i_) * 1)) rfl Tryz.underlying29 jm rfl rfl rfl (by omega) (by omega) rfl rfl rfl (by omega) (fun I_ h_ s_=>sf (nJ (j:=2) rfl s_) (by show _ ≤ l0.length * 1; omega)) ?_)
 refine aH (by kernel_rfl) ?_
 refine aa (aP ?_)
 refine s' (.slice (some ⟨bg,0 * 1,none⟩) ((l0.length + l2.length) - 0) (c0 - 0)) fP ?_
 refine s' (ae (i_ : Int)) fP ?_
 refine s' (.slice (some ⟨bg,i_ * 1,none⟩) (((l0.length + l2.length) - 0) - i_) ((c0 - 0) - i_)) (ju (o2:=i_) (a:=i_) (h:=(l0.length + l2.length) - 0) Tryz.underlying29 jm rfl rfl rfl (.inr ⟨.i64,rfl⟩) (.inl ⟨rfl,rfl⟩) (by omega) (by omega) (by omega) (by omega)) ?_
 refine s' (.slice (some ⟨ig,0 * 1,none⟩) l2.length c2) fP ?_
 refine o' (nH (k:=0) (kS:=1) (off:=i_) (so:=0) (cnt:=l2.length) (es:=(K.drop (0 * 1)).take (l2.length * 1)) rfl Tryz.underlying29 jm rfl rfl rfl (by omega) (by omega) rfl rfl rfl (by omega) (fun I_ h_ s_=>sf (nJ (j:=3) rfl s_) (by show _ ≤ l2.length * 1; omega)) ?_)
 refine cR ?_
 refine s' (.slice (some ⟨bg,0 * 1,none⟩) ((l0.length + l2.length) - 0) (c0 - 0)) fP ?_
 refine s' (.slice (some ⟨bg,0 * 1,none⟩) ((l0.length + l2.length) - 0) (c0 - 0)) rR ?_
 refine cA ?_
 have h:=aN H;subst h
 have hln_ : (l0.take (i_ : Int).toNat ++ l2 ++ l0.drop (i_ : Int).toNat).length = l0.length + l2.length:=by simp; omega
 exact mi [gL 3 (some ⟨bg,0,none⟩) c0 (l0.take (i_ : Int).toNat ++ l2 ++ l0.drop (i_ : Int).toNat),gL 3 (some ⟨ig,0,none⟩) c2 l2] rfl rfl ((qd (k:=0) (zs:=l0.take (i_ : Int).toNat ++ l2 ++ l0.drop (i_ : Int).toNat) rfl (by rw [hln_]; omega) (fun I_ h_ s_=>sI (i:=i_) rfl (nJ (j:=2) rfl s_) (nJ (j:=3) rfl s_) (by omega) (by omega) p (by show l2.length * 1 ≤ _; omega))).trans ((qd (k:=1) (zs:=l2) rfl a3 (fun I_ h_ s_=>nJ (j:=3) rfl s_)).trans (fk [0,1]))) ⟨some ⟨bg,0,none⟩,c0,(by rw [hln_]; rfl),rfl⟩


def lU.f (l0 : (List Int)) (a1 : Int) (a2 : Int) : Option ((List Int)):=if 0 ≤ a1∧a1 ≤ a2∧a2 ≤ (l0.length : Int)∧a2 ≤ (l0.length : Int)∧(l0.length : Int) ≤ (l0.length : Int) then (if a1 = a2 then (some (l0)) else (lt ((l0.length : Int)) fun n10=>if 0 ≤ (0 : Int)∧(0 : Int) ≤ a1∧a1 ≤ (l0.length : Int) then (if 0 ≤ a2∧a2 ≤ (l0.length : Int)∧(l0.length : Int) ≤ (l0.length : Int) then (if (0 + (0 : Int)) + (a1 - (0 : Int)) + ((l0.length : Int) - a2) ≤ (l0.length : Int) then lt (bB l0 ((0 + (0 : Int)) + (a1 - (0 : Int))).toNat (sub l0 (0 + a2) ((0 + a2) + ((l0.length : Int) - a2)))) fun a=>(if 0 ≤ ((a1 - (0 : Int)) + ((l0.length : Int) - a2))∧((a1 - (0 : Int)) + ((l0.length : Int) - a2)) ≤ n10∧(0 + (0 : Int)) + n10 ≤ (a.length : Int) then (if ((0 + (0 : Int)) + ((a1 - (0 : Int)) + ((l0.length : Int) - a2))) + (n10 - ((a1 - (0 : Int)) + ((l0.length : Int) - a2))) ≤ (a.length : Int) then lt (bB a ((0 + (0 : Int)) + ((a1 - (0 : Int)) + ((l0.length : Int) - a2))).toNat (List.replicate (n10 - ((a1 - (0 : Int)) + ((l0.length : Int) - a2))).toNat 0)) fun b=>(some (b.take ((a1 - (0 : Int)) + ((l0.length : Int) - a2)).toNat)) else none) else none) else none) else none) else none)) else none
theorem lU.ok {l0 : (List Int)} {a1 : Int} {a2 : Int} {A0 : Option Addr} {c0 : Nat} {r : (List Int)} (H : lU.f l0 a1 a2 = some r) : dp Tryz.prog 134 #[.slice A0 l0.length c0,ae a1,ae a2] [gL 3 A0 c0 l0] (fun v B=>∃ aQ aR,v = .slice aQ r.length aR∧B = [gL 3 aQ aR r]):=by
 refine aj Tryz.func134 rfl rfl ?_
 unfold lU.f at H
 refine aP (ad aW (h:=bA (ap (bQ 0 fun a6=>ak (ad ar (h:=ad ar (h:=ad ar (h:=ad ar (h:=s' (ae (l0.length : Int)) (cP Tryz.underlying29 rfl) ?_)))))))))
 obtain⟨⟨S,U,Y,Z,g7⟩,H⟩:=aS H
 refine s' (.slice (dv A0 a1 (l0.length : Int) 1) (a2 - a1).toNat ((l0.length : Int).toNat - a1.toNat)) (dA (l:=0) (m:=(l0.length : Int)) (a:=a1) (b:=a2) (q:=(l0.length : Int)) (ey.whole (A:=A0) (sz:=1) (xs:=l0) (c:=c0) (by omega)) Tryz.underlying29 jm rfl rfl rfl rfl (.inr ⟨_,rfl⟩) (.inr ⟨_,rfl⟩) (.inr ⟨⟨_,rfl⟩,⟨_,rfl⟩,Z,g7⟩) S U Y) ?_
 have a5 : ey A0 (dv A0 a1 (l0.length : Int) 1) 1 (0 + a1) (a2 - a1) ((l0.length : Int).toNat - a1.toNat):=ey.sub (ey.whole (A:=A0) (sz:=1) (xs:=l0) (c:=c0) (by omega)) S U Y (.inr Z) (Int.le_trans g7 ((ey.whole (A:=A0) (sz:=1) (xs:=l0) (c:=c0) (by omega))).cap)
 refine eA (ad ar (h:=ad ar (h:=ad (bk rfl rfl) (h:=bA ?_))))
 rcases bD H with⟨O,H⟩|⟨O,H⟩
 ·refine aC rfl O (aP (ad ar (h:=ad aW (h:=cA ?_))))
  have h:=aN H;subst h
  exact dJ [0] ⟨A0,c0,rfl,rfl⟩
 refine aB rfl O (ao (aa (aP (ad ar (h:=s' (ae (l0.length : Int)) (cP Tryz.underlying29 rfl) ?_)))))
 obtain⟨n10,R,H⟩:=bi H
 refine bT (ae n10) (bu (v:=ae n10) (congrArg (Value.int .i64) R.symm)) (h:=bA (ap ?_))
 refine lB jx (bV.thn bV.body) fun I0 a7 w0 pk=>?_
 refine cd 0 rfl ar (h:=xV 1 rfl ar ?_)
 obtain⟨⟨D,E,F⟩,H⟩:=aS H
 refine BX (.slice (dv A0 (0 : Int) ((c0 : Nat) : Int) 1) (a1 - (0 : Int)).toNat (((c0 : Nat) : Int).toNat - (0 : Int).toNat)) 2 rfl (dA (l:=0) (m:=(l0.length : Int)) (a:=(0 : Int)) (b:=a1) (q:=((c0 : Nat) : Int)) (ey.whole (A:=A0) (sz:=1) (xs:=l0) (c:=c0) (by omega)) Tryz.underlying29 jm rfl rfl rfl rfl (.inl ⟨rfl,rfl⟩) (.inr ⟨_,rfl⟩) (.inl ⟨rfl,rfl⟩) D E F) ?_
 have u : ey A0 (dv A0 (0 : Int) ((c0 : Nat) : Int) 1) 1 (0 + (0 : Int)) (a1 - (0 : Int)) (((c0 : Nat) : Int).toNat - (0 : Int).toNat):=ey.sub (ey.whole (A:=A0) (sz:=1) (xs:=l0) (c:=c0) (by omega)) D E F (.inl rfl) (Int.le_refl _)
 refine cd 3 rfl ar (h:=xV 4 rfl ar ?_)
 obtain⟨⟨I,J,K⟩,H⟩:=aS H
 refine BX (.slice (dv A0 a2 ((c0 : Nat) : Int) 1) ((l0.length : Int) - a2).toNat (((c0 : Nat) : Int).toNat - a2.toNat)) 5 rfl (dA (l:=0) (m:=(l0.length : Int)) (a:=a2) (b:=(l0.length : Int)) (q:=((c0 : Nat) : Int)) (ey.whole (A:=A0) (sz:=1) (xs:=l0) (c:=c0) (by omega)) Tryz.underlying29 jm rfl rfl rfl rfl (.inr ⟨_,rfl⟩) (.inl ⟨rfl,rfl,rfl⟩) (.inl ⟨rfl,rfl⟩) I J K) ?_
 have o : ey A0 (dv A0 a2 ((c0 : Nat) : Int) 1) 1 (0 + a2) ((l0.length : Int) - a2) (((c0 : Nat) : Int).toNat - a2.toNat):=ey.sub (ey.whole (A:=A0) (sz:=1) (xs:=l0) (c:=c0) (by omega)) I J K (.inl rfl) (Int.le_refl _)
 obtain⟨a0,H⟩:=aS H
 obtain⟨s,y,H⟩:=bi H
 have hq372l:=nC (xs:=l0) o.lo o.no (by omega)
 have N : (a1 - (0 : Int)) + ((sub l0 (0 + a2) ((0 + a2) + ((l0.length : Int) - a2))).length : Int) = (a1 - (0 : Int)) + ((l0.length : Int) - a2):=by omega
 have hl_n371 : s.length = l0.length:=by rw [y]; exact eU (by omega)
 have d : ey A0 (dv A0 (0 : Int) ((c0 : Nat) : Int) 1) 1 (0 + (0 : Int)) ((a1 - (0 : Int)) + ((l0.length : Int) - a2)) (((c0 : Nat) : Int).toNat - (0 : Int).toNat):=ey.grow u (by omega) (by omega)
 refine eG 6 rfl (uS (k:=0) (l:=0 + (0 : Int)) (m:=a1 - (0 : Int)) (xs:=l0) (ys:=sub l0 (0 + a2) ((0 + a2) + ((l0.length : Int) - a2))) s y u rfl Tryz.underlying29 pg rfl rfl rfl rfl (nk.win Tryz.underlying29 (Src.buf (k:=0) rfl) o rfl (by omega)) (by omega) (by omega) (N ▸ (cd 7 rfl aW (h:=aH (by kernel_rfl) (aa (aP (bT (.slice (dv A0 (0 : Int) ((c0 : Nat) : Int) 1) ((a1 - (0 : Int)) + ((l0.length : Int) - a2)).toNat (((c0 : Nat) : Int).toNat - (0 : Int).toNat)) fP (h:=bT (.slice (dv A0 (0 : Int) ((c0 : Nat) : Int) 1) ((a1 - (0 : Int)) + ((l0.length : Int) - a2)).toNat (((c0 : Nat) : Int).toNat - (0 : Int).toNat)) fP (h:=bT (ae ((a1 - (0 : Int)) + ((l0.length : Int) - a2))) (jT d Tryz.underlying29 rfl) (h:=S' ar ?_))))))))))
 obtain⟨⟨L,M,a3⟩,H⟩:=aS H
 refine s' (.slice (dv (dv A0 (0 : Int) ((c0 : Nat) : Int) 1) ((a1 - (0 : Int)) + ((l0.length : Int) - a2)) ((((c0 : Nat) : Int).toNat - (0 : Int).toNat : Nat) : Int) 1) (n10 - ((a1 - (0 : Int)) + ((l0.length : Int) - a2))).toNat (((((c0 : Nat) : Int).toNat - (0 : Int).toNat : Nat) : Int).toNat - ((a1 - (0 : Int)) + ((l0.length : Int) - a2)).toNat)) (tv (l:=0 + (0 : Int)) (m:=(a1 - (0 : Int)) + ((l0.length : Int) - a2)) (a:=(a1 - (0 : Int)) + ((l0.length : Int) - a2)) (b:=n10) (q:=((((c0 : Nat) : Int).toNat - (0 : Int).toNat : Nat) : Int)) d Tryz.underlying29 jm rfl rfl rfl rfl (.inr ⟨_,rfl⟩) (.inr ⟨_,rfl⟩) L M (by omega)) ?_
 have p : ey A0 (dv (dv A0 (0 : Int) ((c0 : Nat) : Int) 1) ((a1 - (0 : Int)) + ((l0.length : Int) - a2)) ((((c0 : Nat) : Int).toNat - (0 : Int).toNat : Nat) : Int) 1) 1 ((0 + (0 : Int)) + ((a1 - (0 : Int)) + ((l0.length : Int) - a2))) (n10 - ((a1 - (0 : Int)) + ((l0.length : Int) - a2))) (((((c0 : Nat) : Int).toNat - (0 : Int).toNat : Nat) : Int).toNat - ((a1 - (0 : Int)) + ((l0.length : Int) - a2)).toNat):=ey.sub (ey.grow d (show 0 ≤ n10 by omega) (by omega)) L M (Int.le_refl _) (.inl rfl) (Int.le_refl _)
 obtain⟨a4,H⟩:=aS H
 obtain⟨j,z,H⟩:=bi H
 have hl_n499 : j.length = s.length:=by rw [z]; exact eU (by rw [List.length_replicate]; have:=p.lo; have:=p.no; omega)
 refine o' (sA (k:=0) (l:=(0 + (0 : Int)) + ((a1 - (0 : Int)) + ((l0.length : Int) - a2))) (m:=n10 - ((a1 - (0 : Int)) + ((l0.length : Int) - a2))) (xs:=s) (z0:=0) j z p rfl Tryz.underlying29 nu rfl rfl rfl (fun _=>rfl) (by omega) (bA (SA.of_St (l:=[(0,.slice (dv A0 (0 : Int) ((c0 : Nat) : Int) 1) ((a1 - (0 : Int)) + ((l0.length : Int) - a2)).toNat (((c0 : Nat) : Int).toNat - (0 : Int).toNat))]) (B:=[gL 3 A0 c0 j]) (St.mk1 (cO rfl dY) (Gh.sel [0] (by kernel_rfl) (by kernel_rfl))) fun junk=>aP (bT (.slice (dv A0 (0 : Int) ((c0 : Nat) : Int) 1) ((a1 - (0 : Int)) + ((l0.length : Int) - a2)).toNat (((c0 : Nat) : Int).toNat - (0 : Int).toNat)) fP (h:=bT (.slice (dv A0 (0 : Int) ((c0 : Nat) : Int) 1) ((a1 - (0 : Int)) + ((l0.length : Int) - a2)).toNat (((c0 : Nat) : Int).toNat - (0 : Int).toNat)) rR (h:=cD ?_))))))
 have hln_ : (j.take ((a1 - (0 : Int)) + ((l0.length : Int) - a2)).toNat).length = ((a1 - (0 : Int)) + ((l0.length : Int) - a2)).toNat:=by rw [List.length_take]; have:=d.no; omega
 have hva_ : dv A0 (0 : Int) ((c0 : Nat) : Int) 1 = A0:=by simp only [uu]
 have hvc_ : ((c0 : Nat) : Int).toNat - (0 : Int).toNat = c0:=by omega
 have h:=aN H;subst h
 exact mi [gL 3 A0 c0 (j.take ((a1 - (0 : Int)) + ((l0.length : Int) - a2)).toNat)] rfl (by show (.slice (dv A0 (0 : Int) ((c0 : Nat) : Int) 1) ((a1 - (0 : Int)) + ((l0.length : Int) - a2)).toNat (((c0 : Nat) : Int).toNat - (0 : Int).toNat) : Value) = _; rw [hln_,hva_,hvc_]) ((tj (k:=0) (((a1 - (0 : Int)) + ((l0.length : Int) - a2)).toNat) rfl).trans (fk [0])) ⟨A0,c0,rfl,rfl⟩


def iT.f (k : Nat) (p0 : aJ) (a1 : Int) : Option (aJ):=(fT.f k p0.f7 p0.f2).bind (fun a=>lt ((decide (a1 = 0)) && (!a.2)) fun h=>if h = true then ((jr.f p0.f7 a.1 ([p0.f2] : (List Int))).bind (fun c=>some (({ p0 with f7:=c })))) else (lt ((decide (a1 = 1)) && a.2) fun b=>if b = true then ((lU.f p0.f7 a.1 (i64.wrap (a.1 + 1))).bind (fun d=>some (({ p0 with f7:=d })))) else (if a1 = 2 then (some (({ p0 with f7:=([] : (List Int)) }))) else (some (p0)))))
theorem iT.ok {p0 : aJ} {a1 : Int} {r : aJ} (H : iT.f k p0 a1 = some r) : dp Tryz.prog 93 #[.agg #[.pointer (some ⟨bg,0,none⟩)],ae a1] (cQ bg p0 af ag ay az au av aw ax) (fun v B=>∃ P0_0_ q0_0_ P0_1_ q0_1_ P0_2_ q0_2_ P0_3_ q0_3_,v = .tuple #[]∧B = (cQ bg r P0_0_ q0_0_ P0_1_ q0_1_ P0_2_ q0_2_ P0_3_ q0_3_)):=by
 refine aj Tryz.func93 rfl rfl ?_
 unfold iT.f at H
 refine aP (o' (bO (h:=fun E=>bA (ap (bQ 1 fun O=>bQ 2 fun R=>bQ 3 fun M=>bQ 4 fun N=>?_)))))
 refine fg (0::1::2::3::4::5::6::7::8::9::11::12::13::14::15::[]) [0,5] (dC 1 4) fun _ _ _ _ _ sH dd pk=>?_
 refine bf 0 rfl sH aA (h:=bN 1 rfl sH (aO 1) (h:=bf 2 rfl sH cL (h:=bf 3 rfl sH aA (h:=bN 4 rfl sH (aO 0) (h:=bf 5 rfl sH aA (h:=bN 6 rfl sH (aO 1) (h:=bf 7 rfl sH cL (h:=bf 8 rfl sH aA (h:=r' 9 rfl sH (aO 0) ?_)))))))))
 obtain⟨m,K,H⟩:=ac H
 refine dT 10 rfl dd (da [1] [0,2,3] (fT.ok (A0:=ay) (c0:=az) K) ?_)
 refine bf 11 rfl sH ar (h:=bf 12 rfl sH cw (h:=bf 13 rfl sH cw (h:=bf 14 rfl sH aW (h:=bf 15 rfl sH aW (h:=aV dd sH (aH (by kernel_rfl) (aa (aT (aP (ad ar (h:=S' (bk rfl rfl) ?_)))))))))))
 refine S' ar ?_
 obtain⟨L,u,H⟩:=bi H
 refine dy 3 [(1,ae a1),(2,aI E),(4,ae m.1),(5,.bool m.2),(26,.bool L)] (aL bg 34 (am p0 af ag ay az au av aw ax)::(bn p0 af ag ay az au av aw ax++[aL E 84 [aI bg]])) ?_ fun junk=>?_
 ·by_cases b : a1 = 0
  ·refine aZ (ai b) ar (h:=aZ (ai b) (bU rfl) (h:=bY (ai b) (h:=ah ?_)))
   have x_:=fq u ((ai b));exact bH [0,3,2,4,5,1]
  refine ct 2 (al b) (ca (al b) (h:=ah ?_))
  have x_:=fp u ((al b));exact bH [0,3,2,4,5,1]
 refine ad aW (h:=bA ?_)
 rcases bD H with⟨l,H⟩|⟨l,H⟩
 ·refine aD rfl l ?_
  refine fg (0::1::2::3::4::5::6::7::8::9::10::11::12::15::16::[]) [0,5] (dC 1 4) fun _ _ _ _ _ sH dd pk=>?_
  refine bf 0 rfl sH aA (h:=bN 1 rfl sH (aO 1) (h:=bf 2 rfl sH aA (h:=bN 3 rfl sH (aO 1) (h:=bf 4 rfl sH cL (h:=bf 5 rfl sH aA (h:=bN 6 rfl sH (aO 0) (h:=bf 7 rfl sH ar (h:=bf 8 rfl sH aA (h:=r' 9 rfl sH (aO 1) ?_)))))))))
  refine bf 10 rfl sH cL (h:=bf 11 rfl sH aA (h:=bN 12 rfl sH (aO 0) (h:=dT 13 rfl dd (gD (kd:=(Kd.int .i64)) (zv:=(ae 0)) (sz:=1) (cells:=[ae p0.f2]) (xs:=([p0.f2] : (List Int))) rfl Tryz.underlying29 nu jm rfl rfl rfl (by kernel_rfl) rfl rfl (dR (fun x_ : Int=>[Value.int .i64 x_]) (fun _ _=>rfl) (by kernel_rfl)) fun D=>?_))))
  obtain⟨I,y,H⟩:=ac H
  refine dT 14 rfl dd (gy [1,4] [0,2,3] (jr.ok (A0:=ay) (c0:=az) (A2:=some ⟨D,0,none⟩) (c2:=1) y) fun o q=>?_)
  refine bf 15 rfl sH cL (h:=bf 16 rfl sH aA (h:=aV dd sH (eG 17 rfl (cJ 0 [.slice o I.length q] (h:=(aH (by kernel_rfl) (aG ?_)))))))
  have h:=aN H;subst h
  exact fH [0,4,2,5,6] ⟨af,ag,o,q,au,av,aw,ax,rfl,rfl⟩
 refine aE rfl l (aP (ad ar (h:=ad (bk rfl rfl) (h:=S' ar ?_))))
 obtain⟨F,j,H⟩:=bi H
 refine dy 2 [(1,ae a1),(2,aI E),(4,ae m.1),(49,.bool F)] (aL bg 34 (am p0 af ag ay az au av aw ax)::(bn p0 af ag ay az au av aw ax++[aL E 84 [aI bg]])) ?_ fun junk=>?_
 ·by_cases a : a1 = 1
  ·refine aZ (ai a) ar (h:=bY (ai a) (h:=ah ?_))
   have x_:=fq j ((ai a));exact bH [0,1,2,3,4,5]
  refine ct 1 (al a) (ca (al a) (h:=ah ?_))
  have x_:=fp j ((al a));exact bH [0,1,2,3,4,5]
 refine ad aW (h:=bA ?_)
 rcases bD H with⟨c,H⟩|⟨c,H⟩
 ·refine aD rfl c ?_
  refine fg [0,1,2,3,4,5,6,7,8,9,11,12] [0,5] (dC 1 4) fun _ _ _ _ _ sH dd pk=>?_
  refine bf 0 rfl sH aA (h:=bN 1 rfl sH (aO 1) (h:=bf 2 rfl sH aA (h:=bN 3 rfl sH (aO 1) (h:=bf 4 rfl sH cL (h:=bf 5 rfl sH aA (h:=bN 6 rfl sH (aO 0) (h:=bf 7 rfl sH ar (h:=bf 8 rfl sH ar (h:=T' 9 rfl sH (bX rfl rfl) ?_)))))))))
  obtain⟨J,z,H⟩:=ac H
  refine dT 10 rfl dd (gy [1] [0,2,3] (lU.ok (A0:=ay) (c0:=az) z) fun p s=>?_)
  refine bf 11 rfl sH cL (h:=bf 12 rfl sH aA (h:=aV dd sH (eG 13 rfl (cJ 0 [.slice p J.length s] (h:=(aH (by kernel_rfl) (aG ?_)))))))
  have h:=aN H;subst h
  exact fH [0,3,2,4,5] ⟨af,ag,p,s,au,av,aw,ax,rfl,rfl⟩
 refine aE rfl c (aP (ad ar (h:=ad (bk rfl rfl) (h:=ad aW (h:=bA ?_)))))
 rcases bD H with⟨d,H⟩|⟨d,H⟩
 ·refine aC rfl d (ak (ad aA (h:=bq (aO 5) (h:=ad cL (h:=ad aA (h:=o' (cJ 0 [.slice none 0 0] (h:=(ah (aG ?_))))))))))
  have h:=aN H;subst h
  exact rM [aL bg 34 (am ({ p0 with f7:=([] : (List Int)) }) af ag none 0 au av aw ax),Buf bI 55 af ag p0.f0.f2,gL 3 none 0 ([] : (List Int)),Buf bI 55 au av p0.f16.f2,lZ 21 aw ax p0.f17] rfl ((Gh.nilBuf (Kd.int .i64) 3).trans (fk [0,1,6,3,4])) ⟨af,ag,none,0,au,av,aw,ax,rfl,rfl⟩
 refine aB rfl d (ao (aG ?_))
 have h:=aN H;subst h
 exact fH [0,1,2,3,4] ⟨af,ag,ay,az,au,av,aw,ax,rfl,rfl⟩


def kr.f (k : Nat) (p0 : aJ) (p1 : Int) : Option (aJ):=(iT.f k p0 p1).bind (fun a=>some (a))
theorem kr.ok {p0 : aJ} {p1 : Int} {r : aJ} (H : kr.f k p0 p1 = some r) : dp Tryz.prog 92 #[.agg #[.pointer (some ⟨bg,0,none⟩)],.pointer (some ⟨ig,0,none⟩)] (aL bg 34 (am p0 af ag ay az au av aw ax)::(bn p0 af ag ay az au av aw ax++[aL ig 3 [ae p1]])) (fun v B=>∃ P0_0_ q0_0_ P0_1_ q0_1_ P0_2_ q0_2_ P0_3_ q0_3_,v = .tuple #[]∧B = (aL bg 34 (am r P0_0_ q0_0_ P0_1_ q0_1_ P0_2_ q0_2_ P0_3_ q0_3_)::(bn r P0_0_ q0_0_ P0_1_ q0_1_ P0_2_ q0_2_ P0_3_ q0_3_++[aL ig 3 [ae p1]]))):=by
 refine aj Tryz.func92 rfl rfl ?_
 unfold kr.f at H
 refine aP (o' (bO (h:=fun q=>bA (bQ 1 fun z=>bQ 2 fun s=>bQ 3 fun u=>bQ 4 fun y=>ak (bq (cx q 0 6 [aI bg]) (h:=l' (aO 5) ?_))))))
 obtain⟨D,j,H⟩:=ac H
 refine o' (ef [0,1,2,3,4] [5,6] (iT.ok (bg:=bg) j) fun a l b m c o d p=>?_)
 refine ah ?_
 have h:=aN H;subst h
 exact fH [0,1,2,3,4,5] ⟨a,l,b,m,c,o,d,p,rfl,rfl⟩


def iB.f (k : Nat) (a0 : aJ) (p2000 : Int) : Option (aJ × Int):=(eu.f k a0).bind (fun a=>if (!a) = true then (some (((aJ.mk (bJ.mk 0 0 ([] : (List ba))) 0 0 false (cN.mk 0 0 false false false false false false false false) 0 0 ([] : (List Int)) false false false false false false (dH.mk 0 0 false false (cN.mk 0 0 false false false false false false false false)) false (bJ.mk 0 0 ([] : (List ba))) ([] : (List Int))),2))) else ((ly.f a0).bind (fun b=>(kr.f k b p2000).bind (fun c=>some ((c,0))))))
theorem iB.ok {a0 : aJ} {p2000 : Int} {r : aJ × Int} (H : iB.f k a0 p2000 = some r) : dp Tryz.prog 62 #[.agg (am a0 af ag ay az au av aw ax).toArray,.func (.func 92) #[] #[.pointer (some ⟨bS,0,none⟩)]] (co a0 af ag ay az au av aw ax++[aL bS 3 [ae p2000]]) (fun v B=>∃ aQ aR bv bx bo bp bw bz,v = .tuple #[.agg (am r.1 aQ aR bv bx bo bp bw bz).toArray,ae r.2]∧B = (bn r.1 aQ aR bv bx bo bp bw bz++[aL bS 3 [ae p2000]])):=by
 refine aj Tryz.func62 rfl rfl ?_
 unfold iB.f at H
 refine aP (o' (bO (h:=fun b=>o' (cC (h:=fun I=>ad aW (h:=eA (l' (cm 5) ?_)))))))
 obtain⟨R,F,H⟩:=ac H
 refine o' (da [0,1,2,3] [0,1,2,3,4,5,6] (qR.ok F) ?_)
 refine ad (bU rfl) (h:=bA ?_)
 rcases bD H with⟨a,H⟩|⟨a,H⟩
 ·refine aD rfl a (aP (bT (.agg (am cB none 0 none 0 none 0 none 0).toArray) dS (h:=o' (bj I 0 6 (am cB none 0 none 0 none 0 none 0) (h:=ad aW (h:=cA ?_))))))
  have h:=aN H;subst h
  exact lX [.cell 4 34,.tmp 5] ((Gh.nilBuf bI 55).trans ((Gh.nilBuf (Kd.int .i64) 3).trans ((Gh.nilBuf bI 55).trans ((Gh.nilBuf (Kd.int .i32) 21).trans (fk [7,8,9,10,4]))))) ⟨none,0,none,0,none,0,none,0,rfl,rfl⟩ ⟨cW 6,cX,trivial⟩
 refine aE rfl a (ao (aa (aP (l' (cm 5) ?_))))
 obtain⟨N,E,H⟩:=ac H
 refine o' (ef [0,1,2,3] [0,1,2,3,4,5,6] (ly.ok E) fun s J u K y L z M=>?_)
 refine o' (bj b 0 9 (am N s J u K y L z M) (h:=cR (ad ar (h:=s' (.agg #[aI b]) dS ?_))))
 obtain⟨O,D,H⟩:=ac H
 refine o' (re [9,0,1,2,3,8] [4,5,6,7,10] (jj (vs:=[.agg #[aI b]]) (cap:=[aI bS]) rfl Tryz.func92 Bp rfl rfl) (kr.ok (bg:=b) (ig:=bS) D) ?_)
 rintro _ _⟨c,m,d,o,j,p,l,q,rfl,rfl⟩
 refine cR (bq (cm 0) (h:=o' (bj I 0 10 (am O c m d o j p l q) (h:=ad aW (h:=cD ?_)))))
 have h:=aN H;subst h
 exact dE [.cell 4 34,.tmp 5] [1,2,3,4,5] ⟨c,m,d,o,j,p,l,q,rfl,rfl⟩ ⟨cW 10,cX,trivial⟩


def wE.f (k : Nat) (a0 : aJ) (a1 : Int) : Option (aJ × Int):=(iB.f k a0 a1).bind (fun a=>some ((a.1,a.2)))
theorem wE.ok {a0 : aJ} {a1 : Int} {r : aJ × Int} (H : wE.f k a0 a1 = some r) : dp Tryz.prog 37 #[.agg (am a0 af ag ay az au av aw ax).toArray,ae a1] (co a0 af ag ay az au av aw ax) (fun v B=>∃ aQ aR bv bx bo bp bw bz,v = .tuple #[.agg (am r.1 aQ aR bv bx bo bp bw bz).toArray,ae r.2]∧B = (bn r.1 aQ aR bv bx bo bp bw bz)):=by
 refine aj Tryz.func37 rfl rfl ?_
 unfold wE.f at H
 refine aP (o' (bO (h:=fun y=>o' (bO (h:=fun p=>o' (cC (h:=fun u=>ad aW (h:=cR (bq (cm 4) (h:=s' (.func (.func 92) #[] #[aI p]) (dP (us:=[aI p]) rfl) ?_))))))))))
 obtain⟨s,q,H⟩:=ac H
 refine o' (ef [0,1,2,3,5] [0,1,2,3,4,6] (iB.ok (bS:=p) q) fun a j b l c m d o=>?_)
 refine ad cw (h:=ad cw (h:=o' (bj u 0 10 (am s.1 a j b l c m d o) (h:=ad aW (h:=cD ?_)))))
 have h:=aN H;subst h
 exact dE [.cell 4 34,.tmp 5] [0,1,2,3] ⟨a,j,b,l,c,m,d,o,rfl,rfl⟩ ⟨cW 10,cX,trivial⟩


def iU.f (k : Nat) (p0 : aJ) (a1 : Int) : Option (aJ):=(ed.f p0).bind (fun a=>if (0 ≤ a.1∧0 ≤ a.2∧a.1 + a.2 ≤ (p0.f0.f2.length : Int)) then ((lT.f a1).bind (fun d=>(kB.f (i64.wrap (p0.f2 + d)) p0.f2 p0.f0.f0).bind (fun c=>(jc.f k p0.f0.f2 a.1 a.2 p0.f2 c p0.f4).bind (fun b=>if b.length = p0.f0.f2.length then (some (({ p0 with f0:=(bJ.mk p0.f0.f0 p0.f0.f1 b),f3:=false }))) else none)))) else none)
theorem iU.ok {p0 : aJ} {a1 : Int} {r : aJ} (H : iU.f k p0 a1 = some r) : dp Tryz.prog 95 #[.agg #[.pointer (some ⟨bg,0,none⟩)],ae a1] (cQ bg p0 af ag ay az au av aw ax) (fun v B=>∃ P0_0_ q0_0_ P0_1_ q0_1_ P0_2_ q0_2_ P0_3_ q0_3_,v = .tuple #[]∧B = (cQ bg r P0_0_ q0_0_ P0_1_ q0_1_ P0_2_ q0_2_ P0_3_ q0_3_)):=by
 refine aj Tryz.func95 rfl rfl ?_
 unfold iU.f at H
 refine aP (o' (bO (h:=fun a=>bA (ap (bQ 1 fun F=>bQ 2 fun I=>bQ 3 fun D=>bQ 4 fun E=>?_)))))
 refine fO (0::2::3::4::5::6::7::8::9::10::11::12::14::15::16::17::18::19::20::21::22::23::24::25::27::28::29::30::31::[]) (List.toArray ([]::[0]::[]::[2]::[2,3]::[2,3,4]::(dC 2 4)::[]::[7]::[7,8]::[7,8,9]::(dC 7 4)::[]::[0,12]::[0,7,8,9,10,11,12]::[]::[15]::[15,16]::[15,16,17]::(dC 15 4)::[]::[20]::[20,21]::[20,21,22]::(dC 20 4)::(dC 20 5)::(0::7::8::9::10::11::12::14::15::16::17::18::19::20::21::22::23::24::25::[])::[]::[27]::[27,28]::[27,28,29]::(dC 27 4)::(0::2::3::4::5::6::7::8::9::10::11::12::14::15::16::17::18::19::20::21::22::23::24::25::27::28::29::30::31::[])::[])) [aL bg 34 (am p0 af ag ay az au av aw ax),aL a 84 [aI bg]] jx (bV.thn bV.body) fun K J L pk=>?_
 refine hD 0 [0,5] rfl (cx a 0 1 [aI bg]) (h:=eF (aI a) 2 [0,5] rfl (kw a 0 0) (h:=hD 3 [0,5] rfl (il a 0 1) (h:=eF (aI bg) 4 [0,5] rfl cL (h:=eF (sO bg 4) 5 [0,5] rfl (kw bg 0 4) (h:=hD 6 [0,5] rfl (il bg 4 0) (h:=eF (aI a) 7 [0,5] rfl (kw a 0 0) (h:=hD 8 [0,5] rfl (il a 0 1) (h:=eF (aI bg) 9 [0,5] rfl cL (h:=wb (sO bg 4) 10 [0,5] rfl (kw bg 0 4) ?_)))))))))
 refine hD 11 [0,5] rfl (il bg 4 0) (h:=eF (ae a1) 12 [0,5] rfl fP (h:=eF (aI a) 15 [0,5] rfl (kw a 0 0) (h:=hD 16 [0,5] rfl (il a 0 1) (h:=eF (aI bg) 17 [0,5] rfl cL (h:=eF (sO bg 4) 18 [0,5] rfl (kw bg 0 4) (h:=hD 19 [0,5] rfl (il bg 4 0) (h:=eF (aI a) 20 [0,5] rfl (kw a 0 0) (h:=hD 21 [0,5] rfl (il a 0 1) (h:=wb (aI bg) 22 [0,5] rfl cL ?_)))))))))
 refine eF (aI bg) 23 [0,5] rfl (kw bg 0 0) (h:=eF (aI bg) 24 [0,5] rfl (kw bg 0 0) (h:=hD 25 [0,5] rfl (il bg 0 0) (h:=eF (aI a) 27 [0,5] rfl (kw a 0 0) (h:=hD 28 [0,5] rfl (il a 0 1) (h:=eF (aI bg) 29 [0,5] rfl cL (h:=eF (sO bg 6) 30 [0,5] rfl (kw bg 0 6) (h:=sK 31 [0,5] rfl (cx bg 6 0 (bF p0.f4)) ?_)))))))
 obtain⟨m,s,H⟩:=ac H
 obtain⟨⟨hl76a,hl76b,hl76c⟩,H⟩:=aS H
 refine fa 1 (by kernel_rfl) rfl (.no rfl) (mu [0,1,2,3,4] [5] (ed.ok (bg:=bg) s) ?_)
 rintro _ _⟨u,y,p,rfl,rfl⟩
 refine ⟨fun _=>⟨[0,5],rfl,rfl⟩,?_⟩
 obtain⟨q,o,H⟩:=ac H
 refine fa 13 (by kernel_rfl) rfl (.no rfl) (da [] [0,1,2,3,4,5] (lT.ok o) ?_)
 refine ⟨fun _=>⟨[0,5],rfl,rfl⟩,?_⟩
 refine wb (ae (i64.wrap (p0.f2 + q))) 14 [0,5] rfl (bX rfl rfl) ?_
 obtain⟨z,d,H⟩:=ac H
 refine fa 26 (by kernel_rfl) rfl (.no rfl) (da [] [0,1,2,3,4,5] (kB.ok d) ?_)
 refine ⟨fun _=>⟨[0,5],rfl,rfl⟩,?_⟩
 obtain⟨b,j,H⟩:=ac H
 obtain⟨c,H⟩:=aS H
 refine fa 32 (by kernel_rfl) rfl (.no rfl) (da [1] [0,2,3,4,5] (jc.ok (o0:=m.1) (n0:=m.2) (A0:=af) (c0:=ag) (V0:=u) (v0:=y) (hw0:=p) j) ?_)
 try unfold cQ
 try unfold eD
 try unfold am
 try rewrite [← c]
 refine ⟨fun h_=>absurd h_ (by decide),?_⟩
 refine aH (by kernel_rfl) (aa (SA.of_St (l:=[(2,aI a)]) (B:=[aL bg 34 (am ({ p0 with f0:=(bJ.mk p0.f0.f0 p0.f0.f1 b) }) af ag ay az au av aw ax),Buf bI 55 af ag b,gL 3 ay az p0.f7,Buf bI 55 au av p0.f16.f2,lZ 21 aw ax p0.f17,aL a 84 [aI bg]]) (St.mk1 (cO rfl dY) (Gh.sel [1,0,2,3,4,5] (by kernel_rfl) (by kernel_rfl))) fun junk=>ak (ad aA (h:=bq (aO 5) (h:=ad cL (h:=ad aA (h:=o' (cJ 0 [.bool false] (h:=(ah ?_))))))))))
 have h:=aN H;subst h
 exact fH [0,1,2,3,4] ⟨af,ag,ay,az,au,av,aw,ax,rfl,rfl⟩


def kt.f (k : Nat) (p0 : aJ) (p1 : Int) : Option (aJ):=(iU.f k p0 p1).bind (fun a=>some (a))
theorem kt.ok {p0 : aJ} {p1 : Int} {r : aJ} (H : kt.f k p0 p1 = some r) : dp Tryz.prog 94 #[.agg #[.pointer (some ⟨bg,0,none⟩)],.pointer (some ⟨ig,0,none⟩)] (aL bg 34 (am p0 af ag ay az au av aw ax)::(bn p0 af ag ay az au av aw ax++[aL ig 3 [ae p1]])) (fun v B=>∃ P0_0_ q0_0_ P0_1_ q0_1_ P0_2_ q0_2_ P0_3_ q0_3_,v = .tuple #[]∧B = (aL bg 34 (am r P0_0_ q0_0_ P0_1_ q0_1_ P0_2_ q0_2_ P0_3_ q0_3_)::(bn r P0_0_ q0_0_ P0_1_ q0_1_ P0_2_ q0_2_ P0_3_ q0_3_++[aL ig 3 [ae p1]]))):=by
 refine aj Tryz.func94 rfl rfl ?_
 unfold kt.f at H
 refine aP (o' (bO (h:=fun q=>bA (bQ 1 fun z=>bQ 2 fun s=>bQ 3 fun u=>bQ 4 fun y=>ak (bq (cx q 0 6 [aI bg]) (h:=l' (aO 5) ?_))))))
 obtain⟨D,j,H⟩:=ac H
 refine o' (ef [0,1,2,3,4] [5,6] (iU.ok (bg:=bg) j) fun a l b m c o d p=>?_)
 refine ah ?_
 have h:=aN H;subst h
 exact fH [0,1,2,3,4,5] ⟨a,l,b,m,c,o,d,p,rfl,rfl⟩


def iC.f (k : Nat) (a0 : aJ) (p2000 : Int) : Option (aJ × Int):=(eu.f k a0).bind (fun a=>if (!a) = true then (some (((aJ.mk (bJ.mk 0 0 ([] : (List ba))) 0 0 false (cN.mk 0 0 false false false false false false false false) 0 0 ([] : (List Int)) false false false false false false (dH.mk 0 0 false false (cN.mk 0 0 false false false false false false false false)) false (bJ.mk 0 0 ([] : (List ba))) ([] : (List Int))),2))) else ((ly.f a0).bind (fun b=>(kt.f k b p2000).bind (fun c=>some ((c,0))))))
theorem iC.ok {a0 : aJ} {p2000 : Int} {r : aJ × Int} (H : iC.f k a0 p2000 = some r) : dp Tryz.prog 62 #[.agg (am a0 af ag ay az au av aw ax).toArray,.func (.func 94) #[] #[.pointer (some ⟨bS,0,none⟩)]] (co a0 af ag ay az au av aw ax++[aL bS 3 [ae p2000]]) (fun v B=>∃ aQ aR bv bx bo bp bw bz,v = .tuple #[.agg (am r.1 aQ aR bv bx bo bp bw bz).toArray,ae r.2]∧B = (bn r.1 aQ aR bv bx bo bp bw bz++[aL bS 3 [ae p2000]])):=by
 refine aj Tryz.func62 rfl rfl ?_
 unfold iC.f at H
 refine aP (o' (bO (h:=fun b=>o' (cC (h:=fun I=>ad aW (h:=eA (l' (cm 5) ?_)))))))
 obtain⟨R,F,H⟩:=ac H
 refine o' (da [0,1,2,3] [0,1,2,3,4,5,6] (qR.ok F) ?_)
 refine ad (bU rfl) (h:=bA ?_)
 rcases bD H with⟨a,H⟩|⟨a,H⟩
 ·refine aD rfl a (aP (bT (.agg (am cB none 0 none 0 none 0 none 0).toArray) dS (h:=o' (bj I 0 6 (am cB none 0 none 0 none 0 none 0) (h:=ad aW (h:=cA ?_))))))
  have h:=aN H;subst h
  exact lX [.cell 4 34,.tmp 5] ((Gh.nilBuf bI 55).trans ((Gh.nilBuf (Kd.int .i64) 3).trans ((Gh.nilBuf bI 55).trans ((Gh.nilBuf (Kd.int .i32) 21).trans (fk [7,8,9,10,4]))))) ⟨none,0,none,0,none,0,none,0,rfl,rfl⟩ ⟨cW 6,cX,trivial⟩
 refine aE rfl a (ao (aa (aP (l' (cm 5) ?_))))
 obtain⟨N,E,H⟩:=ac H
 refine o' (ef [0,1,2,3] [0,1,2,3,4,5,6] (ly.ok E) fun s J u K y L z M=>?_)
 refine o' (bj b 0 9 (am N s J u K y L z M) (h:=cR (ad ar (h:=s' (.agg #[aI b]) dS ?_))))
 obtain⟨O,D,H⟩:=ac H
 refine o' (re [9,0,1,2,3,8] [4,5,6,7,10] (jj (vs:=[.agg #[aI b]]) (cap:=[aI bS]) rfl Tryz.func94 Bq rfl rfl) (kt.ok (bg:=b) (ig:=bS) D) ?_)
 rintro _ _⟨c,m,d,o,j,p,l,q,rfl,rfl⟩
 refine cR (bq (cm 0) (h:=o' (bj I 0 10 (am O c m d o j p l q) (h:=ad aW (h:=cD ?_)))))
 have h:=aN H;subst h
 exact dE [.cell 4 34,.tmp 5] [1,2,3,4,5] ⟨c,m,d,o,j,p,l,q,rfl,rfl⟩ ⟨cW 10,cX,trivial⟩


def wF.f (k : Nat) (a0 : aJ) (a1 : Int) : Option (aJ × Int):=(iC.f k a0 a1).bind (fun a=>some ((a.1,a.2)))
theorem wF.ok {a0 : aJ} {a1 : Int} {r : aJ × Int} (H : wF.f k a0 a1 = some r) : dp Tryz.prog 38 #[.agg (am a0 af ag ay az au av aw ax).toArray,ae a1] (co a0 af ag ay az au av aw ax) (fun v B=>∃ aQ aR bv bx bo bp bw bz,v = .tuple #[.agg (am r.1 aQ aR bv bx bo bp bw bz).toArray,ae r.2]∧B = (bn r.1 aQ aR bv bx bo bp bw bz)):=by
 refine aj Tryz.func38 rfl rfl ?_
 unfold wF.f at H
 refine aP (o' (bO (h:=fun y=>o' (bO (h:=fun p=>o' (cC (h:=fun u=>ad aW (h:=cR (bq (cm 4) (h:=s' (.func (.func 94) #[] #[aI p]) (dP (us:=[aI p]) rfl) ?_))))))))))
 obtain⟨s,q,H⟩:=ac H
 refine o' (ef [0,1,2,3,5] [0,1,2,3,4,6] (iC.ok (bS:=p) q) fun a j b l c m d o=>?_)
 refine ad cw (h:=ad cw (h:=o' (bj u 0 10 (am s.1 a j b l c m d o) (h:=ad aW (h:=cD ?_)))))
 have h:=aN H;subst h
 exact dE [.cell 4 34,.tmp 5] [0,1,2,3] ⟨a,j,b,l,c,m,d,o,rfl,rfl⟩ ⟨cW 10,cX,trivial⟩


def jd.f (p0 : bJ) (a1 : Int) : Option ((Int × Int)):=lt (i64.wrap (a1 * p0.f0)) fun a=>if 0 ≤ a∧a ≤ (i64.wrap (a + p0.f0))∧(i64.wrap (a + p0.f0)) ≤ (p0.f2.length : Int)∧(i64.wrap (a + p0.f0)) ≤ (i64.wrap (a + p0.f0))∧(i64.wrap (a + p0.f0)) ≤ (p0.f2.length : Int) then (some (((0 + a : Int),((i64.wrap (a + p0.f0)) - a : Int)))) else none
theorem jd.ok {p0 : bJ} {a1 : Int} {r : (Int × Int)} (H : jd.f p0 a1 = some r) : dp Tryz.prog 135 #[.pointer (some ⟨bg,0,none⟩),ae a1] [aL bg 26 [ae p0.f0,ae p0.f1,.slice af p0.f2.length ag],Buf bI 55 af ag p0.f2] (fun v B=>∃ (V0_ : Option Addr) (v0_ : Nat) (_ : ey af V0_ 15 r.1 r.2 v0_),v = .slice V0_ r.2.toNat v0_∧B = [aL bg 26 [ae p0.f0,ae p0.f1,.slice af p0.f2.length ag],Buf bI 55 af ag p0.f2]):=by
 refine aj Tryz.func135 rfl rfl ?_
 unfold jd.f at H
 refine aP (ad aW (h:=cR (ad ar (h:=ad ar (h:=ad cL (h:=ad aA (h:=bq (aO 0) (h:=S' (jt rfl rfl) ?_))))))))
 obtain⟨d,z,H⟩:=bi H
 refine bT (ae d) (bu (v:=ae d) (congrArg (Value.int .i64) z.symm)) (h:=bA (ap (bQ 1 fun D=>?_)))
 refine fg (dC 0 19) [0] [1] fun _ _ _ _ _ sH dd pk=>?_
 refine bf 0 rfl sH ar (h:=bf 1 rfl sH cL (h:=bf 2 rfl sH aA (h:=bN 3 rfl sH (aO 0) (h:=bf 4 rfl sH ar (h:=bf 5 rfl sH ar (h:=bf 6 rfl sH ar (h:=bf 7 rfl sH cL (h:=bf 8 rfl sH aA (h:=r' 9 rfl sH (aO 0) ?_)))))))))
 refine bf 10 rfl sH (bX rfl rfl) (h:=bf 11 rfl sH ar (h:=bf 12 rfl sH ar (h:=bf 13 rfl sH cL (h:=bf 14 rfl sH aA (h:=bN 15 rfl sH (aO 0) (h:=T' 16 rfl sH (bX rfl rfl) ?_))))))
 obtain⟨⟨j,o,p,s,u⟩,H⟩:=aS H
 refine t' (.slice (dv af d (i64.wrap (d + p0.f0)) 15) ((i64.wrap (d + p0.f0)) - d).toNat ((i64.wrap (d + p0.f0)).toNat - d.toNat)) 17 rfl sH (dA (l:=0) (m:=(p0.f2.length : Int)) (a:=d) (b:=i64.wrap (d + p0.f0)) (q:=i64.wrap (d + p0.f0)) (ey.whole (A:=af) (sz:=15) (xs:=p0.f2) (c:=ag) (by omega)) Tryz.underlying24 ck rfl rfl rfl rfl (.inr ⟨_,rfl⟩) (.inr ⟨_,rfl⟩) (.inr ⟨⟨_,rfl⟩,⟨_,rfl⟩,s,u⟩) j o p) ?_
 have y : ey af (dv af d (i64.wrap (d + p0.f0)) 15) 15 (0 + d) ((i64.wrap (d + p0.f0)) - d) ((i64.wrap (d + p0.f0)).toNat - d.toNat):=ey.sub (ey.whole (A:=af) (sz:=15) (xs:=p0.f2) (c:=ag) (by omega)) j o p (.inr s) (Int.le_trans u ((ey.whole (A:=af) (sz:=15) (xs:=p0.f2) (c:=ag) (by omega))).cap)
 refine kQ (.slice (dv af d (i64.wrap (d + p0.f0)) 15) ((i64.wrap (d + p0.f0)) - d).toNat ((i64.wrap (d + p0.f0)).toNat - d.toNat)) 18 rfl sH rR (h:=aV dd sH (aH (by kernel_rfl) (aa (eM ?_))))
 have h:=aN H;subst h
 exact dJ [0,1] ⟨dv af d (i64.wrap (d + p0.f0)) 15,(i64.wrap (d + p0.f0)).toNat - d.toNat,y,rfl,rfl⟩


def pM.f (p0 : bJ) (a1 : Int) : Option ((List ba)):=lt (i64.wrap (a1 * p0.f0)) fun a=>if 0 ≤ a∧a ≤ (i64.wrap (a + p0.f0))∧(i64.wrap (a + p0.f0)) ≤ (p0.f2.length : Int)∧(i64.wrap (a + p0.f0)) ≤ (i64.wrap (a + p0.f0))∧(i64.wrap (a + p0.f0)) ≤ (p0.f2.length : Int) then lt (sub p0.f2 a (i64.wrap (a + p0.f0))) fun b=>(some (b)) else none
theorem pM.ok {p0 : bJ} {a1 : Int} {r : (List ba)} (H : pM.f p0 a1 = some r) : dp Tryz.prog 135 #[.pointer (some ⟨bg,0,none⟩),ae a1] [aL bg 26 [ae p0.f0,ae p0.f1,.slice af p0.f2.length ag],Ro bI af ag p0.f2] (fun v B=>∃ aQ aR,v = .slice aQ r.length aR∧B = [Ro bI aQ aR r,aL bg 26 [ae p0.f0,ae p0.f1,.slice af p0.f2.length ag]]):=by
 refine aj Tryz.func135 rfl rfl ?_
 unfold pM.f at H
 refine aP (ad aW (h:=cR (ad ar (h:=ad ar (h:=ad cL (h:=ad aA (h:=bq (aO 0) (h:=S' (jt rfl rfl) ?_))))))))
 obtain⟨a,s,H⟩:=bi H
 refine bT (ae a) (bu (v:=ae a) (congrArg (Value.int .i64) s.symm)) (h:=bA (ap ?_))
 refine fg (dC 0 19) [0,1] [1] fun _ _ _ _ _ sH dd pk=>?_
 refine bf 0 rfl sH ar (h:=bf 1 rfl sH cL (h:=bf 2 rfl sH aA (h:=bN 3 rfl sH (aO 0) (h:=bf 4 rfl sH ar (h:=bf 5 rfl sH ar (h:=bf 6 rfl sH ar (h:=bf 7 rfl sH cL (h:=bf 8 rfl sH aA (h:=r' 9 rfl sH (aO 0) ?_)))))))))
 refine bf 10 rfl sH (bX rfl rfl) (h:=bf 11 rfl sH ar (h:=bf 12 rfl sH ar (h:=bf 13 rfl sH cL (h:=bf 14 rfl sH aA (h:=bN 15 rfl sH (aO 0) (h:=T' 16 rfl sH (bX rfl rfl) ?_))))))
 obtain⟨⟨c,d,j,o,p⟩,H⟩:=aS H
 obtain⟨q,b,H⟩:=bi H
 replace sH:=dM (GP.subN (k:=1) (l:=a) (h:=i64.wrap (a + p0.f0)) (m:=i64.wrap (a + p0.f0)) (sz:=15) b rfl rfl c d j (.inr o)) sH
 refine wo 2 sH rfl rfl (bN 17 rfl sH (wN (k:=1) (l:=a) (h:=i64.wrap (a + p0.f0)) (m:=i64.wrap (a + p0.f0)) b rfl Tryz.underlying24 ck rfl rfl rfl rfl (.inr ⟨_,rfl⟩) (.inr ⟨_,rfl⟩) (.inr ⟨⟨_,rfl⟩,⟨_,rfl⟩,o,p⟩) c d j) (h:=kQ (.slice (dv af a (i64.wrap (a + p0.f0)) 15) q.length ((i64.wrap (a + p0.f0)).toNat - a.toNat)) 18 rfl sH rR (h:=aV dd sH (aH (by kernel_rfl) (aa (eM ?_))))))
 have h:=aN H;subst h
 exact dJ [2,0] ⟨dv af a (i64.wrap (a + p0.f0)) 15,(i64.wrap (a + p0.f0)).toNat - a.toNat,rfl,rfl⟩


def qS.l0 (a0 : bJ) (a2 : Int) (gf : bJ) : Nat → Int → (List ba) → Option ((List ba))
  | 0,_,_=>none
  | k + 1,b,a=>if a.length = gf.f2.length then (if b < (dm a2 a0.f1) then ((jd.f (bJ.mk gf.f0 gf.f1 a) b).bind (fun nw=>if (0 ≤ nw.1∧0 ≤ nw.2∧nw.1 + nw.2 ≤ (a.length : Int)) then ((pM.f a0 b).bind (fun d=>lt (bB a nw.1.toNat (d.take nw.2.toNat)) fun n41=>((ei.f k n41 nw.1 nw.2).bind (fun c=>if c.length = n41.length then (qS.l0 a0 a2 gf k (i64.wrap (b + 1)) c) else none)))) else none)) else (some a)) else none
def qS.f (k : Nat) (a0 : bJ) (a1 : Int) (a2 : Int) (a3 : cN) : Option (bJ × Int):=(fM.f k a0).bind (fun j=>(if (!j) = true then (some true) else ((qH.f a1 a2).bind (fun c=>some (!c))) : Option Bool).bind (fun h=>(if h = true then (some true) else ((qb.f a3).bind (fun d=>some (!d))) : Option Bool).bind (fun b=>if b = true then (some (((bJ.mk 0 0 ([] : (List ba))),2))) else ((tg.f k a1 a2 a3).bind (fun gf=>(qS.l0 a0 a2 gf k 0 gf.f2 : Option ((List ba))).bind (fun a=>if a.length = gf.f2.length then (some (((bJ.mk gf.f0 gf.f1 a),0))) else none))))))
theorem qS.ok {a0 : bJ} {a1 : Int} {a2 : Int} {a3 : cN} {r : bJ × Int} (H : qS.f k a0 a1 a2 a3 = some r) : dp Tryz.prog 96 #[.agg #[ae a0.f0,ae a0.f1,.slice af a0.f2.length ag],ae a1,ae a2,.agg (bF a3).toArray] [Ro bI af ag a0.f2] (fun v B=>∃ aQ aR,v = .tuple #[.agg #[ae r.1.f0,ae r.1.f1,.slice aQ r.1.f2.length aR],ae r.2]∧B = [Buf bI 55 aQ aR r.1.f2]):=by
 refine aj Tryz.func96 rfl rfl ?_
 unfold qS.f at H
 refine aP (o' (bO (h:=fun s=>o' (bO (h:=fun J=>o' (cC (h:=fun q=>ad aW (h:=eA (l' (cx s 0 1 [ae a0.f0,ae a0.f1,.slice af a0.f2.length ag]) ?_)))))))))
 obtain⟨r8,a5,H⟩:=ac H
 refine o' (da [0] [0,1,2,3] (zY.ok a5) ?_)
 refine ad (bU rfl) (h:=S' ar ?_)
 obtain⟨q9,H,O⟩:=ac H
 refine dy 5 [(1,ae a1),(2,ae a2),(4,aI s),(7,aI J),(8,aI q),(21,.bool q9)] [aL s 26 [ae a0.f0,ae a0.f1,.slice af a0.f2.length ag],Ro bI af ag a0.f2,aL J 28 (bF a3),aL q 26 [ae 0,ae 0,.slice none 0 0]] ?_ fun junk=>?_
 ·rcases bD H with⟨d,H⟩|⟨d,H⟩
  ·refine ct 4 d (gJ d ?_)
   have h:=aN H;subst h
   exact dQ [1,0,2,3]
  refine aZ (aK d) ar (h:=Y' (aK d) ar ?_)
  obtain⟨b8,R,H⟩:=ac H
  refine fR (aK d) (da [] [0,1,2,3] (qH.ok R) ?_)
  refine aZ (aK d) (bU rfl) (h:=fZ (aK d) ?_)
  have h:=aN H;subst h
  exact dQ [1,0,2,3]
 replace H:=O
 refine S' ar ?_
 obtain⟨a7,H,y⟩:=ac H
 refine cI 4 (St [(1,ae a1),(2,ae a2),(4,aI s),(7,aI J),(8,aI q),(26,.bool a7)] [aL s 26 [ae a0.f0,ae a0.f1,.slice af a0.f2.length ag],Ro bI af ag a0.f2,aL J 28 (bF a3),aL q 26 [ae 0,ae 0,.slice none 0 0]]) ?_ ?_
 ·rcases bD H with⟨o,H⟩|⟨o,H⟩
  ·refine ct 3 o (gJ o ?_)
   have h:=aN H;subst h
   exact dQ [0,1,2,3]
  refine z' (aK o) (cm 2) ?_
  obtain⟨b9,S,H⟩:=ac H
  refine fR (aK o) (da [] [0,1,2,3] (qb.ok S) ?_)
  refine aZ (aK o) (bU rfl) (h:=fZ (aK o) ?_)
  have h:=aN H;subst h
  exact dQ [0,1,2,3]
 rintro e ds As K
 clear H
 have H:=y
 clear y
 refine bA (SA.of_St K fun junk=>?_)
 rcases bD H with⟨D,H⟩|⟨D,H⟩
 ·refine aD rfl D (aP (bT (.agg #[ae 0,ae 0,.slice none 0 0]) dS (h:=o' (bj q 0 3 [ae 0,ae 0,.slice none 0 0] (h:=ad aW (h:=cA ?_))))))
  have h:=aN H;subst h
  exact lX [.cell 8 26,.tmp 9] ((Gh.nilBuf bI 55).trans (fk [4])) ⟨none,0,rfl,rfl⟩ ⟨cW 3,cX,trivial⟩
 refine aE rfl D (ao (aa (aP (ad ar (h:=ad ar (h:=l' (cm 2) ?_))))))
 obtain⟨gf,a4,H⟩:=ac H
 refine o' (gy [] [0,1,2,3] (tg.ok a4) fun b c=>?_)
 refine o' (cC (h:=fun j=>o' (bj j 0 5 [ae gf.f0,ae gf.f1,.slice b gf.f2.length c] (h:=eA (ad ar (h:=ad aA (h:=bq (aO 1) (h:=bT (ae (dm a2 a0.f1)) (jL rfl rfl) (h:=ad ar (h:=bA ?_))))))))))
 obtain⟨u,H,z⟩:=ac H
 refine bK (St [(8,aI q),(10,aI j)] [aL q 26 [ae 0,ae 0,.slice none 0 0],aL j 26 [ae gf.f0,ae gf.f1,.slice b u.length c],Buf bI 55 b c u]) ?_ ?_
 ·refine aT (cl (fun k_ e ds As=>∃ (p : Int) (a : (List ba)),qS.l0 a0 a2 gf k_ p a = some u∧St [(4,aI s),(8,aI q),(10,aI j),(35,ae (dm a2 a0.f1)),(36,ae p)] [aL s 26 [ae a0.f0,ae a0.f1,.slice af a0.f2.length ag],Ro bI af ag a0.f2,aL q 26 [ae 0,ae 0,.slice none 0 0],aL j 26 [ae gf.f0,ae gf.f1,.slice b a.length c],Buf bI 55 b c a] e ds As) (k:=k) ⟨_,_,H,jQ [1,2,4,5,0]⟩ ?_)
  clear H
  rintro pG e ds As ⟨p,a,H,L⟩
  obtain _ | pG:=pG
  ·cases H
  rw [qS.l0] at H
  obtain⟨b1,H⟩:=aS H
  refine SA.of_St L fun junk=>aP (ad (cg rfl rfl) (h:=bA (ap ?_)))
  rcases bD H with⟨E,H⟩|⟨E,H⟩
  ·refine aC rfl E (ao (aa (ap (aT (aP (ad ar (h:=ad aW (h:=bA (ap (bQ 4 fun b0=>ak (S' ar ?_)))))))))))
   obtain⟨nw,Z,H⟩:=ac H
   obtain⟨⟨hl36a,hl36b,hl36c⟩,H⟩:=aS H
   refine o' (mu [3,4] [0,1,2] (jd.ok (bg:=j) Z) ?_)
   rintro _ _⟨a6,a9,F,rfl,rfl⟩
   refine ad aW (h:=cR (ad ar (h:=S' ar ?_)))
   obtain⟨a8,Y,H⟩:=ac H
   refine o' (gy [2,3] [0,1,3,4] (pM.ok (bg:=s) Y) fun b5 b7=>?_)
   obtain⟨n41,I,H⟩:=bi H
   have hl_n41 : n41.length = a.length:=by rw [I]; exact eU (by rw [List.length_take]; omega)
   refine o' (gn (k:=3) (l:=nw.1) (m:=nw.2) (xs:=a) (ys:=a8) n41 I F rfl Tryz.underlying116 ck rfl rfl rfl (by omega) rfl (pE.slice (Src.ro (k:=0) rfl)) ?_)
   try unfold bF
   try rewrite [← hl_n41]
   refine bA (ak (S' ar ?_))
   obtain⟨c5,U,H⟩:=ac H
   obtain⟨N,H⟩:=aS H
   refine o' (da [3] [0,1,2,4,5] (ei.ok (o0:=nw.1) (n0:=nw.2) (A0:=b) (c0:=c) (V0:=a6) (v0:=a9) (hw0:=F) U) ?_)
   try unfold bF
   try rewrite [← N]
   refine ah (aG (aa (ak (ad (bX rfl rfl) (h:=ad ar (h:=ah ?_))))))
   exact aa ⟨pG,Nat.lt_succ_self _,_,_,H,eb [2,4,5,3,0]⟩
  refine aB rfl E (ci (aX (aX (cj ?_))))
  have h:=aN H;subst h
  exact bH [2,3,4]
 rintro e ds As M
 clear H
 have H:=z
 clear z
 obtain⟨b3,H⟩:=aS H
 refine aa (SA.of_St M fun junk=>aP (bq (cx j 0 1 [ae gf.f0,ae gf.f1,.slice b u.length c]) (h:=o' (bj q 0 0 [ae gf.f0,ae gf.f1,.slice b u.length c] (h:=ad aW (h:=cD ?_))))))
 have h:=aN H;subst h
 exact dE [.cell 8 26,.tmp 9] [2] ⟨b,c,rfl,rfl⟩ ⟨cW 0,cX,trivial⟩


def js.l0 (a0 : bJ) (a2 : Int) (r22 : bJ) : Nat → Int → (List ba) → Option ((List ba))
  | 0,_,_=>none
  | k + 1,b,a=>if a.length = r22.f2.length then (if b < (dm a2 a0.f1) then ((jd.f (bJ.mk r22.f0 r22.f1 a) b).bind (fun c=>if (0 ≤ c.1∧0 ≤ c.2∧c.1 + c.2 ≤ (a.length : Int)) then ((jd.f a0 b).bind (fun d=>if (0 ≤ d.1∧0 ≤ d.2∧d.1 + d.2 ≤ (a0.f2.length : Int)) then (lt (bB a c.1.toNat ((sub a0.f2 d.1 (d.1 + d.2)).take c.2.toNat)) fun n43=>((ei.f k n43 c.1 c.2).bind (fun h=>if h.length = n43.length then (js.l0 a0 a2 r22 k (i64.wrap (b + 1)) h) else none))) else none)) else none)) else (some a)) else none
def js.f (k : Nat) (a0 : bJ) (a1 : Int) (a2 : Int) (a3 : cN) : Option (bJ × Int):=(fM.f k a0).bind (fun l=>(if (!l) = true then (some true) else ((qH.f a1 a2).bind (fun h=>some (!h))) : Option Bool).bind (fun c=>(if c = true then (some true) else ((qb.f a3).bind (fun j=>some (!j))) : Option Bool).bind (fun d=>if d = true then (some (((bJ.mk 0 0 ([] : (List ba))),2))) else ((tg.f k a1 a2 a3).bind (fun a=>(js.l0 a0 a2 a k 0 a.f2 : Option ((List ba))).bind (fun b=>if b.length = a.f2.length then (some (((bJ.mk a.f0 a.f1 b),0))) else none))))))
theorem js.ok {a0 : bJ} {a1 : Int} {a2 : Int} {a3 : cN} {r : bJ × Int} (H : js.f k a0 a1 a2 a3 = some r) : dp Tryz.prog 96 #[.agg #[ae a0.f0,ae a0.f1,.slice af a0.f2.length ag],ae a1,ae a2,.agg (bF a3).toArray] [Buf bI 55 af ag a0.f2] (fun v B=>∃ aQ aR,v = .tuple #[.agg #[ae r.1.f0,ae r.1.f1,.slice aQ r.1.f2.length aR],ae r.2]∧B = [Buf bI 55 aQ aR r.1.f2,Buf bI 55 af ag a0.f2]):=by
 refine aj Tryz.func96 rfl rfl ?_
 unfold js.f at H
 refine aP (o' (bO (h:=fun u=>o' (bO (h:=fun N=>o' (cC (h:=fun s=>ad aW (h:=bA (ap (ap (bQ 0 fun c7=>ak (l' (cx u 0 1 [ae a0.f0,ae a0.f1,.slice af a0.f2.length ag]) ?_))))))))))))
 obtain⟨r9,b0,H⟩:=ac H
 refine o' (da [0] [1,2,3] (fM.ok b0) ?_)
 refine ad (bU rfl) (h:=S' ar ?_)
 obtain⟨b3,H,U⟩:=ac H
 refine dy 5 [(1,ae a1),(2,ae a2),(4,aI u),(7,aI N),(8,aI s),(21,.bool b3)] [Buf bI 55 af ag a0.f2,aL u 26 [ae a0.f0,ae a0.f1,.slice af a0.f2.length ag],aL N 28 (bF a3),aL s 26 [ae 0,ae 0,.slice none 0 0]] ?_ fun junk=>?_
 ·rcases bD H with⟨j,H⟩|⟨j,H⟩
  ·refine ct 4 j (gJ j ?_)
   have h:=aN H;subst h
   exact dQ [0,1,2,3]
  refine aZ (aK j) ar (h:=Y' (aK j) ar ?_)
  obtain⟨c8,a4,H⟩:=ac H
  refine fR (aK j) (da [] [0,1,2,3] (qH.ok a4) ?_)
  refine aZ (aK j) (bU rfl) (h:=fZ (aK j) ?_)
  have h:=aN H;subst h
  exact dQ [0,1,2,3]
 replace H:=U
 refine S' ar ?_
 obtain⟨b5,H,D⟩:=ac H
 refine cI 4 (St [(1,ae a1),(2,ae a2),(4,aI u),(7,aI N),(8,aI s),(26,.bool b5)] [Buf bI 55 af ag a0.f2,aL u 26 [ae a0.f0,ae a0.f1,.slice af a0.f2.length ag],aL N 28 (bF a3),aL s 26 [ae 0,ae 0,.slice none 0 0]]) ?_ ?_
 ·rcases bD H with⟨p,H⟩|⟨p,H⟩
  ·refine ct 3 p (gJ p ?_)
   have h:=aN H;subst h
   exact dQ [0,1,2,3]
  refine z' (aK p) (cm 2) ?_
  obtain⟨c9,a5,H⟩:=ac H
  refine fR (aK p) (da [] [0,1,2,3] (qb.ok a5) ?_)
  refine aZ (aK p) (bU rfl) (h:=fZ (aK p) ?_)
  have h:=aN H;subst h
  exact dQ [0,1,2,3]
 rintro e ds As O
 clear H
 have H:=D
 clear D
 refine bA (SA.of_St O fun junk=>?_)
 rcases bD H with⟨F,H⟩|⟨F,H⟩
 ·refine aD rfl F (aP (bT (.agg #[ae 0,ae 0,.slice none 0 0]) dS (h:=o' (bj s 0 3 [ae 0,ae 0,.slice none 0 0] (h:=ad aW (h:=cA ?_))))))
  have h:=aN H;subst h
  exact lX [.cell 8 26,.tmp 9] ((Gh.nilBuf bI 55).trans (fk [4,0])) ⟨none,0,rfl,rfl⟩ ⟨cW 3,cX,trivial⟩
 refine aE rfl F (ao (aa (aP (ad ar (h:=ad ar (h:=l' (cm 2) ?_))))))
 obtain⟨b,a9,H⟩:=ac H
 refine o' (gy [] [0,1,2,3] (tg.ok a9) fun c d=>?_)
 refine o' (cC (h:=fun o=>o' (bj o 0 5 [ae b.f0,ae b.f1,.slice c b.f2.length d] (h:=eA (ad ar (h:=ad aA (h:=bq (aO 2) (h:=bT (ae (dm a2 a0.f1)) (jL rfl rfl) (h:=ad ar (h:=bA ?_))))))))))
 obtain⟨y,H,E⟩:=ac H
 refine bK (St [(8,aI s),(10,aI o)] [Buf bI 55 af ag a0.f2,aL s 26 [ae 0,ae 0,.slice none 0 0],aL o 26 [ae b.f0,ae b.f1,.slice c y.length d],Buf bI 55 c d y]) ?_ ?_
 ·refine aT (cl (fun k_ e ds As=>∃ (q : Int) (a : (List ba)),js.l0 a0 a2 b k_ q a = some y∧St [(4,aI u),(8,aI s),(10,aI o),(35,ae (dm a2 a0.f1)),(36,ae q)] [Buf bI 55 af ag a0.f2,aL u 26 [ae a0.f0,ae a0.f1,.slice af a0.f2.length ag],aL s 26 [ae 0,ae 0,.slice none 0 0],aL o 26 [ae b.f0,ae b.f1,.slice c a.length d],Buf bI 55 c d a] e ds As) (k:=k) ⟨_,_,H,jQ [1,2,4,5,0]⟩ ?_)
  clear H
  rintro L e ds As ⟨q,a,H,R⟩
  obtain _ | L:=L
  ·cases H
  rw [js.l0] at H
  obtain⟨b9,H⟩:=aS H
  refine SA.of_St R fun junk=>aP (ad (cg rfl rfl) (h:=bA (ap ?_)))
  rcases bD H with⟨I,H⟩|⟨I,H⟩
  ·refine aC rfl I (ao (aa (ap (aT (aP (ad ar (h:=ad aW (h:=bA (ap (bQ 4 fun b8=>ak (S' ar ?_)))))))))))
   obtain⟨z,a8,H⟩:=ac H
   obtain⟨⟨hl37a,hl37b,hl37c⟩,H⟩:=aS H
   refine o' (mu [3,4] [0,1,2] (jd.ok (bg:=o) a8) ?_)
   rintro _ _⟨b1,b7,J,rfl,rfl⟩
   refine ad aW (h:=cR (ad ar (h:=S' ar ?_)))
   obtain⟨M,a7,H⟩:=ac H
   obtain⟨⟨hl42a,hl42b,hl42c⟩,H⟩:=aS H
   refine o' (mu [3,2] [0,1,4] (jd.ok (bg:=u) a7) ?_)
   rintro _ _⟨c6,d1,Y,rfl,rfl⟩
   obtain⟨n43,K,H⟩:=bi H
   have hl_n43 : n43.length = a.length:=by rw [K]; exact eU (by rw [List.length_take]; omega)
   refine o' (gn (k:=3) (l:=z.1) (m:=z.2) (xs:=a) (ys:=sub a0.f2 M.1 (M.1 + M.2)) n43 K J rfl Tryz.underlying116 ck rfl rfl rfl (by omega) rfl (pE.win (Src.buf (k:=1) rfl) Y rfl (by omega)) ?_)
   try unfold bF
   try rewrite [← hl_n43]
   refine bA (ak (S' ar ?_))
   obtain⟨d0,a6,H⟩:=ac H
   obtain⟨Z,H⟩:=aS H
   refine o' (da [3] [0,1,2,4] (ei.ok (o0:=z.1) (n0:=z.2) (A0:=c) (c0:=d) (V0:=b1) (v0:=b7) (hw0:=J) a6) ?_)
   try unfold bF
   try rewrite [← Z]
   refine ah (aG (aa (ak (ad (bX rfl rfl) (h:=ad ar (h:=ah ?_))))))
   exact aa ⟨L,Nat.lt_succ_self _,_,_,H,eb [2,1,4,3,0]⟩
  refine aB rfl I (ci (aX (aX (cj ?_))))
  have h:=aN H;subst h
  exact bH [0,2,3,4]
 rintro e ds As S
 clear H
 have H:=E
 clear E
 obtain⟨c5,H⟩:=aS H
 refine aa (SA.of_St S fun junk=>aP (bq (cx o 0 2 [ae b.f0,ae b.f1,.slice c y.length d]) (h:=o' (bj s 0 1 [ae b.f0,ae b.f1,.slice c y.length d] (h:=ad aW (h:=cD ?_))))))
 have h:=aN H;subst h
 exact dE [.cell 8 26,.tmp 9] [3,0] ⟨c,d,rfl,rfl⟩ ⟨cW 1,cX,trivial⟩

end Go.Proofs.YtckilbegmbaeeaaGreat.Z7

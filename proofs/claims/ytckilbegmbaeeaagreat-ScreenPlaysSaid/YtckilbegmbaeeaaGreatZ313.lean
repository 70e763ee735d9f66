/- What functions compute, and that they do: 132Lb_0_, 36, 62f90xxx_1_, 90Lb_0_, 91Lb_0_. -/
import Derived.Test.YtckilbegmbaeeaaGreatZ312
namespace Go.Proofs.YtckilbegmbaeeaaGreat.Z3
open Go Go.RowKit Go.Proofs.YtckilbegmbaeeaaGreat.SL
set_option linter.unusedVariables false
set_option maxHeartbeats 20000000
set_option maxRecDepth 100000
set_option linter.unusedSimpArgs false
attribute [local irreducible] IntKind.wrap cC dO eX gp gl lH fU cN gm rd sub bytesOf eG cL
variable {ba gV bJ dm ld nS vp af ay ar au k : Nat}
variable {ag az aw av : Option Addr}
def gw.f (k : Nat) (p0 : aG) (a1 : Bool) : Option (aG):=lt (a1 && (!p0.f15)) fun d=>if d = true then (if 0 ≤ (p0.f0.f2.length : Int)∧(p0.f0.f2.length : Int) ≤ 2932031007402 then lt (List.replicate (p0.f0.f2.length : Int).toNat (aZ.mk 0 (fR.mk 0 0 0) 0 (cA.mk 0 0 false false false false false false false false))) fun a=>((cM.f k ({ p0 with f0:=(bF.mk p0.f0.f0 p0.f0.f1 a),f15:=true,f16:=p0.f0 }) 0 p0.f0.f1).bind (fun b=>some (b))) else none) else (lt ((!a1) && p0.f15) fun c=>if c = true then (some (({ p0 with f0:=p0.f16,f15:=false,f16:=(bF.mk 0 0 ([] : (List aZ))) }))) else (some (p0)))
theorem gw.ok {p0 : aG} {a1 : Bool} {r : aG} (H : gw.f k p0 a1 = some r) : df Tryz.prog 132 #[.agg #[.pointer (some ⟨ba,0,none⟩)],.bool a1] (cK ba p0 ag af az ay aw ar av au) (fun v B=>∃ P0_0_ q0_0_ P0_1_ q0_1_ P0_2_ q0_2_ P0_3_ q0_3_,v = .tuple #[]∧B = (cK ba r P0_0_ q0_0_ P0_1_ q0_1_ P0_2_ q0_2_ P0_3_ q0_3_)):=by
 refine ai Tryz.func132 rfl rfl ?_
 unfold gw.f at H
 refine aQ (o' (bN (h:=fun o=>bC (aU (aQ (ad ax (h:=S' ax ?_)))))))
 obtain⟨Z,M,H⟩:=br H
 refine eg 7 [(1,.bool a1),(2,aK o),(13,.bool Z)] (aL ba 34 (al p0 ag af az ay aw ar av au)::(aS p0 ag af az ay aw ar av au++[aL o 84 [aK ba]])) ?_ fun junk=>?_
 ·by_cases d : a1 = true
  ·refine bn d aE (h:=dc d (aT 5) (h:=bn d cz (h:=bn d aE (h:=dc d (aT 0) (h:=bn d (ca rfl) (h:=cq d (h:=aj ?_)))))))
   have x_:=gD M d;exact bM [0,1,2,3,4,5]
  refine cI 6 (aX d) (cv (aX d) (h:=aj ?_))
  have x_:=gC M ((aX d));exact bM [0,1,2,3,4,5]
 refine ad aV (h:=bC ?_)
 rcases bH H with⟨p,H⟩|⟨p,H⟩
 ·refine aC rfl p (ao ?_)
  refine fk [0,1,2,3,4,5,6,7,9,10,12,13] [5] (dG 0 5) fun _ _ _ _ _ sH dd pk=>?_
  refine bf 0 rfl sH aE (h:=bT 1 rfl sH (aT 0) (h:=bf 2 rfl sH aE (h:=bT 3 rfl sH (aT 0) (h:=bf 4 rfl sH aE (h:=bT 5 rfl sH (aT 0) (h:=bf 6 rfl sH cz (h:=bf 7 rfl sH aE (h:=dx 8 rfl dd (dv rfl (cG ba 0 0 [ae p0.f0.f0,ae p0.f0.f1,.slice ag p0.f0.f2.length af]) (T' 9 rfl sH cz ?_))))))))))
  refine bf 10 rfl sH aE (h:=dx 11 rfl dd (cH 0 [ae p0.f0.f0,ae p0.f0.f1,.slice ag p0.f0.f2.length af] (h:=(bf 12 rfl sH cz (h:=bf 13 rfl sH aE (h:=dx 14 rfl dd (cH 0 [.bool true] (h:=(aW dd sH (aH (by kernel_rfl) (aa (ao ?_))))))))))))
  refine fk (0::1::2::3::4::5::6::7::8::9::10::11::12::13::14::15::16::17::18::19::20::22::23::24::[]) [0,1] (dG 2 4) fun _ _ _ _ _ sH dd pk=>?_
  refine bf 0 rfl sH aE (h:=bT 1 rfl sH (aT 0) (h:=bf 2 rfl sH aE (h:=bT 3 rfl sH (aT 0) (h:=bf 4 rfl sH cz (h:=bf 5 rfl sH aE (h:=bf 6 rfl sH aE (h:=bT 7 rfl sH (aT 1) (h:=bf 8 rfl sH aE (h:=r' 9 rfl sH (aT 0) ?_)))))))))
  refine bf 10 rfl sH cz (h:=bf 11 rfl sH aE (h:=bf 12 rfl sH aE (h:=bT 13 rfl sH (aT 1) (h:=bf 14 rfl sH aE (h:=bT 15 rfl sH (aT 0) (h:=bf 16 rfl sH cz (h:=bf 17 rfl sH aE (h:=bf 18 rfl sH aE (h:=r' 19 rfl sH (aT 1) ?_)))))))))
  refine t' (ae (p0.f0.f2.length : Int)) 20 rfl sH (dB Tryz.underlying24 rfl) ?_
  obtain⟨⟨s,U⟩,H⟩:=aR H
  obtain⟨b,q,H⟩:=br H
  refine dx 21 rfl dd (vK (kd:=bE) (sz:=15) (l:=(p0.f0.f2.length : Int)) lP b q rfl Tryz.underlying24 nl rfl rfl s (by omega) (by omega) rfl rfl (fun _=>rfl) fun c=>kY (.agg #[ae p0.f0.f0,ae p0.f0.f1,.slice (some ⟨c,0,none⟩) b.length ((p0.f0.f2.length : Int).toNat)]) 22 rfl sH dA (h:=bf 23 rfl sH cz (h:=bf 24 rfl sH aE (h:=aW dd sH (ey 25 rfl (cH 1 [ae p0.f0.f0,ae p0.f0.f1,.slice (some ⟨c,0,none⟩) b.length ((p0.f0.f2.length : Int).toNat)] (h:=(aH (by kernel_rfl) (aa (SA.of_St (l:=[(2,aK o)]) (B:=[aL ba 34 (al ({ p0 with f0:=(bF.mk p0.f0.f0 p0.f0.f1 b),f15:=true,f16:=p0.f0 }) (some ⟨c,0,none⟩) ((p0.f0.f2.length : Int).toNat) az ay ag af av au),Buf bE 55 (some ⟨c,0,none⟩) ((p0.f0.f2.length : Int).toNat) b,fm 3 az ay p0.f7,Buf bE 55 ag af p0.f0.f2,jf 21 av au p0.f17,aL o 84 [aK ba]]) (St.mk1 (cJ rfl dQ) (Gh.sel [1,6,3,2,5,0] (by kernel_rfl) (by kernel_rfl))) fun junk=>bj 1 fun N=>?_))))))))))
  refine bj 2 fun O=>bj 3 fun R=>bj 4 fun S=>?_
  refine fk (dG 0 7) [0,5] (dG 1 4) fun _ _ _ _ _ sH dd pk=>?_
  refine bT 0 rfl sH (cG o 0 1 [aK ba]) (h:=bf 1 rfl sH aE (h:=bT 2 rfl sH (aT 1) (h:=bf 3 rfl sH cz (h:=bf 4 rfl sH aE (h:=bf 5 rfl sH aE (h:=bT 6 rfl sH (aT 0) (h:=aW dd sH ?_)))))))
  obtain⟨Y,u,H⟩:=ac H
  refine ey 7 rfl (dN [0,2,3,4,5] [1] (cM.ok (ba:=ba) (af:=(p0.f0.f2.length : Int).toNat) u) fun y z D E F I J K=>?_)
  refine aH (by kernel_rfl) (aF ?_)
  have h:=aN H;subst h
  exact fD [0,1,2,3,4] ⟨y,z,D,E,F,I,J,K,rfl,rfl⟩
 refine aD rfl p (aQ (ad ax (h:=ad (ca rfl) (h:=S' ax ?_))))
 obtain⟨L,m,H⟩:=br H
 refine eg 6 [(2,aK o),(69,.bool L)] (aL ba 34 (al p0 ag af az ay aw ar av au)::(aS p0 ag af az ay aw ar av au++[aL o 84 [aK ba]])) ?_ fun junk=>?_
 ·by_cases a : (!a1) = true
  ·refine bn a aE (h:=dc a (aT 5) (h:=bn a cz (h:=bn a aE (h:=dc a (aT 0) (h:=cq a (h:=aj ?_))))))
   have x_:=gD m a;exact bM [0,1,2,3,4,5]
  refine cI 5 (aX a) (cv (aX a) (h:=aj ?_))
  have x_:=gC m ((aX a));exact bM [0,1,2,3,4,5]
 refine ad aV (h:=bC ?_)
 rcases bH H with⟨j,H⟩|⟨j,H⟩
 ·refine aC rfl j ?_
  refine fk (0::1::2::3::4::5::6::7::8::9::11::12::13::15::16::18::19::[]) [5] (dG 0 5) fun _ _ _ _ _ sH dd pk=>?_
  refine bf 0 rfl sH aE (h:=bT 1 rfl sH (aT 0) (h:=bf 2 rfl sH aE (h:=bT 3 rfl sH (aT 0) (h:=bf 4 rfl sH aE (h:=bT 5 rfl sH (aT 0) (h:=bf 6 rfl sH aE (h:=bT 7 rfl sH (aT 0) (h:=bf 8 rfl sH cz (h:=T' 9 rfl sH aE ?_)))))))))
  refine kY (.agg #[ae 0,ae 0,.slice none 0 0]) 11 rfl sH dA (h:=dx 10 rfl dd (dv rfl (cG ba 40 0 [ae p0.f16.f0,ae p0.f16.f1,.slice aw p0.f16.f2.length ar]) (bf 12 rfl sH cz (h:=bf 13 rfl sH aE (h:=dx 14 rfl dd (cH 0 [ae p0.f16.f0,ae p0.f16.f1,.slice aw p0.f16.f2.length ar] (h:=(bf 15 rfl sH cz (h:=bf 16 rfl sH aE (h:=dx 17 rfl dd (cH 0 [ae 0,ae 0,.slice none 0 0] (h:=(bf 18 rfl sH cz (h:=T' 19 rfl sH aE ?_))))))))))))))
  refine dx 20 rfl dd (cH 0 [.bool false] (h:=(aW dd sH (aH (by kernel_rfl) (aF ?_)))))
  have h:=aN H;subst h
  exact rX [aL ba 34 (al ({ p0 with f0:=p0.f16,f15:=false,f16:=nE }) aw ar az ay none 0 av au),Buf bE 55 aw ar p0.f16.f2,fm 3 az ay p0.f7,Buf bE 55 none 0 ([] : (List aZ)),jf 21 av au p0.f17] rfl ((Gh.nilBuf bE 55).trans (eY [1,4,3,6,5])) ⟨aw,ar,az,ay,none,0,av,au,rfl,rfl⟩
 refine aD rfl j (ap (aF ?_))
 have h:=aN H;subst h
 exact fD [0,1,2,3,4] ⟨ag,af,az,ay,aw,ar,av,au,rfl,rfl⟩


def iH.f (k : Nat) (p0 : aG) (a1 : Bool) (a2 : Int) (a3 : Bool) : Option (aG):=if (!a1) = true then (if a2 = 4 then (some (({ p0 with f10:=a3 }))) else (some (p0))) else (if a2 = 1 then (some (({ p0 with f11:=a3 }))) else (if a2 = 6 then ((fw.f ({ p0 with f9:=a3 }) 0 0).bind (fun d=>some (d))) else (if a2 = 7 then (some (({ p0 with f8:=a3 }))) else (if a2 = 25 then (some (({ p0 with f13:=a3 }))) else (if a2 = 2004 then (some (({ p0 with f12:=a3 }))) else ((if a2 = 47 then (some (decide (a2 = 47))) else (some (decide (a2 = 1047))) : Option (Bool)).bind (fun h=>if h = true then ((gw.f k p0 a3).bind (fun j=>some (j))) else (if a2 = 1049 then ((if a3 = true then ((fH.f p0 false).bind (fun l=>some l)) else (some p0) : Option (aG)).bind (fun m=>(gw.f k m a3).bind (fun a=>lt ((!a3) && p0.f15) fun b=>if b = true then ((fH.f a true).bind (fun c=>some (c))) else (some (a))))) else (some (p0))))))))))
theorem iH.ok {p0 : aG} {a1 : Bool} {a2 : Int} {a3 : Bool} {r : aG} (H : iH.f k p0 a1 a2 a3 = some r) : df Tryz.prog 91 #[.agg #[.pointer (some ⟨ba,0,none⟩)],.bool a1,ae a2,.bool a3] (cK ba p0 ag af az ay aw ar av au) (fun v B=>∃ P0_0_ q0_0_ P0_1_ q0_1_ P0_2_ q0_2_ P0_3_ q0_3_,v = .tuple #[]∧B = (cK ba r P0_0_ q0_0_ P0_1_ q0_1_ P0_2_ q0_2_ P0_3_ q0_3_)):=by
 refine ai Tryz.func91 rfl rfl ?_
 unfold iH.f at H
 refine aQ (o' (bN (h:=fun b=>eJ (ad ax (h:=ad (ca rfl) (h:=bC ?_))))))
 rcases bH H with⟨h8,H⟩|⟨h8,H⟩
 ·refine aC rfl h8 (ao (aQ (ad ax (h:=ad (bk rfl rfl) (h:=bC ?_)))))
  rcases bH H with⟨h9,H⟩|⟨h9,H⟩
  ·refine aB rfl h9 (ah (ad aE (h:=bD (aT 5) (h:=ad ax (h:=ad cz (h:=ad aE (h:=o' (cH 0 [.bool a3] (h:=(cE ?_))))))))))
   have h:=aN H;subst h
   exact kT (aL ba 34 (al ({ p0 with f10:=a3 }) ag af az ay aw ar av au)::aS p0 ag af az ay aw ar av au) rfl (eY [0,1,2,3,4]) ⟨ag,af,az,ay,aw,ar,av,au,rfl,rfl⟩
  refine aA rfl h9 (ap (aa (fa (aI ?_))))
  have h:=aN H;subst h
  exact kT (cK ba p0 ag af az ay aw ar av au) rfl (eY [0,1,2,3,4]) ⟨ag,af,az,ay,aw,ar,av,au,rfl,rfl⟩
 refine aD rfl h8 (ap (aa (aQ (ad ax (h:=bC (aU (aQ (ad (bk rfl rfl) (h:=ad aV (h:=bC ?_))))))))))
 rcases bH H with⟨p,H⟩|⟨p,H⟩
 ·refine aB rfl p (ah (ad aE (h:=bD (aT 5) (h:=ad ax (h:=ad cz (h:=ad aE (h:=o' (cH 0 [.bool a3] (h:=(aj (aF ?_)))))))))))
  have h:=aN H;subst h
  exact fD [0,1,2,3,4] ⟨ag,af,az,ay,aw,ar,av,au,rfl,rfl⟩
 refine aA rfl p (aQ (ad (bk rfl rfl) (h:=ad aV (h:=bC ?_))))
 rcases bH H with⟨q,H⟩|⟨q,H⟩
 ·refine aB rfl q (aQ (ad aE (h:=bD (aT 5) (h:=ad ax (h:=ad cz (h:=ad aE (h:=o' (cH 0 [.bool a3] (h:=(bC (bj 1 fun f9=>?_)))))))))))
  refine bj 2 fun g0=>bj 3 fun g1=>bj 4 fun g2=>ah (l' (cG b 0 5 [aK ba]) ?_)
  obtain⟨h7,c7,H⟩:=ac H
  refine o' (dN [0,1,2,3,4] [5] (fw.ok (ba:=ba) c7) fun c8 c9 d0 d1 d2 d3 d4 d5=>?_)
  refine aj (aF ?_)
  have h:=aN H;subst h
  exact fD [0,1,2,3,4] ⟨c8,c9,d0,d1,d2,d3,d4,d5,rfl,rfl⟩
 refine aA rfl q (aQ (ad (bk rfl rfl) (h:=ad aV (h:=bC ?_))))
 rcases bH H with⟨s,H⟩|⟨s,H⟩
 ·refine aB rfl s (ah (ad aE (h:=bD (aT 5) (h:=ad ax (h:=ad cz (h:=ad aE (h:=o' (cH 0 [.bool a3] (h:=(aj (aF ?_)))))))))))
  have h:=aN H;subst h
  exact fD [0,1,2,3,4] ⟨ag,af,az,ay,aw,ar,av,au,rfl,rfl⟩
 refine aA rfl s (aQ (ad (bk rfl rfl) (h:=ad aV (h:=bC ?_))))
 rcases bH H with⟨u,H⟩|⟨u,H⟩
 ·refine aB rfl u (ah (ad aE (h:=bD (aT 5) (h:=ad ax (h:=ad cz (h:=ad aE (h:=o' (cH 0 [.bool a3] (h:=(aj (aF ?_)))))))))))
  have h:=aN H;subst h
  exact fD [0,1,2,3,4] ⟨ag,af,az,ay,aw,ar,av,au,rfl,rfl⟩
 refine aA rfl u (aQ (ad (bk rfl rfl) (h:=ad aV (h:=bC ?_))))
 rcases bH H with⟨y,H⟩|⟨y,H⟩
 ·refine aB rfl y (ah (ad aE (h:=bD (aT 5) (h:=ad ax (h:=ad cz (h:=ad aE (h:=o' (cH 0 [.bool a3] (h:=(aj (aF ?_)))))))))))
  have h:=aN H;subst h
  exact fD [0,1,2,3,4] ⟨ag,af,az,ay,aw,ar,av,au,rfl,rfl⟩
 refine aA rfl y (ao (aQ (ad (bk rfl rfl) (h:=ad aV (h:=bC ?_)))))
 obtain⟨d6,H,z⟩:=ac H
 refine bI (St [(3,.bool a3),(4,aK b),(18,ae a2),(56,.bool d6)] (aL ba 34 (al p0 ag af az ay aw ar av au)::(aS p0 ag af az ay aw ar av au++[aL b 84 [aK ba]]))) ?_ ?_
 ·rcases bH H with⟨D,H⟩|⟨D,H⟩
  ·refine aB rfl D (ap ?_)
   have h:=aN H;subst h
   exact bM [0,1,2,3,4,5]
  refine aA rfl D (ah (ad (bk rfl rfl) (h:=ad aV (h:=aj ?_))))
  have h:=aN H;subst h
  exact bM [0,1,2,3,4,5]
 rintro e ds As a6
 clear H
 have H:=z
 clear z
 refine aa (SA.of_St a6 fun junk=>?_)
 rcases bH H with⟨E,H⟩|⟨E,H⟩
 ·refine aC rfl E (bj 1 fun g3=>bj 2 fun g4=>bj 3 fun g5=>bj 4 fun g6=>ah (bD (cG b 0 5 [aK ba]) (h:=S' ax ?_)))
  obtain⟨i0,d7,H⟩:=ac H
  refine o' (dN [0,1,2,3,4] [5] (gw.ok (ba:=ba) d7) fun d8 d9 e0 e1 e2 e3 e4 e5=>?_)
  refine aj (aF ?_)
  have h:=aN H;subst h
  exact fD [0,1,2,3,4] ⟨d8,d9,e0,e1,e2,e3,e4,e5,rfl,rfl⟩
 refine aD rfl E (aQ (ad (bk rfl rfl) (h:=ad aV (h:=bC ?_))))
 rcases bH H with⟨F,H⟩|⟨F,H⟩
 ·refine aB rfl F (aQ (ad aE (h:=bD (aT 5) (h:=ad cz (h:=ad aE (h:=bD (aT 0) (h:=ad aV (h:=eJ (S' ax ?_)))))))))
  refine bC ?_
  obtain⟨a8,H,I⟩:=ac H
  refine bI (fun e ds As=>∃ (J : Option Addr) (K : Nat),∃ (L : Option Addr) (M : Nat),∃ (N : Option Addr) (O : Nat),∃ (R : Option Addr) (S : Nat),St [(3,.bool a3),(4,aK b),(8,.bool p0.f15)] (aL ba 34 (al a8 J K L M N O R S)::(aS a8 J K L M N O R S++[aL b 84 [aK ba]])) e ds As) ?_ ?_
  ·rcases bH H with⟨U,H⟩|⟨U,H⟩
   ·refine aC rfl U (bj 1 fun g7=>bj 2 fun g8=>bj 3 fun g9=>bj 4 fun h0=>ah (l' (cG b 0 5 [aK ba]) ?_))
    obtain⟨i1,e6,H⟩:=ac H
    refine o' (dN [0,1,2,3,4] [5] (fH.ok (ba:=ba) e6) fun e7 e8 e9 f0 f1 f2 f3 f4=>?_)
    refine aj ?_
    have h:=aN H;subst h
    exact aa ⟨e7,e8,e9,f0,f1,f2,f3,f4,ed [0,1,2,3,4,5]⟩
   refine aD rfl U (ap ?_)
   have h:=aN H;subst h
   exact aa ⟨ag,af,az,ay,aw,ar,av,au,ed [0,1,2,3,4,5]⟩
  rintro e ds As ⟨J,K,L,M,N,O,R,S,a7⟩
  clear H
  have H:=I
  clear I
  refine aa (SA.of_St a7 fun junk=>ao (bj 1 fun h1=>bj 2 fun h3=>bj 3 fun h4=>bj 4 fun h5=>ah (bD (cG b 0 5 [aK ba]) (h:=S' ax ?_))))
  obtain⟨a9,b0,H⟩:=ac H
  refine o' (dN [0,1,2,3,4] [5] (gw.ok (ba:=ba) b0) fun Y Z a0 a4 c d j l=>?_)
  refine cV (ad ax (h:=ad (ca rfl) (h:=S' ax ?_)))
  obtain⟨b1,o,H⟩:=br H
  refine cD 2 (St [(4,aK b),(79,.bool b1)] (aL ba 34 (al a9 Y Z a0 a4 c d j l)::(aS a9 Y Z a0 a4 c d j l++[aL b 84 [aK ba]]))) ?_ ?_
  ·by_cases a : (!a3) = true
   ·refine bn a ax (h:=cq a (h:=aj ?_))
    have x_:=gD o a;exact bM [0,1,2,3,4,5]
   refine cI 1 (aX a) (cv (aX a) (h:=aj ?_))
   have x_:=gC o ((aX a));exact bM [0,1,2,3,4,5]
  rintro e ds As a5
  refine bC (SA.of_St a5 fun junk=>?_)
  rcases bH H with⟨m,H⟩|⟨m,H⟩
  ·refine aC rfl m (bj 1 fun f5=>bj 2 fun f6=>bj 3 fun f7=>bj 4 fun f8=>ah (l' (cG b 0 5 [aK ba]) ?_))
   obtain⟨h6,b2,H⟩:=ac H
   refine o' (dN [0,1,2,3,4] [5] (fH.ok (ba:=ba) b2) fun b3 b4 b5 b7 b8 b9 c5 c6=>?_)
   refine aj (aF ?_)
   have h:=aN H;subst h
   exact fD [0,1,2,3,4] ⟨b3,b4,b5,b7,b8,b9,c5,c6,rfl,rfl⟩
  refine aD rfl m (ap (aF ?_))
  have h:=aN H;subst h
  exact fD [0,1,2,3,4] ⟨Y,Z,a0,a4,c,d,j,l,rfl,rfl⟩
 refine aA rfl F (ap (aF ?_))
 have h:=aN H;subst h
 exact fD [0,1,2,3,4] ⟨ag,af,az,ay,aw,ar,av,au,rfl,rfl⟩


def ki.f (k : Nat) (p0 : aG) (p1 : Bool) (p2 : Int) (p3 : Bool) : Option (aG):=(iH.f k p0 p1 p2 p3).bind (fun a=>some (a))
theorem ki.ok {p0 : aG} {p1 : Bool} {p2 : Int} {p3 : Bool} {r : aG} (H : ki.f k p0 p1 p2 p3 = some r) : df Tryz.prog 90 #[.agg #[.pointer (some ⟨ba,0,none⟩)],.pointer (some ⟨gV,0,none⟩),.pointer (some ⟨nS,0,none⟩),.pointer (some ⟨vp,0,none⟩)] (aL ba 34 (al p0 ag af az ay aw ar av au)::(aS p0 ag af az ay aw ar av au++[aL gV 4 [.bool p1],aL nS 3 [ae p2],aL vp 4 [.bool p3]])) (fun v B=>∃ P0_0_ q0_0_ P0_1_ q0_1_ P0_2_ q0_2_ P0_3_ q0_3_,v = .tuple #[]∧B = (aL ba 34 (al r P0_0_ q0_0_ P0_1_ q0_1_ P0_2_ q0_2_ P0_3_ q0_3_)::(aS r P0_0_ q0_0_ P0_1_ q0_1_ P0_2_ q0_2_ P0_3_ q0_3_++[aL gV 4 [.bool p1],aL nS 3 [ae p2],aL vp 4 [.bool p3]]))):=by
 refine ai Tryz.func90 rfl rfl ?_
 unfold ki.f at H
 refine aQ (o' (bN (h:=fun q=>bC (bj 1 fun s=>bj 2 fun u=>bj 3 fun y=>bj 4 fun z=>ah (bD (cG q 0 8 [aK ba]) (h:=l' (aT 5) ?_))))))
 refine bD (aT 6) (h:=l' (aT 7) ?_)
 obtain⟨D,a,H⟩:=ac H
 refine o' (dN [0,1,2,3,4] [5,6,7,8] (iH.ok (ba:=ba) a) fun b c d j l m o p=>?_)
 refine aj ?_
 have h:=aN H;subst h
 exact fD [0,1,2,3,4,5,6,7] ⟨b,c,d,j,l,m,o,p,rfl,rfl⟩


def gq.f (k : Nat) (a0 : aG) (p2000 : Bool) (p2001 : Int) (p2002 : Bool) : Option (aG × Int):=(ei.f k a0).bind (fun a=>if (!a) = true then (some (((aG.mk (bF.mk 0 0 ([] : (List aZ))) 0 0 false (cA.mk 0 0 false false false false false false false false) 0 0 ([] : (List Int)) false false false false false false (dq.mk 0 0 false false (cA.mk 0 0 false false false false false false false false)) false (bF.mk 0 0 ([] : (List aZ))) ([] : (List Int))),2))) else ((lL.f a0).bind (fun b=>(ki.f k b p2000 p2001 p2002).bind (fun jH=>some ((jH,0))))))
theorem gq.ok {a0 : aG} {p2000 : Bool} {p2001 : Int} {p2002 : Bool} {r : aG × Int} (H : gq.f k a0 p2000 p2001 p2002 = some r) : df Tryz.prog 62 #[.agg (al a0 ag af az ay aw ar av au).toArray,.func (.func 90) #[] #[.pointer (some ⟨bJ,0,none⟩),.pointer (some ⟨dm,0,none⟩),.pointer (some ⟨ld,0,none⟩)]] (eK a0 ag af az ay aw ar av au++[aL bJ 4 [.bool p2000],aL dm 3 [ae p2001],aL ld 4 [.bool p2002]]) (fun v B=>∃ aP aO bA bv bq bp bB bw,v = .tuple #[.agg (al r.1 aP aO bA bv bq bp bB bw).toArray,ae r.2]∧B = (aS r.1 aP aO bA bv bq bp bB bw++[aL bJ 4 [.bool p2000],aL dm 3 [ae p2001],aL ld 4 [.bool p2002]])):=by
 refine ai Tryz.func62 rfl rfl ?_
 unfold gq.f at H
 refine aQ (o' (bN (h:=fun c=>o' (cy (h:=fun b=>ad aV (h:=eJ (l' (ck 7) ?_)))))))
 obtain⟨R,M,H⟩:=ac H
 refine o' (da [0,1,2,3] [0,1,2,3,4,5,6,7,8] (rM.ok M) ?_)
 refine ad (ca rfl) (h:=bC ?_)
 rcases bH H with⟨d,H⟩|⟨d,H⟩
 ·refine aC rfl d (aQ (bO (.agg (al cx none 0 none 0 none 0 none 0).toArray) dA (h:=o' (bg b 0 8 (al cx none 0 none 0 none 0 none 0) (h:=ad aV (h:=cE ?_))))))
  have h:=aN H;subst h
  exact lT [.cell 4 34,.tmp 5] ((Gh.nilBuf bE 55).trans ((Gh.nilBuf (Kd.int .i64) 3).trans ((Gh.nilBuf bE 55).trans ((Gh.nilBuf (Kd.int .i32) 21).trans (eY [9,10,11,12,4,5,6]))))) ⟨none,0,none,0,none,0,none,0,rfl,rfl⟩ ⟨cR 8,cP,trivial⟩
 refine aD rfl d (ap (aa (aQ (l' (ck 7) ?_))))
 obtain⟨a,N,H⟩:=ac H
 refine o' (dN [0,1,2,3] [0,1,2,3,4,5,6,7,8] (lL.ok N) fun j m o p q s u y=>?_)
 refine o' (bg c 0 11 (al a j m o p q s u y) (h:=bC (SA.of_St (l:=[(1,.func (.func 90) #[] #[aK bJ,aK dm,aK ld]),(2,aK c),(4,aK b)]) (B:=[aL ld 4 [.bool p2002],aL dm 3 [ae p2001],aL bJ 4 [.bool p2000],aL c 34 (al a j m o p q s u y),Buf bE 55 j m a.f0.f2,fm 3 o p a.f7,Buf bE 55 q s a.f16.f2,jf 21 u y a.f17,aL b 34 (al cx none 0 none 0 none 0 none 0)]) (St.mk1 (cJ rfl (cJ rfl (cJ rfl dQ))) (Gh.sel [10,9,8,11,0,1,2,3,12] (by kernel_rfl) (by kernel_rfl))) fun junk=>aQ (ad ax (h:=s' (.agg #[aK c]) dA ?_)))))
 obtain⟨jH,O,H⟩:=ac H
 refine o' (rn [3,4,5,6,7,2,1,0] [8] (je (vs:=[.agg #[aK c]]) (cap:=[aK bJ,aK dm,aK ld]) rfl Tryz.func90 zI rfl rfl) (ki.ok (ba:=c) (gV:=bJ) (nS:=dm) (vp:=ld) O) ?_)
 rintro _ _⟨z,D,E,F,I,J,K,L,rfl,rfl⟩
 refine cV (bD (ck 0) (h:=o' (bg b 0 8 (al jH z D E F I J K L) (h:=ad aV (h:=cF ?_)))))
 have h:=aN H;subst h
 exact dt [.cell 4 34,.tmp 5] [1,2,3,4,5,6,7] ⟨z,D,E,F,I,J,K,L,rfl,rfl⟩ ⟨cR 8,cP,trivial⟩


def wz.f (k : Nat) (a0 : aG) (a1 : Bool) (a2 : Int) (a3 : Bool) : Option (aG × Int):=(gq.f k a0 a1 a2 a3).bind (fun a=>some ((a.1,a.2)))
theorem wz.ok {a0 : aG} {a1 : Bool} {a2 : Int} {a3 : Bool} {r : aG × Int} (H : wz.f k a0 a1 a2 a3 = some r) : df Tryz.prog 36 #[.agg (al a0 ag af az ay aw ar av au).toArray,.bool a1,ae a2,.bool a3] (eK a0 ag af az ay aw ar av au) (fun v B=>∃ aP aO bA bv bq bp bB bw,v = .tuple #[.agg (al r.1 aP aO bA bv bq bp bB bw).toArray,ae r.2]∧B = (aS r.1 aP aO bA bv bq bp bB bw)):=by
 refine ai Tryz.func36 rfl rfl ?_
 unfold wz.f at H
 refine aQ (o' (bN (h:=fun D=>o' (bN (h:=fun q=>o' (bN (h:=fun s=>o' (bN (h:=fun a=>o' (cy (h:=fun u=>ad aV (h:=cV (bD (ck 4) (h:=s' (.func (.func 90) #[] #[aK q,aK s,aK a]) (dy (us:=[aK q,aK s,aK a]) rfl) ?_))))))))))))))
 obtain⟨y,z,H⟩:=ac H
 refine o' (dN [0,1,2,3,5,6,7] [0,1,2,3,4,8] (gq.ok (bJ:=q) (dm:=s) (ld:=a) z) fun b c d j l m o p=>?_)
 refine ad cg (h:=ad cg (h:=o' (bg u 0 12 (al y.1 b c d j l m o p) (h:=ad aV (h:=cF ?_)))))
 have h:=aN H;subst h
 exact dt [.cell 8 34,.tmp 9] [0,1,2,3] ⟨b,c,d,j,l,m,o,p,rfl,rfl⟩ ⟨cR 12,cP,trivial⟩

end Go.Proofs.YtckilbegmbaeeaaGreat.Z3

/- What functions compute, and that they do: 116w0, 118Lb_0_, 119Lb_0_, 120Lb_0_, 131i34m0b_0_, 157w3. -/
import Derived.Test.YtckilbegmbaeeaaGreatZ34
namespace Go.Proofs.YtckilbegmbaeeaaGreat.Z3
open Go Go.RowKit Go.Proofs.YtckilbegmbaeeaaGreat.SL
open Go.IntKind (i64)
set_option linter.unusedVariables false
set_option maxHeartbeats 20000000
set_option maxRecDepth 100000
set_option linter.unusedSimpArgs false
attribute [local irreducible] IntKind.wrap cC dO eX gp gl lH fU cN gm rd sub bytesOf eG cL
variable {ba vp af ay ar au k : Nat}
variable {ag az aw av : Option Addr}
def iz.f (k : Nat) (p0 : aG) (a1 : Int) : Option (aG):=(if (!p0.f3) = true then (lt (i64.wrap (p0.f2 - 1)) fun n10=>some n10) else (some p0.f2) : Option (Int)).bind (fun c=>if c < 0 then (some (p0)) else ((dP.f p0).bind (fun a=>if (0 ≤ a.1∧0 ≤ a.2∧a.1 + a.2 ≤ (p0.f0.f2.length : Int)) then (if 0 ≤ c∧c < a.2 then ((if ((rd p0.f0.f2 (a.1 + c)).f2) = 0 then (lt (i64.wrap (c - 1)) fun n28=>some n28) else (some c) : Option (Int)).bind (fun b=>if 0 ≤ b∧b < a.2 then ((mm.f k (rd p0.f0.f2 (a.1 + b)) a1).bind (fun d=>if 0 ≤ b∧b < a.2 then (lt (p0.f0.f2.set (a.1 + b).toNat d) fun n39=>(some (({ p0 with f0:=(bF.mk p0.f0.f0 p0.f0.f1 n39) })))) else none)) else none)) else none) else none)))
theorem iz.ok {p0 : aG} {a1 : Int} {r : aG} (H : iz.f k p0 a1 = some r) : df Tryz.prog 118 #[.agg #[.pointer (some ⟨ba,0,none⟩)],aJ a1] (cK ba p0 ag af az ay aw ar av au) (fun v B=>∃ P0_0_ q0_0_ P0_1_ q0_1_ P0_2_ q0_2_ P0_3_ q0_3_,v = .tuple #[]∧B = (cK ba r P0_0_ q0_0_ P0_1_ q0_1_ P0_2_ q0_2_ P0_3_ q0_3_)):=by
 refine ai Tryz.func118 rfl rfl ?_
 unfold iz.f at H
 refine aQ (o' (bN (h:=fun E=>cV (ad aE (h:=bD (aT 5) (h:=ad cz (h:=ad aE (h:=bD (aT 0) (h:=ad aV (h:=eJ ?_))))))))))
 refine ad aE (h:=bD (aT 5) (h:=ad cz (h:=ad aE (h:=bD (aT 0) (h:=ad (ca rfl) (h:=bC ?_))))))
 obtain⟨c,H,z⟩:=ac H
 refine bI (St [(1,aJ a1),(2,aK E),(4,ae c)] (aL ba 34 (al p0 ag af az ay aw ar av au)::(aS p0 ag af az ay aw ar av au++[aL E 84 [aK ba]]))) ?_ ?_
 ·rcases bH H with⟨F,H⟩|⟨F,H⟩
  ·refine aC rfl F (ah (ad ax (h:=S' (cY rfl rfl) ?_)))
   obtain⟨n10,I,H⟩:=br H
   refine bO (ae n10) (bz (v:=ae n10) (congrArg (Value.int .i64) I.symm)) (h:=aj ?_)
   have h:=aN H;subst h
   exact bM [0,1,2,3,4,5]
  refine aD rfl F (ap ?_)
  have h:=aN H;subst h
  exact bM [0,1,2,3,4,5]
 rintro e ds As u
 clear H
 have H:=z
 clear z
 refine aa (SA.of_St u fun junk=>ao (aQ (ad ax (h:=ad (cn rfl rfl) (h:=bC ?_)))))
 rcases bH H with⟨o,H⟩|⟨o,H⟩
 ·refine aB rfl o (fa (aI ?_))
  have h:=aN H;subst h
  exact kT (cK ba p0 ag af az ay aw ar av au) rfl (eY [0,1,2,3,4]) ⟨ag,af,az,ay,aw,ar,av,au,rfl,rfl⟩
 refine aA rfl o (ap (aa (ao (bj 1 fun a7=>bj 2 fun a8=>bj 3 fun a9=>bj 4 fun b0=>ah (l' (cG E 0 5 [aK ba]) ?_)))))
 obtain⟨a,K,H⟩:=ac H
 obtain⟨⟨hl21a,hl21b,hl21c⟩,H⟩:=aR H
 refine o' (mC [0,1,2,3,4] [5] (dP.ok (ba:=ba) K) ?_)
 rintro _ _⟨L,M,d,rfl,rfl⟩
 refine ad aV (h:=eJ (ad ax (h:=S' ax ?_)))
 obtain⟨⟨N,O⟩,H⟩:=aR H
 have R : 0 ≤ a.1 + c:=by omega
 have S : a.1 + c < (p0.f0.f2.length : Int):=by omega
 refine bD (eI (l:=a.1) (m:=a.2) (i:=c) (sz:=15) d Tryz.underlying116 cl rfl rfl (Src.buf (k:=1) rfl) N O (by omega)) (h:=bO (.pointer (some ((el ag ((a.1 + c).toNat * 15)).add 4))) (mL (el ag ((a.1 + c).toNat * 15)) 0 4) (h:=bD (bQ (enc:=di) (i:=a.1 + c) (j:=(a.1 + c).toNat * 15) (m:=4) (sz:=15) Tryz.underlying5 rfl rfl rfl rfl (Src.buf (k:=1) rfl) R S (fun _ _ h=>h) rfl) (h:=ad (bk rfl rfl) (h:=bC ?_))))
 obtain⟨b,H,p⟩:=ac H
 refine bI (St [(1,aJ a1),(4,ae b),(5,.slice L a.2.toNat M)] (cK ba p0 ag af az ay aw ar av au)) ?_ ?_
 ·rcases bH H with⟨q,H⟩|⟨q,H⟩
  ·refine aB rfl q (ah (ad ax (h:=S' (cY rfl rfl) ?_)))
   obtain⟨n28,J,H⟩:=br H
   refine bO (ae n28) (bz (v:=ae n28) (congrArg (Value.int .i64) J.symm)) (h:=aj ?_)
   have h:=aN H;subst h
   exact bM [0,1,2,3,4]
  refine aA rfl q (ap ?_)
  have h:=aN H;subst h
  exact bM [0,1,2,3,4]
 rintro e ds As y
 clear H
 have H:=p
 clear p
 refine aa (SA.of_St y fun junk=>ah (ad ax (h:=ad ax (h:=ad ax (h:=S' ax ?_)))))
 obtain⟨⟨U,Y⟩,H⟩:=aR H
 have Z : 0 ≤ a.1 + b:=by omega
 have a0 : a.1 + b < (p0.f0.f2.length : Int):=by omega
 refine bD (eI (l:=a.1) (m:=a.2) (i:=b) (sz:=15) d Tryz.underlying116 cl rfl rfl (Src.buf (k:=1) rfl) U Y (by omega)) (h:=bD (cj (enc:=di) (i:=a.1 + b) (j:=(a.1 + b).toNat * 15) (m:=0) (sz:=15) (vs:=(bR (aZ.mk ((rd p0.f0.f2 (a.1 + b)).f0) ((rd p0.f0.f2 (a.1 + b)).f1) ((rd p0.f0.f2 (a.1 + b)).f2) ((rd p0.f0.f2 (a.1 + b)).f3)))) Tryz.underlying55 rfl cl rfl rfl rfl (Src.buf (k:=1) rfl) Z a0 (fun _ _ h=>h) rfl) (h:=S' ax ?_))
 obtain⟨D,a2,H⟩:=ac H
 refine o' (da [] [0,1,2,3,4] (mm.ok a2) ?_)
 obtain⟨⟨a3,a4⟩,H⟩:=aR H
 have a5 : 0 ≤ a.1 + b:=by omega
 have a6 : a.1 + b < (p0.f0.f2.length : Int):=by omega
 refine l' (eI (l:=a.1) (m:=a.2) (i:=b) (sz:=15) d Tryz.underlying116 cl rfl rfl (Src.buf (k:=1) rfl) a3 a4 (by omega)) ?_
 obtain⟨n39,s,H⟩:=br H
 have hl_n39 : n39.length = p0.f0.f2.length:=by rw [s]; exact List.length_set
 refine o' (iB (k:=1) (i:=a.1 + b) (j:=(a.1 + b).toNat * 15) (m:=0) (sz:=15) (xs:=p0.f0.f2) (vs:=(bR D)) D rfl rfl rfl rfl rfl rfl rfl rfl cl a5 a6 rfl (fun _ _ h_=>by subst h_; rfl) ?_)
 rewrite [← s]
 try unfold cK
 try unfold kD
 try unfold al
 try rewrite [← hl_n39]
 refine aj ?_
 have h:=aN H;subst h
 exact fD [0,1,2,3,4] ⟨ag,af,az,ay,aw,ar,av,au,rfl,rfl⟩


def eT.l0 (l0 : (List aZ)) (o0 : Int) (n0 : Int) (r4 : aZ) : Nat → Int → (List aZ) → Option ((List aZ))
  | 0,_,_=>none
  | k + 1,a,b=>if b.length = l0.length then (if a < n0 then (if 0 ≤ a∧a < n0 then (lt (b.set (o0 + a).toNat r4) fun n15=>(eT.l0 l0 o0 n0 r4 k (i64.wrap (a + 1)) n15)) else none) else (some b)) else none
def eT.f (k : Nat) (l0 : (List aZ)) (o0 : Int) (n0 : Int) (a1 : cA) : Option ((List aZ)):=if 0 ≤ o0∧0 ≤ n0∧o0 + n0 ≤ (l0.length : Int) then ((oo.f a1).bind (fun b=>(eT.l0 l0 o0 n0 b k 0 l0 : Option ((List aZ))).bind (fun a=>if a.length = l0.length then (some (a)) else none))) else none
theorem eT.ok {l0 : (List aZ)} {o0 : Int} {n0 : Int} {a1 : cA} {A0 V0 : Option Addr} {c0 v0 : Nat} (hw0 : dZ A0 V0 15 o0 n0 v0) {r : (List aZ)} (H : eT.f k l0 o0 n0 a1 = some r) : df Tryz.prog 116 #[.slice V0 n0.toNat v0,.agg (bG a1).toArray] [Buf bE 55 A0 c0 l0] (fun v B=>v = .tuple #[]∧B = [Buf bE 55 A0 c0 r]):=by
 refine ai Tryz.func116 rfl rfl ?_
 unfold eT.f at H
 obtain⟨⟨M,N,O⟩,H⟩:=aR H
 have hcv_hw0:=hw0.cap
 refine aQ (o' (bN (h:=fun R=>cV (l' (ck 1) ?_))))
 obtain⟨c,D,H⟩:=ac H
 refine o' (da [] [0,1] (oo.ok D) ?_)
 refine o' (cy (h:=fun s=>o' (bg s 0 2 (bR c) (h:=cV (ad ax (h:=bO (ae n0) (jV hw0 Tryz.underlying24 rfl) (h:=ad ax (h:=bC ?_))))))))
 obtain⟨u,H,q⟩:=ac H
 refine bI (St [] [Buf bE 55 A0 c0 u]) ?_ ?_
 ·refine aU (cw (fun k_ e ds As=>∃ (b : Int) (a : (List aZ)),eT.l0 l0 o0 n0 c k_ b a = some u∧St [(0,.slice V0 n0.toNat v0),(4,aK s),(9,ae n0),(10,ae b)] [Buf bE 55 A0 c0 a,aL s 55 (bR c)] e ds As) (k:=k) ⟨_,_,H,kW [0,2]⟩ ?_)
  clear H
  rintro y e ds As ⟨b,a,H,z⟩
  obtain _ | y:=y
  ·cases H
  rw [eT.l0] at H
  obtain⟨K,H⟩:=aR H
  refine SA.of_St z fun junk=>aQ (ad (cn rfl rfl) (h:=bC (ao ?_)))
  rcases bH H with⟨d,H⟩|⟨d,H⟩
  ·refine aB rfl d (ap (aa (ao (aU (aQ (ad ax (h:=ad aV (h:=bC (ah (ad ax (h:=ad ax (h:=l' (ck 1) ?_))))))))))))
   obtain⟨⟨E,F⟩,H⟩:=aR H
   have I : 0 ≤ o0 + b:=by omega
   have J : o0 + b < (a.length : Int):=by omega
   refine l' (eI (l:=o0) (m:=n0) (i:=b) (sz:=15) hw0 Tryz.underlying24 cl rfl rfl (Src.buf (k:=0) rfl) E F (by omega)) ?_
   obtain⟨n15,o,H⟩:=br H
   have hl_n15 : n15.length = a.length:=by rw [o]; exact List.length_set
   refine o' (iB (k:=0) (i:=o0 + b) (j:=(o0 + b).toNat * 15) (m:=0) (sz:=15) (xs:=a) (vs:=(bR c)) c rfl rfl rfl rfl rfl rfl rfl rfl cl I J rfl (fun _ _ h_=>by subst h_; rfl) ?_)
   rewrite [← o]
   try unfold bG
   try rewrite [← hl_n15]
   refine aj (aF (aa (ah (ad (bV rfl rfl) (h:=ad ax (h:=aj ?_))))))
   exact aa ⟨y,Nat.lt_succ_self _,_,_,H,ed [0,1]⟩
  refine aA rfl d (ct (bc (bc (cr ?_))))
  have h:=aN H;subst h
  exact bM [0]
 rintro e ds As p
 clear H
 have H:=q
 clear q
 obtain⟨L,H⟩:=aR H
 have h:=aN H;subst h
 exact oc p [Buf bE 55 A0 c0 u] rfl (eY [0]) ⟨rfl,rfl⟩


def cT.f (k : Nat) (p0 : aG) (a1 : Int) (a2 : Int) (a3 : Int) (a4 : cA) : Option (aG):=lt (i64.wrap ((i64.wrap (a2 - a1)) + 1)) fun n8=>lt (i64.wrap ((dO (i64.wrap (0 - n8)) (cC a3 n8)) * p0.f0.f0)) fun n9=>if 0 ≤ (i64.wrap (a1 * p0.f0.f0))∧(i64.wrap (a1 * p0.f0.f0)) ≤ (i64.wrap ((i64.wrap (a2 + 1)) * p0.f0.f0))∧(i64.wrap ((i64.wrap (a2 + 1)) * p0.f0.f0)) ≤ (p0.f0.f2.length : Int) then (if n9 ≥ 0 then (if 0 ≤ n9∧n9 ≤ ((i64.wrap ((i64.wrap (a2 + 1)) * p0.f0.f0)) - (i64.wrap (a1 * p0.f0.f0)))∧((i64.wrap ((i64.wrap (a2 + 1)) * p0.f0.f0)) - (i64.wrap (a1 * p0.f0.f0))) ≤ ((i64.wrap ((i64.wrap (a2 + 1)) * p0.f0.f0)) - (i64.wrap (a1 * p0.f0.f0))) then (lt (bo p0.f0.f2 (0 + (i64.wrap (a1 * p0.f0.f0))).toNat ((sub p0.f0.f2 ((0 + (i64.wrap (a1 * p0.f0.f0))) + n9) (((0 + (i64.wrap (a1 * p0.f0.f0))) + n9) + (((i64.wrap ((i64.wrap (a2 + 1)) * p0.f0.f0)) - (i64.wrap (a1 * p0.f0.f0))) - n9))).take ((i64.wrap ((i64.wrap (a2 + 1)) * p0.f0.f0)) - (i64.wrap (a1 * p0.f0.f0))).toNat)) fun a=>(if 0 ≤ (i64.wrap (((i64.wrap ((i64.wrap (a2 + 1)) * p0.f0.f0)) - (i64.wrap (a1 * p0.f0.f0))) - n9))∧(i64.wrap (((i64.wrap ((i64.wrap (a2 + 1)) * p0.f0.f0)) - (i64.wrap (a1 * p0.f0.f0))) - n9)) ≤ ((i64.wrap ((i64.wrap (a2 + 1)) * p0.f0.f0)) - (i64.wrap (a1 * p0.f0.f0)))∧((i64.wrap ((i64.wrap (a2 + 1)) * p0.f0.f0)) - (i64.wrap (a1 * p0.f0.f0))) ≤ ((i64.wrap ((i64.wrap (a2 + 1)) * p0.f0.f0)) - (i64.wrap (a1 * p0.f0.f0))) then ((eT.f k a ((0 + (i64.wrap (a1 * p0.f0.f0))) + (i64.wrap (((i64.wrap ((i64.wrap (a2 + 1)) * p0.f0.f0)) - (i64.wrap (a1 * p0.f0.f0))) - n9))) (((i64.wrap ((i64.wrap (a2 + 1)) * p0.f0.f0)) - (i64.wrap (a1 * p0.f0.f0))) - (i64.wrap (((i64.wrap ((i64.wrap (a2 + 1)) * p0.f0.f0)) - (i64.wrap (a1 * p0.f0.f0))) - n9))) a4).bind (fun b=>if b.length = a.length then (some (({ p0 with f0:=(bF.mk p0.f0.f0 p0.f0.f1 b) }))) else none)) else none)) else none) else (if 0 ≤ (i64.wrap (0 - n9))∧(i64.wrap (0 - n9)) ≤ ((i64.wrap ((i64.wrap (a2 + 1)) * p0.f0.f0)) - (i64.wrap (a1 * p0.f0.f0)))∧((i64.wrap ((i64.wrap (a2 + 1)) * p0.f0.f0)) - (i64.wrap (a1 * p0.f0.f0))) ≤ ((i64.wrap ((i64.wrap (a2 + 1)) * p0.f0.f0)) - (i64.wrap (a1 * p0.f0.f0))) then (lt (bo p0.f0.f2 ((0 + (i64.wrap (a1 * p0.f0.f0))) + (i64.wrap (0 - n9))).toNat ((sub p0.f0.f2 (0 + (i64.wrap (a1 * p0.f0.f0))) ((0 + (i64.wrap (a1 * p0.f0.f0))) + ((i64.wrap ((i64.wrap (a2 + 1)) * p0.f0.f0)) - (i64.wrap (a1 * p0.f0.f0))))).take (((i64.wrap ((i64.wrap (a2 + 1)) * p0.f0.f0)) - (i64.wrap (a1 * p0.f0.f0))) - (i64.wrap (0 - n9))).toNat)) fun c=>(if 0 ≤ (0 : Int)∧(0 : Int) ≤ (i64.wrap (0 - n9))∧(i64.wrap (0 - n9)) ≤ ((i64.wrap ((i64.wrap (a2 + 1)) * p0.f0.f0)) - (i64.wrap (a1 * p0.f0.f0))) then ((eT.f k c ((0 + (i64.wrap (a1 * p0.f0.f0))) + (0 : Int)) ((i64.wrap (0 - n9)) - (0 : Int)) a4).bind (fun d=>if d.length = c.length then (some (({ p0 with f0:=(bF.mk p0.f0.f0 p0.f0.f1 d) }))) else none)) else none)) else none)) else none
theorem cT.ok {p0 : aG} {a1 : Int} {a2 : Int} {a3 : Int} {a4 : cA} {r : aG} (H : cT.f k p0 a1 a2 a3 a4 = some r) : df Tryz.prog 131 #[.pointer (some ⟨ba,0,none⟩),ae a1,ae a2,ae a3,.agg (bG a4).toArray] (cK ba p0 ag af az ay aw ar av au) (fun v B=>∃ P0_0_ q0_0_ P0_1_ q0_1_ P0_2_ q0_2_ P0_3_ q0_3_,v = .tuple #[]∧B = (cK ba r P0_0_ q0_0_ P0_1_ q0_1_ P0_2_ q0_2_ P0_3_ q0_3_)):=by
 refine ai Tryz.func131 rfl rfl ?_
 unfold cT.f at H
 refine aQ (o' (bN (h:=fun b6=>cV (ad ax (h:=ad ax (h:=ad (cY rfl rfl) (h:=S' (bV rfl rfl) ?_)))))))
 obtain⟨n8,b0,H⟩:=br H
 refine bO (ae n8) (bz (v:=ae n8) (congrArg (Value.int .i64) b0.symm)) (h:=cV (ad ax (h:=bO (ae (i64.wrap (0 - n8))) (ms rfl) (h:=ad ax (h:=ad ax (h:=bO (ae (cC a3 n8)) (jR rfl rfl) (h:=bO (ae (dO (i64.wrap (0 - n8)) (cC a3 n8))) (nG rfl rfl) (h:=ad ax (h:=S' cz ?_)))))))))
 refine ad aE (h:=bD (aT 0) (h:=S' (jq rfl rfl) ?_))
 obtain⟨n9,b1,H⟩:=br H
 refine bO (ae n9) (bz (v:=ae n9) (congrArg (Value.int .i64) b1.symm)) (h:=bC (ao (bj 1 fun b4=>bj 2 fun b5=>bj 3 fun b7=>bj 4 fun b8=>?_)))
 refine fk (dG 0 19) [0] (dG 1 5) fun _ _ _ _ _ sH dd pk=>?_
 refine bf 0 rfl sH ax (h:=bf 1 rfl sH cz (h:=bf 2 rfl sH aE (h:=bT 3 rfl sH (aT 0) (h:=bf 4 rfl sH ax (h:=bf 5 rfl sH ax (h:=bf 6 rfl sH cz (h:=bf 7 rfl sH aE (h:=bT 8 rfl sH (aT 0) (h:=T' 9 rfl sH (jq rfl rfl) ?_)))))))))
 refine bf 10 rfl sH ax (h:=bf 11 rfl sH (bV rfl rfl) (h:=bf 12 rfl sH ax (h:=bf 13 rfl sH cz (h:=bf 14 rfl sH aE (h:=bT 15 rfl sH (aT 0) (h:=T' 16 rfl sH (jq rfl rfl) ?_))))))
 obtain⟨⟨y,z,D⟩,H⟩:=aR H
 refine t' (.slice (cL ag (i64.wrap (a1 * p0.f0.f0)) ((af : Nat) : Int) 15) ((i64.wrap ((i64.wrap (a2 + 1)) * p0.f0.f0)) - (i64.wrap (a1 * p0.f0.f0))).toNat (((af : Nat) : Int).toNat - (i64.wrap (a1 * p0.f0.f0)).toNat)) 17 rfl sH (dh (l:=0) (m:=(p0.f0.f2.length : Int)) (a:=i64.wrap (a1 * p0.f0.f0)) (b:=i64.wrap ((i64.wrap (a2 + 1)) * p0.f0.f0)) (q:=((af : Nat) : Int)) (dZ.whole (A:=ag) (sz:=15) (xs:=p0.f0.f2) (c:=af) (by omega)) Tryz.underlying24 cl rfl rfl rfl rfl (.inr ⟨_,rfl⟩) (.inr ⟨_,rfl⟩) (.inl ⟨rfl,rfl⟩) y z D) ?_
 have d : dZ ag (cL ag (i64.wrap (a1 * p0.f0.f0)) ((af : Nat) : Int) 15) 15 (0 + (i64.wrap (a1 * p0.f0.f0))) ((i64.wrap ((i64.wrap (a2 + 1)) * p0.f0.f0)) - (i64.wrap (a1 * p0.f0.f0))) (((af : Nat) : Int).toNat - (i64.wrap (a1 * p0.f0.f0)).toNat):=dZ.sub (dZ.whole (A:=ag) (sz:=15) (xs:=p0.f0.f2) (c:=af) (by omega)) y z D (.inl rfl) (Int.le_refl _)
 refine kY (.slice (cL ag (i64.wrap (a1 * p0.f0.f0)) ((af : Nat) : Int) 15) ((i64.wrap ((i64.wrap (a2 + 1)) * p0.f0.f0)) - (i64.wrap (a1 * p0.f0.f0))).toNat (((af : Nat) : Int).toNat - (i64.wrap (a1 * p0.f0.f0)).toNat)) 18 rfl sH sf (h:=aW dd sH (aH (by kernel_rfl) (aa (SA.of_St (l:=[(3,ae n9),(9,aK b6),(11,.slice (cL ag (i64.wrap (a1 * p0.f0.f0)) ((af : Nat) : Int) 15) ((i64.wrap ((i64.wrap (a2 + 1)) * p0.f0.f0)) - (i64.wrap (a1 * p0.f0.f0))).toNat (((af : Nat) : Int).toNat - (i64.wrap (a1 * p0.f0.f0)).toNat))]) (B:=(aL ba 34 (al p0 ag af az ay aw ar av au)::(aS p0 ag af az ay aw ar av au++[aL b6 28 (bG a4)]))) (St.mk1 (cJ rfl (cJ rfl (cJ rfl dQ))) (Gh.sel [0,1,2,3,4,5] (by kernel_rfl) (by kernel_rfl))) fun junk=>aQ (ad ax (h:=ad (dI rfl rfl) (h:=bC ?_)))))))
 rcases bH H with⟨j,H⟩|⟨j,H⟩
 ·refine aB rfl j (aQ (bO (.slice (cL ag (i64.wrap (a1 * p0.f0.f0)) ((af : Nat) : Int) 15) ((i64.wrap ((i64.wrap (a2 + 1)) * p0.f0.f0)) - (i64.wrap (a1 * p0.f0.f0))).toNat (((af : Nat) : Int).toNat - (i64.wrap (a1 * p0.f0.f0)).toNat)) fM (h:=bO (.slice (cL ag (i64.wrap (a1 * p0.f0.f0)) ((af : Nat) : Int) 15) ((i64.wrap ((i64.wrap (a2 + 1)) * p0.f0.f0)) - (i64.wrap (a1 * p0.f0.f0))).toNat (((af : Nat) : Int).toNat - (i64.wrap (a1 * p0.f0.f0)).toNat)) fM (h:=S' ax ?_))))
  obtain⟨⟨E,F,I⟩,H⟩:=aR H
  refine s' (.slice (cL (cL ag (i64.wrap (a1 * p0.f0.f0)) ((af : Nat) : Int) 15) n9 ((((af : Nat) : Int).toNat - (i64.wrap (a1 * p0.f0.f0)).toNat : Nat) : Int) 15) (((i64.wrap ((i64.wrap (a2 + 1)) * p0.f0.f0)) - (i64.wrap (a1 * p0.f0.f0))) - n9).toNat (((((af : Nat) : Int).toNat - (i64.wrap (a1 * p0.f0.f0)).toNat : Nat) : Int).toNat - n9.toNat)) (dh (l:=0 + (i64.wrap (a1 * p0.f0.f0))) (m:=(i64.wrap ((i64.wrap (a2 + 1)) * p0.f0.f0)) - (i64.wrap (a1 * p0.f0.f0))) (a:=n9) (b:=(i64.wrap ((i64.wrap (a2 + 1)) * p0.f0.f0)) - (i64.wrap (a1 * p0.f0.f0))) (q:=((((af : Nat) : Int).toNat - (i64.wrap (a1 * p0.f0.f0)).toNat : Nat) : Int)) d Tryz.underlying24 cl rfl rfl rfl rfl (.inr ⟨_,rfl⟩) (.inl ⟨rfl,rfl,rfl⟩) (.inl ⟨rfl,rfl⟩) E F I) ?_
  have a0 : dZ ag (cL (cL ag (i64.wrap (a1 * p0.f0.f0)) ((af : Nat) : Int) 15) n9 ((((af : Nat) : Int).toNat - (i64.wrap (a1 * p0.f0.f0)).toNat : Nat) : Int) 15) 15 ((0 + (i64.wrap (a1 * p0.f0.f0))) + n9) (((i64.wrap ((i64.wrap (a2 + 1)) * p0.f0.f0)) - (i64.wrap (a1 * p0.f0.f0))) - n9) (((((af : Nat) : Int).toNat - (i64.wrap (a1 * p0.f0.f0)).toNat : Nat) : Int).toNat - n9.toNat):=dZ.sub d E F I (.inl rfl) (Int.le_refl _)
  obtain⟨J,o,H⟩:=br H
  have hl_n1162 : J.length = p0.f0.f2.length:=by rw [o]; exact eM (by rw [List.length_take]; omega)
  refine o' (fY (k:=1) (l:=0 + (i64.wrap (a1 * p0.f0.f0))) (m:=(i64.wrap ((i64.wrap (a2 + 1)) * p0.f0.f0)) - (i64.wrap (a1 * p0.f0.f0))) (xs:=p0.f0.f2) (ys:=sub p0.f0.f2 ((0 + (i64.wrap (a1 * p0.f0.f0))) + n9) (((0 + (i64.wrap (a1 * p0.f0.f0))) + n9) + (((i64.wrap ((i64.wrap (a2 + 1)) * p0.f0.f0)) - (i64.wrap (a1 * p0.f0.f0))) - n9))) J o d rfl Tryz.underlying24 cl rfl rfl rfl (by omega) rfl (pO.win (Src.buf (k:=1) rfl) a0 rfl (by omega)) ?_)
  try unfold bG
  try unfold cK
  try unfold kD
  try unfold al
  try rewrite [← hl_n1162]
  refine bC ?_
  refine fk (dG 0 7) [5] (dG 0 5) fun _ _ _ _ _ sH dd pk=>?_
  refine kY (.slice (cL ag (i64.wrap (a1 * p0.f0.f0)) ((af : Nat) : Int) 15) ((i64.wrap ((i64.wrap (a2 + 1)) * p0.f0.f0)) - (i64.wrap (a1 * p0.f0.f0))).toNat (((af : Nat) : Int).toNat - (i64.wrap (a1 * p0.f0.f0)).toNat)) 0 rfl sH fM (h:=kY (.slice (cL ag (i64.wrap (a1 * p0.f0.f0)) ((af : Nat) : Int) 15) ((i64.wrap ((i64.wrap (a2 + 1)) * p0.f0.f0)) - (i64.wrap (a1 * p0.f0.f0))).toNat (((af : Nat) : Int).toNat - (i64.wrap (a1 * p0.f0.f0)).toNat)) 1 rfl sH fM (h:=kY (ae ((i64.wrap ((i64.wrap (a2 + 1)) * p0.f0.f0)) - (i64.wrap (a1 * p0.f0.f0)))) 2 rfl sH (jV d Tryz.underlying24 rfl) (h:=bf 3 rfl sH ax (h:=T' 4 rfl sH (cY rfl rfl) ?_))))
  obtain⟨⟨K,L,M⟩,H⟩:=aR H
  refine t' (.slice (cL (cL ag (i64.wrap (a1 * p0.f0.f0)) ((af : Nat) : Int) 15) (i64.wrap (((i64.wrap ((i64.wrap (a2 + 1)) * p0.f0.f0)) - (i64.wrap (a1 * p0.f0.f0))) - n9)) ((((af : Nat) : Int).toNat - (i64.wrap (a1 * p0.f0.f0)).toNat : Nat) : Int) 15) (((i64.wrap ((i64.wrap (a2 + 1)) * p0.f0.f0)) - (i64.wrap (a1 * p0.f0.f0))) - (i64.wrap (((i64.wrap ((i64.wrap (a2 + 1)) * p0.f0.f0)) - (i64.wrap (a1 * p0.f0.f0))) - n9))).toNat (((((af : Nat) : Int).toNat - (i64.wrap (a1 * p0.f0.f0)).toNat : Nat) : Int).toNat - (i64.wrap (((i64.wrap ((i64.wrap (a2 + 1)) * p0.f0.f0)) - (i64.wrap (a1 * p0.f0.f0))) - n9)).toNat)) 5 rfl sH (dh (l:=0 + (i64.wrap (a1 * p0.f0.f0))) (m:=(i64.wrap ((i64.wrap (a2 + 1)) * p0.f0.f0)) - (i64.wrap (a1 * p0.f0.f0))) (a:=i64.wrap (((i64.wrap ((i64.wrap (a2 + 1)) * p0.f0.f0)) - (i64.wrap (a1 * p0.f0.f0))) - n9)) (b:=(i64.wrap ((i64.wrap (a2 + 1)) * p0.f0.f0)) - (i64.wrap (a1 * p0.f0.f0))) (q:=((((af : Nat) : Int).toNat - (i64.wrap (a1 * p0.f0.f0)).toNat : Nat) : Int)) d Tryz.underlying24 cl rfl rfl rfl rfl (.inr ⟨_,rfl⟩) (.inl ⟨rfl,rfl,rfl⟩) (.inl ⟨rfl,rfl⟩) K L M) ?_
  have a5 : dZ ag (cL (cL ag (i64.wrap (a1 * p0.f0.f0)) ((af : Nat) : Int) 15) (i64.wrap (((i64.wrap ((i64.wrap (a2 + 1)) * p0.f0.f0)) - (i64.wrap (a1 * p0.f0.f0))) - n9)) ((((af : Nat) : Int).toNat - (i64.wrap (a1 * p0.f0.f0)).toNat : Nat) : Int) 15) 15 ((0 + (i64.wrap (a1 * p0.f0.f0))) + (i64.wrap (((i64.wrap ((i64.wrap (a2 + 1)) * p0.f0.f0)) - (i64.wrap (a1 * p0.f0.f0))) - n9))) (((i64.wrap ((i64.wrap (a2 + 1)) * p0.f0.f0)) - (i64.wrap (a1 * p0.f0.f0))) - (i64.wrap (((i64.wrap ((i64.wrap (a2 + 1)) * p0.f0.f0)) - (i64.wrap (a1 * p0.f0.f0))) - n9))) (((((af : Nat) : Int).toNat - (i64.wrap (a1 * p0.f0.f0)).toNat : Nat) : Int).toNat - (i64.wrap (((i64.wrap ((i64.wrap (a2 + 1)) * p0.f0.f0)) - (i64.wrap (a1 * p0.f0.f0))) - n9)).toNat):=dZ.sub d K L M (.inl rfl) (Int.le_refl _)
  refine r' 6 rfl sH (ck 0) ?_
  obtain⟨b2,a8,H⟩:=ac H
  obtain⟨p,H⟩:=aR H
  refine dx 7 rfl dd (da [1] [0,2,3,4] (eT.ok (o0:=(0 + (i64.wrap (a1 * p0.f0.f0))) + (i64.wrap (((i64.wrap ((i64.wrap (a2 + 1)) * p0.f0.f0)) - (i64.wrap (a1 * p0.f0.f0))) - n9))) (n0:=((i64.wrap ((i64.wrap (a2 + 1)) * p0.f0.f0)) - (i64.wrap (a1 * p0.f0.f0))) - (i64.wrap (((i64.wrap ((i64.wrap (a2 + 1)) * p0.f0.f0)) - (i64.wrap (a1 * p0.f0.f0))) - n9))) (A0:=ag) (c0:=af) (V0:=cL (cL ag (i64.wrap (a1 * p0.f0.f0)) ((af : Nat) : Int) 15) (i64.wrap (((i64.wrap ((i64.wrap (a2 + 1)) * p0.f0.f0)) - (i64.wrap (a1 * p0.f0.f0))) - n9)) ((((af : Nat) : Int).toNat - (i64.wrap (a1 * p0.f0.f0)).toNat : Nat) : Int) 15) (v0:=((((af : Nat) : Int).toNat - (i64.wrap (a1 * p0.f0.f0)).toNat : Nat) : Int).toNat - (i64.wrap (((i64.wrap ((i64.wrap (a2 + 1)) * p0.f0.f0)) - (i64.wrap (a1 * p0.f0.f0))) - n9)).toNat) (hw0:=a5) a8) ?_)
  try unfold bG
  try unfold cK
  try unfold kD
  try unfold al
  try rewrite [← p]
  try unfold bG at sH
  try unfold cK at sH
  try unfold kD at sH
  try unfold al at sH
  try rewrite [← p] at sH
  refine aW dd sH (aH (by kernel_rfl) ?_)
  have h:=aN H;subst h
  exact fD [2,1,3,4,5] ⟨ag,af,az,ay,aw,ar,av,au,rfl,rfl⟩
 refine aA rfl j (aQ (bO (.slice (cL ag (i64.wrap (a1 * p0.f0.f0)) ((af : Nat) : Int) 15) ((i64.wrap ((i64.wrap (a2 + 1)) * p0.f0.f0)) - (i64.wrap (a1 * p0.f0.f0))).toNat (((af : Nat) : Int).toNat - (i64.wrap (a1 * p0.f0.f0)).toNat)) fM (h:=ad ax (h:=s' (ae (i64.wrap (0 - n9))) (ms rfl) ?_))))
 obtain⟨⟨N,O,R⟩,H⟩:=aR H
 refine s' (.slice (cL (cL ag (i64.wrap (a1 * p0.f0.f0)) ((af : Nat) : Int) 15) (i64.wrap (0 - n9)) ((((af : Nat) : Int).toNat - (i64.wrap (a1 * p0.f0.f0)).toNat : Nat) : Int) 15) (((i64.wrap ((i64.wrap (a2 + 1)) * p0.f0.f0)) - (i64.wrap (a1 * p0.f0.f0))) - (i64.wrap (0 - n9))).toNat (((((af : Nat) : Int).toNat - (i64.wrap (a1 * p0.f0.f0)).toNat : Nat) : Int).toNat - (i64.wrap (0 - n9)).toNat)) (dh (l:=0 + (i64.wrap (a1 * p0.f0.f0))) (m:=(i64.wrap ((i64.wrap (a2 + 1)) * p0.f0.f0)) - (i64.wrap (a1 * p0.f0.f0))) (a:=i64.wrap (0 - n9)) (b:=(i64.wrap ((i64.wrap (a2 + 1)) * p0.f0.f0)) - (i64.wrap (a1 * p0.f0.f0))) (q:=((((af : Nat) : Int).toNat - (i64.wrap (a1 * p0.f0.f0)).toNat : Nat) : Int)) d Tryz.underlying24 cl rfl rfl rfl rfl (.inr ⟨_,rfl⟩) (.inl ⟨rfl,rfl,rfl⟩) (.inl ⟨rfl,rfl⟩) N O R) ?_
 have a6 : dZ ag (cL (cL ag (i64.wrap (a1 * p0.f0.f0)) ((af : Nat) : Int) 15) (i64.wrap (0 - n9)) ((((af : Nat) : Int).toNat - (i64.wrap (a1 * p0.f0.f0)).toNat : Nat) : Int) 15) 15 ((0 + (i64.wrap (a1 * p0.f0.f0))) + (i64.wrap (0 - n9))) (((i64.wrap ((i64.wrap (a2 + 1)) * p0.f0.f0)) - (i64.wrap (a1 * p0.f0.f0))) - (i64.wrap (0 - n9))) (((((af : Nat) : Int).toNat - (i64.wrap (a1 * p0.f0.f0)).toNat : Nat) : Int).toNat - (i64.wrap (0 - n9)).toNat):=dZ.sub d N O R (.inl rfl) (Int.le_refl _)
 refine s' (.slice (cL ag (i64.wrap (a1 * p0.f0.f0)) ((af : Nat) : Int) 15) ((i64.wrap ((i64.wrap (a2 + 1)) * p0.f0.f0)) - (i64.wrap (a1 * p0.f0.f0))).toNat (((af : Nat) : Int).toNat - (i64.wrap (a1 * p0.f0.f0)).toNat)) fM ?_
 obtain⟨S,s,H⟩:=br H
 have hl_n1650 : S.length = p0.f0.f2.length:=by rw [s]; exact eM (by rw [List.length_take]; omega)
 refine o' (fY (k:=1) (l:=(0 + (i64.wrap (a1 * p0.f0.f0))) + (i64.wrap (0 - n9))) (m:=((i64.wrap ((i64.wrap (a2 + 1)) * p0.f0.f0)) - (i64.wrap (a1 * p0.f0.f0))) - (i64.wrap (0 - n9))) (xs:=p0.f0.f2) (ys:=sub p0.f0.f2 (0 + (i64.wrap (a1 * p0.f0.f0))) ((0 + (i64.wrap (a1 * p0.f0.f0))) + ((i64.wrap ((i64.wrap (a2 + 1)) * p0.f0.f0)) - (i64.wrap (a1 * p0.f0.f0))))) S s a6 rfl Tryz.underlying24 cl rfl rfl rfl (by omega) rfl (pO.win (Src.buf (k:=1) rfl) d rfl (by omega)) ?_)
 try unfold bG
 try unfold cK
 try unfold kD
 try unfold al
 try rewrite [← hl_n1650]
 refine bC ?_
 refine fk (dG 0 5) [5] (dG 0 5) fun _ _ _ _ _ sH dd pk=>?_
 refine kY (.slice (cL ag (i64.wrap (a1 * p0.f0.f0)) ((af : Nat) : Int) 15) ((i64.wrap ((i64.wrap (a2 + 1)) * p0.f0.f0)) - (i64.wrap (a1 * p0.f0.f0))).toNat (((af : Nat) : Int).toNat - (i64.wrap (a1 * p0.f0.f0)).toNat)) 0 rfl sH fM (h:=bf 1 rfl sH ax (h:=t' (ae (i64.wrap (0 - n9))) 2 rfl sH (ms rfl) ?_))
 obtain⟨⟨U,Y,Z⟩,H⟩:=aR H
 refine t' (.slice (cL (cL ag (i64.wrap (a1 * p0.f0.f0)) ((af : Nat) : Int) 15) (0 : Int) ((((af : Nat) : Int).toNat - (i64.wrap (a1 * p0.f0.f0)).toNat : Nat) : Int) 15) ((i64.wrap (0 - n9)) - (0 : Int)).toNat (((((af : Nat) : Int).toNat - (i64.wrap (a1 * p0.f0.f0)).toNat : Nat) : Int).toNat - (0 : Int).toNat)) 3 rfl sH (dh (l:=0 + (i64.wrap (a1 * p0.f0.f0))) (m:=(i64.wrap ((i64.wrap (a2 + 1)) * p0.f0.f0)) - (i64.wrap (a1 * p0.f0.f0))) (a:=(0 : Int)) (b:=i64.wrap (0 - n9)) (q:=((((af : Nat) : Int).toNat - (i64.wrap (a1 * p0.f0.f0)).toNat : Nat) : Int)) d Tryz.underlying24 cl rfl rfl rfl rfl (.inl ⟨rfl,rfl⟩) (.inr ⟨_,rfl⟩) (.inl ⟨rfl,rfl⟩) U Y Z) ?_
 have a7 : dZ ag (cL (cL ag (i64.wrap (a1 * p0.f0.f0)) ((af : Nat) : Int) 15) (0 : Int) ((((af : Nat) : Int).toNat - (i64.wrap (a1 * p0.f0.f0)).toNat : Nat) : Int) 15) 15 ((0 + (i64.wrap (a1 * p0.f0.f0))) + (0 : Int)) ((i64.wrap (0 - n9)) - (0 : Int)) (((((af : Nat) : Int).toNat - (i64.wrap (a1 * p0.f0.f0)).toNat : Nat) : Int).toNat - (0 : Int).toNat):=dZ.sub d U Y Z (.inl rfl) (Int.le_refl _)
 refine r' 4 rfl sH (ck 0) ?_
 obtain⟨b3,a9,H⟩:=ac H
 obtain⟨u,H⟩:=aR H
 refine dx 5 rfl dd (da [1] [0,2,3,4] (eT.ok (o0:=(0 + (i64.wrap (a1 * p0.f0.f0))) + (0 : Int)) (n0:=(i64.wrap (0 - n9)) - (0 : Int)) (A0:=ag) (c0:=af) (V0:=cL (cL ag (i64.wrap (a1 * p0.f0.f0)) ((af : Nat) : Int) 15) (0 : Int) ((((af : Nat) : Int).toNat - (i64.wrap (a1 * p0.f0.f0)).toNat : Nat) : Int) 15) (v0:=((((af : Nat) : Int).toNat - (i64.wrap (a1 * p0.f0.f0)).toNat : Nat) : Int).toNat - (0 : Int).toNat) (hw0:=a7) a9) ?_)
 try unfold bG
 try unfold cK
 try unfold kD
 try unfold al
 try rewrite [← u]
 try unfold bG at sH
 try unfold cK at sH
 try unfold kD at sH
 try unfold al at sH
 try rewrite [← u] at sH
 refine aW dd sH (aH (by kernel_rfl) ?_)
 have h:=aN H;subst h
 exact fD [2,1,3,4,5] ⟨ag,af,az,ay,aw,ar,av,au,rfl,rfl⟩


def eS.f (k : Nat) (p0 : aG) : Option (aG):=if p0.f1 = p0.f6 then ((cT.f k p0 p0.f5 p0.f6 1 p0.f4).bind (fun a=>some (a))) else (if p0.f1 < (i64.wrap (p0.f0.f1 - 1)) then (some (({ p0 with f1:=(i64.wrap (p0.f1 + 1)) }))) else (some (p0)))
theorem eS.ok {p0 : aG} {r : aG} (H : eS.f k p0 = some r) : df Tryz.prog 119 #[.agg #[.pointer (some ⟨ba,0,none⟩)]] (cK ba p0 ag af az ay aw ar av au) (fun v B=>∃ P0_0_ q0_0_ P0_1_ q0_1_ P0_2_ q0_2_ P0_3_ q0_3_,v = .tuple #[]∧B = (cK ba r P0_0_ q0_0_ P0_1_ q0_1_ P0_2_ q0_2_ P0_3_ q0_3_)):=by
 refine ai Tryz.func119 rfl rfl ?_
 unfold eS.f at H
 refine aQ (o' (bN (h:=fun y=>bC (aU (ao ?_)))))
 refine fk (dG 0 12) [0,5] (dG 1 4) fun _ _ _ _ _ sH dd pk=>?_
 refine bf 0 rfl sH aE (h:=bT 1 rfl sH (aT 1) (h:=bf 2 rfl sH cz (h:=bf 3 rfl sH aE (h:=bT 4 rfl sH (aT 0) (h:=bf 5 rfl sH aE (h:=bT 6 rfl sH (aT 1) (h:=bf 7 rfl sH cz (h:=bf 8 rfl sH aE (h:=r' 9 rfl sH (aT 0) ?_)))))))))
 refine bf 10 rfl sH (bk rfl rfl) (h:=bf 11 rfl sH aV (h:=aW dd sH (aH (by kernel_rfl) (aa ?_))))
 rcases bH H with⟨b,H⟩|⟨b,H⟩
 ·refine aB rfl b (bj 2 fun z=>bj 3 fun D=>bj 4 fun E=>bj 5 fun F=>?_)
  refine fk (dG 0 19) [0,1] (dG 2 4) fun _ _ _ _ _ sH dd pk=>?_
  refine bf 0 rfl sH aE (h:=bT 1 rfl sH (aT 1) (h:=bf 2 rfl sH cz (h:=bf 3 rfl sH aE (h:=bf 4 rfl sH aE (h:=bT 5 rfl sH (aT 1) (h:=bf 6 rfl sH cz (h:=bf 7 rfl sH aE (h:=bT 8 rfl sH (aT 0) (h:=T' 9 rfl sH aE ?_)))))))))
  refine bT 10 rfl sH (aT 1) (h:=bf 11 rfl sH cz (h:=bf 12 rfl sH aE (h:=bT 13 rfl sH (aT 0) (h:=bf 14 rfl sH aE (h:=bT 15 rfl sH (aT 1) (h:=bf 16 rfl sH cz (h:=bf 17 rfl sH aE (h:=bT 18 rfl sH (cG ba 6 0 (bG p0.f4)) (h:=aW dd sH ?_)))))))))
  obtain⟨I,c,H⟩:=ac H
  refine ey 19 rfl (dN [0,2,3,4,5] [1] (cT.ok (ba:=ba) c) fun d j m o p q s u=>?_)
  refine aH (by kernel_rfl) (aF ?_)
  have h:=aN H;subst h
  exact fD [0,1,2,3,4] ⟨d,j,m,o,p,q,s,u,rfl,rfl⟩
 refine aA rfl b (ao ?_)
 refine fk (dG 0 14) [0,1] (dG 2 4) fun _ _ _ _ _ sH dd pk=>?_
 refine bf 0 rfl sH aE (h:=bT 1 rfl sH (aT 1) (h:=bf 2 rfl sH cz (h:=bf 3 rfl sH aE (h:=bT 4 rfl sH (aT 0) (h:=bf 5 rfl sH aE (h:=bT 6 rfl sH (aT 1) (h:=bf 7 rfl sH cz (h:=bf 8 rfl sH aE (h:=T' 9 rfl sH aE ?_)))))))))
 refine bT 10 rfl sH (aT 0) (h:=bf 11 rfl sH (cY rfl rfl) (h:=bf 12 rfl sH (cn rfl rfl) (h:=bf 13 rfl sH aV (h:=aW dd sH (aH (by kernel_rfl) (aa (SA.of_St (l:=[(1,aK y),(34,.bool (decide (p0.f1 < (i64.wrap (p0.f0.f1 - 1)))))]) (B:=(aL ba 34 (al p0 ag af az ay aw ar av au)::(aS p0 ag af az ay aw ar av au++[aL y 84 [aK ba]]))) (St.mk1 (cJ rfl (cJ rfl dQ)) (Gh.sel [0,2,3,4,5,1] (by kernel_rfl) (by kernel_rfl))) fun junk=>?_)))))))
 rcases bH H with⟨a,H⟩|⟨a,H⟩
 ·refine aB rfl a (ah (ad aE (h:=bD (aT 5) (h:=ad cz (h:=ad aE (h:=bD (aT 0) (h:=ad (bV rfl rfl) (h:=ad cz (h:=S' aE ?_)))))))))
  refine o' (cH 0 [ae (i64.wrap (p0.f1 + 1))] (h:=(aj (aF ?_))))
  have h:=aN H;subst h
  exact fD [0,1,2,3,4] ⟨ag,af,az,ay,aw,ar,av,au,rfl,rfl⟩
 refine aA rfl a (ap (aF ?_))
 have h:=aN H;subst h
 exact fD [0,1,2,3,4] ⟨ag,af,az,ay,aw,ar,av,au,rfl,rfl⟩


def de.f (p0 : aG) : Option (Int):=lt (i64.wrap (p0.f0.f0 - 1)) fun n8=>some (n8)
theorem de.ok {p0 : aG} {r : Int} (H : de.f p0 = some r) : fK Tryz.prog 120 #[.agg #[.pointer (some ⟨ba,0,none⟩)]] (cK ba p0 ag af az ay aw ar av au) (ae r):=by
 refine ai Tryz.func120 rfl rfl ?_
 unfold de.f at H
 refine aQ (o' (bN (h:=fun b=>ad aV (h:=cV (ad aE (h:=bD (aT 5) (h:=ad cz (h:=ad aE (h:=ad aE (h:=l' (aT 0) ?_))))))))))
 refine S' (cY rfl rfl) ?_
 obtain⟨n8,a,H⟩:=br H
 refine bO (ae n8) (bz (v:=ae n8) (congrArg (Value.int .i64) a.symm)) (h:=cF ?_)
 have h:=aN H;subst h
 exact er [0,1,2,3,4] ⟨rfl,rfl⟩


def iu.f (a0 : Int) (a1 : Int) (a2 : cA) (p3 : (List aZ)) (o3 : Int) (n3 : Int) : Option (Bool):=if 0 ≤ o3∧0 ≤ n3∧o3 + n3 ≤ (p3.length : Int) then (if a0 ≥ 0 then (if a0 < n3 then (if 0 ≤ a0∧a0 < n3 then (if ((rd p3 (o3 + a0)).f2) = a1 then (if 0 ≤ a0∧a0 < n3 then (some (decide (((rd p3 (o3 + a0)).f3) = a2))) else none) else (some (false))) else none) else (some (false))) else (some (false))) else none
theorem iu.ok {a0 : Int} {a1 : Int} {a2 : cA} {p3 : (List aZ)} {o3 : Int} {n3 : Int} {A3 V3 : Option Addr} {c3 v3 : Nat} (hw3 : dZ A3 V3 15 o3 n3 v3) {r : Bool} (H : iu.f a0 a1 a2 p3 o3 n3 = some r) : fK Tryz.prog 157 #[ae a0,.int .u8 a1,.agg (bG a2).toArray,.pointer (some ⟨vp,0,none⟩)] [aL vp 116 [.slice V3 n3.toNat v3],Buf bE 55 A3 c3 p3] (.bool r):=by
 refine ai Tryz.func157 rfl rfl ?_
 unfold iu.f at H
 obtain⟨⟨E,F,I⟩,H⟩:=aR H
 have hcv_hw3:=hw3.cap
 refine aQ (o' (bN (h:=fun J=>ad aV (h:=bC (ao ?_)))))
 refine fk (dG 0 27) [0,1,2] [] fun _ _ _ _ _ sH dd pk=>?_
 refine bf 0 rfl sH ax (h:=bf 1 rfl sH (dI rfl rfl) (h:=T' 2 rfl sH ax ?_))
 rcases bH H with⟨c,H⟩|⟨c,H⟩
 ·refine du 3 rfl (ak c) sH ax (h:=cU 4 rfl (ak c) sH (aT 0) (h:=jp (ae n3) 5 rfl (ak c) sH (jV hw3 Tryz.underlying116 rfl) (h:=du 6 rfl (ak c) sH (cn rfl rfl) (h:=bT 7 rfl sH (VR.ofV (bX rfl (ak c) rfl)) (h:=T' 8 rfl sH ax ?_)))))
  rcases bH H with⟨a,H⟩|⟨a,H⟩
  ·refine cU 9 rfl (ak a) sH (aT 0) (h:=ml 10 rfl (ak a) sH ax ?_)
   obtain⟨⟨u,z⟩,H⟩:=aR H
   have B : 0 ≤ o3 + a0:=by omega
   have D : o3 + a0 < (p3.length : Int):=by omega
   refine cU 11 rfl (ak a) sH (eI (l:=o3) (m:=n3) (i:=a0) (sz:=15) hw3 Tryz.underlying116 cl rfl rfl (Src.buf (k:=1) rfl) u z (by omega)) (h:=jp (.pointer (some ((el A3 ((o3 + a0).toNat * 15)).add 4))) 12 rfl (ak a) sH (mL (el A3 ((o3 + a0).toNat * 15)) 0 4) (h:=cU 13 rfl (ak a) sH (bQ (enc:=di) (i:=o3 + a0) (j:=(o3 + a0).toNat * 15) (m:=4) (sz:=15) Tryz.underlying5 rfl rfl rfl rfl (Src.buf (k:=1) rfl) B D (fun _ _ h=>h) rfl) (h:=du 14 rfl (ak a) sH ax (h:=du 15 rfl (ak a) sH (bk rfl rfl) (h:=bT 16 rfl sH (VR.ofV (bX rfl (ak a) rfl)) (h:=T' 17 rfl sH ax ?_))))))
   rcases bH H with⟨b,H⟩|⟨b,H⟩
   ·refine cU 18 rfl (ak b) sH (aT 0) (h:=ml 19 rfl (ak b) sH ax ?_)
    obtain⟨⟨d,o⟩,H⟩:=aR H
    have q : 0 ≤ o3 + a0:=by omega
    have s : o3 + a0 < (p3.length : Int):=by omega
    refine cU 20 rfl (ak b) sH (eI (l:=o3) (m:=n3) (i:=a0) (sz:=15) hw3 Tryz.underlying116 cl rfl rfl (Src.buf (k:=1) rfl) d o (by omega)) (h:=jp (.pointer (some ((el A3 ((o3 + a0).toNat * 15)).add 5))) 21 rfl (ak b) sH (mL (el A3 ((o3 + a0).toNat * 15)) 0 5) (h:=cU 22 rfl (ak b) sH (cj (enc:=di) (i:=o3 + a0) (j:=(o3 + a0).toNat * 15) (m:=5) (sz:=15) (vs:=(bG ((rd p3 (o3 + a0)).f3))) Tryz.underlying28 rfl mZ rfl rfl rfl (Src.buf (k:=1) rfl) q s (fun _ _ h=>h) rfl) (h:=cU 23 rfl (ak b) sH (ck 2) (h:=jp (.bool (decide (((rd p3 (o3 + a0)).f3) = a2))) 24 rfl (ak b) sH (mb (xs:=(bG ((rd p3 (o3 + a0)).f3))) (ys:=(bG a2)) (r:=(((((rd p3 (o3 + a0)).f3).f0) == a2.f0) && (((((rd p3 (o3 + a0)).f3).f1) == a2.f1) && (((((rd p3 (o3 + a0)).f3).f2) == a2.f2) && (((((rd p3 (o3 + a0)).f3).f3) == a2.f3) && (((((rd p3 (o3 + a0)).f3).f4) == a2.f4) && (((((rd p3 (o3 + a0)).f3).f5) == a2.f5) && (((((rd p3 (o3 + a0)).f3).f6) == a2.f6) && (((((rd p3 (o3 + a0)).f3).f7) == a2.f7) && (((((rd p3 (o3 + a0)).f3).f8) == a2.f8) && (((((rd p3 (o3 + a0)).f3).f9) == a2.f9) && true))))))))))) (p:=((rd p3 (o3 + a0)).f3) = a2) ng rfl rfl (by kernel_rfl) (nh (x:=((rd p3 (o3 + a0)).f3)) (y:=a2))) (h:=bT 25 rfl sH (VR.ofV (bX rfl (ak b) rfl)) (h:=bf 26 rfl sH aV (h:=aW dd sH (aH (by kernel_rfl) (aa (fa ?_))))))))))
    have h:=aN H;subst h
    exact er [0,1] ⟨rfl,rfl⟩
   refine cb 18 rfl (am b) (cb 19 rfl (am b) (cb 20 rfl (am b) (cb 21 rfl (am b) (cb 22 rfl (am b) (cb 23 rfl (am b) (cb 24 rfl (am b) (bT 25 rfl sH (VR.ofV (bY rfl (am b) rfl)) (h:=bf 26 rfl sH aV (h:=aW dd sH ?_)))))))))
   refine aH (by kernel_rfl) (aa (fa ?_))
   have h:=aN H;subst h
   exact er [0,1] ⟨rfl,rfl⟩
  refine cb 9 rfl (am a) (cb 10 rfl (am a) (cb 11 rfl (am a) (cb 12 rfl (am a) (cb 13 rfl (am a) (cb 14 rfl (am a) (cb 15 rfl (am a) (bT 16 rfl sH (VR.ofV (bY rfl (am a) rfl)) (h:=bf 17 rfl sH ax (h:=cb 18 rfl rfl ?_)))))))))
  refine cb 19 rfl rfl (cb 20 rfl rfl (cb 21 rfl rfl (cb 22 rfl rfl (cb 23 rfl rfl (cb 24 rfl rfl (bT 25 rfl sH (VR.ofV (bY rfl (rfl) rfl)) (h:=bf 26 rfl sH aV (h:=aW dd sH (aH (by kernel_rfl) ?_)))))))))
  refine aa (fa ?_)
  have h:=aN H;subst h
  exact er [0,1] ⟨rfl,rfl⟩
 refine cb 3 rfl (am c) (cb 4 rfl (am c) (cb 5 rfl (am c) (cb 6 rfl (am c) (bT 7 rfl sH (VR.ofV (bY rfl (am c) rfl)) (h:=bf 8 rfl sH ax (h:=cb 9 rfl rfl (cb 10 rfl rfl (cb 11 rfl rfl (cb 12 rfl rfl ?_)))))))))
 refine cb 13 rfl rfl (cb 14 rfl rfl (cb 15 rfl rfl (bT 16 rfl sH (VR.ofV (bY rfl (rfl) rfl)) (h:=bf 17 rfl sH ax (h:=cb 18 rfl rfl (cb 19 rfl rfl (cb 20 rfl rfl (cb 21 rfl rfl (cb 22 rfl rfl ?_)))))))))
 refine cb 23 rfl rfl (cb 24 rfl rfl (bT 25 rfl sH (VR.ofV (bY rfl (rfl) rfl)) (h:=bf 26 rfl sH aV (h:=aW dd sH (aH (by kernel_rfl) (aa (fa ?_)))))))
 have h:=aN H;subst h
 exact er [0,1] ⟨rfl,rfl⟩

end Go.Proofs.YtckilbegmbaeeaaGreat.Z3

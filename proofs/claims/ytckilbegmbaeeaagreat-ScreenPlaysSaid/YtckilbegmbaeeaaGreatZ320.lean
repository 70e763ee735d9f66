/- What functions compute, and that they do: 100b0, 105b0, 143, 144b0, 145b0. -/
import Derived.Test.YtckilbegmbaeeaaGreatZ319
namespace Go.Proofs.YtckilbegmbaeeaaGreat.Z3
open Go Go.RowKit Go.Proofs.YtckilbegmbaeeaaGreat.SL
open Go.IntKind (i64)
set_option linter.unusedVariables false
set_option maxHeartbeats 20000000
set_option maxRecDepth 100000
set_option linter.unusedSimpArgs false
attribute [local irreducible] IntKind.wrap cC dO eX gp gl lH fU cN gm rd sub bytesOf eG cL
variable {ba af ay ar au k : Nat}
variable {ag az aw av : Option Addr}
def mE.l0 (a1 : Int) : Nat → aZ → aZ → Int → Option (Out (aZ) (aZ × aZ))
  | 0,_,_,_=>none
  | k + 1,a,c,b=>if b < 3 then (if 0 ≤ b∧b < (3 : Int) then (if (rd ([a.f1.f0,a.f1.f1,a.f1.f2] : List Int) b) = 0 then (if 0 ≤ b∧b < (3 : Int) then (some (Out.ret ((aZ.mk a.f0 (fR.mk (if b = 0 then a1 else a.f1.f0) (if b = 1 then a1 else a.f1.f1) (if b = 2 then a1 else a.f1.f2)) a.f2 a.f3)))) else none) else (lt (i64.wrap (b + 1)) fun n25=>mE.l0 a1 k a c n25)) else none) else (some (Out.go (a,c)))
def mE.f (k : Nat) (a0 : aZ) (a1 : Int) : Option (aZ):=(rt.f k a1).bind (fun c=>(if c ≠ 0 then (some true) else (if a0.f2 ≠ 1 then (some (decide (a0.f2 ≠ 2))) else (some false)) : Option Bool).bind (fun d=>if d = true then (some (a0)) else ((mE.l0 a1 k a0 (aZ.mk 0 (fR.mk 0 0 0) 0 (cA.mk 0 0 false false false false false false false false)) 0 : Option (Out (aZ) (aZ × aZ))).bind (fun a=>Out.el a (fun r_=>some r_) (fun b=>some (b.1))))))
theorem mE.ok {a0 : aZ} {a1 : Int} {r : aZ} (H : mE.f k a0 a1 = some r) : fK Tryz.prog 143 #[.agg (bR a0).toArray,aJ a1] [] (.agg (bR r).toArray):=by
 refine ai Tryz.func143 rfl rfl ?_
 unfold mE.f at H
 refine aQ (o' (bN (h:=fun Y=>o' (cy (h:=fun K=>eJ (S' ax ?_))))))
 obtain⟨r5,a3,H⟩:=ac H
 refine o' (da [] [0,1] (rt.ok a3) ?_)
 refine ad (dK rfl rfl) (h:=S' ax ?_)
 obtain⟨q6,H,O⟩:=ac H
 refine cD 9 (St [(1,aJ a1),(2,aK Y),(4,aK K),(18,.bool q6)] [aL Y 55 (bR a0),aL K 55 (bR lP)]) ?_ ?_
 ·rcases bH H with⟨j,H⟩|⟨j,H⟩
  ·refine cI 4 (ak j) (gj (gj (gj (cI 1 (ak j) (ii (ak j) ?_)))))
   have h:=aN H;subst h
   exact dV [0,1]
  refine bn (am j) aE (h:=dc (am j) (aT 0) (h:=bn (am j) (dK rfl rfl) (h:=Y' (am j) ax ?_)))
  rcases bH H with⟨y,H⟩|⟨y,H⟩
  ·refine bn (ak y) aE (h:=dc (ak y) (aT 0) (h:=bn (ak y) (dK rfl rfl) (h:=gE (am j) (dl rfl (bX rfl (ak y) rfl) (gL (am j) ?_)))))
   have h:=aN H;subst h
   exact dV [0,1]
  refine cI 3 (am y) (gE (am j) (dl rfl (bY rfl (am y) rfl) (gL (am j) ?_)))
  have h:=aN H;subst h
  exact dV [0,1]
 rintro e ds As Z
 clear H
 have H:=O
 clear O
 refine bC (SA.of_St Z fun junk=>?_)
 rcases bH H with⟨D,H⟩|⟨D,H⟩
 ·refine aC rfl D (aQ (bD (ck 0) (h:=o' (bg K 0 1 (bR a0) (h:=cE ?_)))))
  have h:=aN H;subst h
  exact gH (rs:=[.cell 4 55]) (vs:=[.agg (bR a0).toArray]) [] rfl ⟨RV.cell (k:=1) rfl rfl Tryz.underlying55 rfl cl,trivial⟩ rfl (eY []) ⟨rfl,rfl⟩
 refine aD rfl D (ap (aa (ao (aQ (ad aV (h:=bC ?_))))))
 obtain⟨R,H,p⟩:=ac H
 refine bI (fun e ds As=>∃ (s : aZ × aZ),R = Out.go s∧∃ (E : Nat),∃ (z : Nat),St [(2,aK E),(4,aK z)] [aL E 55 (bR s.1),aL z 55 (bR s.2)] e ds As) ?_ ?_
 ·refine aU (cw (fun k_ e ds As=>∃ (a : aZ) (l : aZ) (c : Int),∃ (d : Nat),∃ (u : Nat),mE.l0 a1 k_ a l c = some R∧St [(1,aJ a1),(2,aK d),(4,aK u),(5,ae c)] [aL d 55 (bR a),aL u 55 (bR l)] e ds As) (k:=k) ⟨_,_,_,Y,K,H,kW [0,1]⟩ ?_)
  clear H
  rintro F e ds As ⟨a,l,c,d,u,H,L⟩
  obtain _ | F:=F
  ·cases H
  rw [mE.l0] at H
  refine SA.of_St L fun junk=>ao (aQ (ad ax (h:=ad (cn rfl rfl) (h:=bC ?_))))
  rcases bH H with⟨I,H⟩|⟨I,H⟩
  ·refine aB rfl I (ap (aa (ao (aU (aQ (ad ax (h:=S' aE ?_)))))))
   obtain⟨⟨S,U⟩,H⟩:=aR H
   refine s' (.pointer (some ((⟨d,0,none⟩ : Addr).add (1 + c.toNat * 1 + 0)))) (dM (B:=⟨d,0,none⟩) (m:=1) (o:=1 + c.toNat * 1 + 0) Tryz.underlying53 kP rfl rfl S U rfl) ?_
   refine l' (gT (b:=d) (m:=1 + c.toNat * 1 + 0) (k:=0) (v:=aJ (rd ([a.f1.f0,a.f1.f1,a.f1.f2] : List Int) c)) Tryz.underlying21 rfl rfl rfl (pB (q:=0) (kd:=(Kd.int .i32)) (m0:=1) (N:=3) (sz:=1) (xs:=([a.f1.f0,a.f1.f1,a.f1.f2] : List Int)) (i:=c) (dL (fun x_ : Int=>[Value.int .i32 x_]) (fun _ _=>rfl) (by kernel_rfl) _) rfl rfl S U (fun _ h_=>by rw [h_]; rfl))) ?_
   refine ad (bk rfl rfl) (h:=bC ?_)
   rcases bH H with⟨J,H⟩|⟨J,H⟩
   ·refine aB rfl J (aQ (ad ax (h:=ad ax (h:=S' aE ?_))))
    obtain⟨⟨a4,a5⟩,H⟩:=aR H
    refine s' (.pointer (some ((⟨d,0,none⟩ : Addr).add (1 + c.toNat * 1 + 0)))) (dM (B:=⟨d,0,none⟩) (m:=1) (o:=1 + c.toNat * 1 + 0) Tryz.underlying53 kP rfl rfl a4 a5 rfl) ?_
    refine o' (oW (b:=d) (m:=1 + c.toNat * 1 + 0) (k:=0) (vs:=[aJ a1]) (cs':=(bR (aZ.mk a.f0 (fR.mk (if c = 0 then a1 else a.f1.f0) (if c = 1 then a1 else a.f1.f1) (if c = 2 then a1 else a.f1.f2)) a.f2 a.f3))) rfl rfl rfl rfl rfl rfl kP (by show 1 + c.toNat * 1 + 0 + 1 ≤ 15; omega) (by rcases (show c = 0 ∨ c = 1 ∨ c = 2 by omega) with h_ | h_ | h_ <;> (rewrite [h_]; kernel_rfl)) ?_)
    refine cV (bD (ck 0) (h:=o' (bg u 0 1 (bR (aZ.mk a.f0 (fR.mk (if c = 0 then a1 else a.f1.f0) (if c = 1 then a1 else a.f1.f1) (if c = 2 then a1 else a.f1.f2)) a.f2 a.f3)) (h:=cF (bi (aI (aI (bi (aI (aI ?_))))))))))
    have h:=aN H;subst h
    have hb_:=dS p
    have hr_:=Option.some.inj hb_
    clear hb_
    subst hr_
    exact gH (rs:=[.cell 4 55]) (vs:=[.agg (bR (aZ.mk a.f0 (fR.mk (if c = 0 then a1 else a.f1.f0) (if c = 1 then a1 else a.f1.f1) (if c = 2 then a1 else a.f1.f2)) a.f2 a.f3)).toArray]) [] rfl ⟨RV.cell (k:=1) rfl rfl Tryz.underlying55 rfl cl,trivial⟩ rfl (eY []) ⟨rfl,rfl⟩
   refine aA rfl J (ap (aF (aa (ah (ad ax (h:=S' (bV rfl rfl) ?_))))))
   obtain⟨n25,a2,H⟩:=br H
   refine bO (ae n25) (bz (v:=ae n25) (congrArg (Value.int .i64) a2.symm)) (h:=aj ?_)
   exact aa ⟨F,Nat.lt_succ_self _,_,_,_,d,u,H,ed [0,1]⟩
  refine aA rfl I (ct (bc (bc (cr ?_))))
  have h:=aN H;subst h
  exact aa ⟨(a,l),rfl,d,u,ed [0,1]⟩
 rintro e ds As ⟨s,ht,E,z,M⟩
 clear H
 subst ht
 replace p:=fW p
 have H:=p
 clear p
 refine aa (SA.of_St M fun junk=>aQ (bD (ck 0) (h:=o' (bg z 0 1 (bR s.1) (h:=cF ?_)))))
 have h:=aN H;subst h
 exact gH (rs:=[.cell 4 55]) (vs:=[.agg (bR s.1).toArray]) [] rfl ⟨RV.cell (k:=1) rfl rfl Tryz.underlying55 rfl cl,trivial⟩ rfl (eY []) ⟨rfl,rfl⟩


def lW.f (k : Nat) (p0 : aG) (a1 : Int) : Option (aG):=lt (i64.wrap (p0.f2 - 1)) fun n6=>(if p0.f3 = true then (some p0.f2) else (some n6) : Option (Int)).bind (fun j=>if j < 0 then (some (p0)) else (lt (i64.wrap ((i64.wrap (p0.f1 * p0.f0.f0)) + j)) fun b=>if 0 ≤ b∧b < (p0.f0.f2.length : Int) then ((if ((rd p0.f0.f2 b).f2) = 0 then (lt (i64.wrap (b - 1)) fun h=>some h) else (some b) : Option (Int)).bind (fun a=>if 0 ≤ a∧a < (p0.f0.f2.length : Int) then ((mE.f k (rd p0.f0.f2 a) a1).bind (fun c=>if 0 ≤ a∧a < (p0.f0.f2.length : Int) then (lt (p0.f0.f2.set a.toNat c) fun d=>(some (({ p0 with f0:=(bF.mk p0.f0.f0 p0.f0.f1 d) })))) else none)) else none)) else none))
theorem lW.ok {p0 : aG} {a1 : Int} {r : aG} (H : lW.f k p0 a1 = some r) : df Tryz.prog 100 #[.pointer (some ⟨ba,0,none⟩),aJ a1] (cK ba p0 ag af az ay aw ar av au) (fun v B=>∃ P0_0_ q0_0_ P0_1_ q0_1_ P0_2_ q0_2_ P0_3_ q0_3_,v = .tuple #[]∧B = (cK ba r P0_0_ q0_0_ P0_1_ q0_1_ P0_2_ q0_2_ P0_3_ q0_3_)):=by
 refine ai Tryz.func100 rfl rfl ?_
 unfold lW.f at H
 refine aQ (ad ax (h:=ad cz (h:=ad aE (h:=bD (aT 0) (h:=S' (cY rfl rfl) ?_)))))
 obtain⟨n6,S,H⟩:=br H
 refine bO (ae n6) (bz (v:=ae n6) (congrArg (Value.int .i64) S.symm)) (h:=eJ (ad ax (h:=ad cz (h:=ad aE (h:=bD (aT 0) (h:=bC ?_))))))
 obtain⟨U,H,N⟩:=ac H
 refine bI (St [(0,aK ba),(1,aJ a1),(4,ae U)] (cK ba p0 ag af az ay aw ar av au)) ?_ ?_
 ·rcases bH H with⟨O,H⟩|⟨O,H⟩
  ·refine aC rfl O (ah (ad ax (h:=ad cz (h:=ad aE (h:=bD (aT 0) (h:=ad aV (h:=aj ?_)))))))
   have h:=aN H;subst h
   exact bM [0,1,2,3,4]
  refine aD rfl O (ap ?_)
  have h:=aN H;subst h
  exact bM [0,1,2,3,4]
 rintro e ds As R
 clear H
 have H:=N
 clear N
 refine aa (SA.of_St R fun junk=>ao (aQ (ad ax (h:=ad (cn rfl rfl) (h:=bC ?_)))))
 rcases bH H with⟨z,H⟩|⟨z,H⟩
 ·refine aB rfl z (fa (aI ?_))
  have h:=aN H;subst h
  exact kT (cK ba p0 ag af az ay aw ar av au) rfl (eY [0,1,2,3,4]) ⟨ag,af,az,ay,aw,ar,av,au,rfl,rfl⟩
 refine aA rfl z (ap (aa (ao ?_)))
 refine fk (dG 0 13) [0] (dG 1 4) fun _ _ _ _ _ sH dd pk=>?_
 refine bf 0 rfl sH ax (h:=bf 1 rfl sH cz (h:=bf 2 rfl sH aE (h:=bT 3 rfl sH (aT 0) (h:=bf 4 rfl sH ax (h:=bf 5 rfl sH cz (h:=bf 6 rfl sH aE (h:=bf 7 rfl sH aE (h:=bT 8 rfl sH (aT 0) (h:=T' 9 rfl sH (jq rfl rfl) ?_)))))))))
 refine bf 10 rfl sH ax (h:=T' 11 rfl sH (bV rfl rfl) ?_)
 obtain⟨b,J,H⟩:=br H
 refine kY (ae b) 12 rfl sH (bz (v:=ae b) (congrArg (Value.int .i64) J.symm)) (h:=aW dd sH (aH (by kernel_rfl) (aa (ao (aQ (ad ax (h:=ad cz (h:=ad aE (h:=ad aE (h:=bD (aT 0) (h:=S' ax ?_)))))))))))
 obtain⟨⟨D,E⟩,H⟩:=aR H
 refine bD (bK (i:=b) Tryz.underlying24 cl rfl rfl (Src.buf (k:=1) rfl) D E) (h:=bO (.pointer (some ((el ag (b.toNat * 15)).add 4))) (mL (el ag (b.toNat * 15)) 0 4) (h:=bD (bQ (enc:=di) (i:=b) (j:=b.toNat * 15) (m:=4) (sz:=15) Tryz.underlying5 rfl rfl rfl rfl (Src.buf (k:=1) rfl) D E (fun _ _ h=>h) rfl) (h:=ad (bk rfl rfl) (h:=bC (SA.of_St (l:=[(0,aK ba),(1,aJ a1),(5,ae b),(42,.bool (decide (((rd p0.f0.f2 b).f2) = 0)))]) (B:=(cK ba p0 ag af az ay aw ar av au)) (St.mk1 (cJ rfl (cJ rfl (cJ rfl (cJ rfl dQ)))) (Gh.sel [0,1,2,3,4] (by kernel_rfl) (by kernel_rfl))) fun junk=>?_)))))
 obtain⟨a,H,o⟩:=ac H
 refine bI (St [(0,aK ba),(1,aJ a1),(5,ae a)] (cK ba p0 ag af az ay aw ar av au)) ?_ ?_
 ·rcases bH H with⟨d,H⟩|⟨d,H⟩
  ·refine aB rfl d (ah (ad ax (h:=S' (cY rfl rfl) ?_)))
   obtain⟨F,K,H⟩:=br H
   refine bO (ae F) (bz (v:=ae F) (congrArg (Value.int .i64) K.symm)) (h:=aj ?_)
   have h:=aN H;subst h
   exact bM [0,1,2,3,4]
  refine aA rfl d (ap ?_)
  have h:=aN H;subst h
  exact bM [0,1,2,3,4]
 rintro e ds As I
 clear H
 have H:=o
 clear o
 refine aa (SA.of_St I fun junk=>?_)
 refine fk (0::1::2::3::4::5::6::7::8::9::10::11::12::13::14::16::[]) [0,1] [2,3,4] fun _ _ _ _ _ sH dd pk=>?_
 refine bf 0 rfl sH ax (h:=bf 1 rfl sH cz (h:=bf 2 rfl sH aE (h:=bf 3 rfl sH aE (h:=bT 4 rfl sH (aT 0) (h:=bf 5 rfl sH ax (h:=bf 6 rfl sH ax (h:=bf 7 rfl sH cz (h:=bf 8 rfl sH aE (h:=T' 9 rfl sH aE ?_)))))))))
 refine bT 10 rfl sH (aT 0) (h:=T' 11 rfl sH ax ?_)
 obtain⟨⟨p,q⟩,H⟩:=aR H
 refine bT 12 rfl sH (bK (i:=a) Tryz.underlying24 cl rfl rfl (Src.buf (k:=1) rfl) p q) (h:=bT 13 rfl sH (cj (enc:=di) (i:=a) (j:=a.toNat * 15) (m:=0) (sz:=15) (vs:=(bR (aZ.mk ((rd p0.f0.f2 a).f0) ((rd p0.f0.f2 a).f1) ((rd p0.f0.f2 a).f2) ((rd p0.f0.f2 a).f3)))) Tryz.underlying55 rfl cl rfl rfl rfl (Src.buf (k:=1) rfl) p q (fun _ _ h=>h) rfl) (h:=T' 14 rfl sH ax ?_))
 obtain⟨s,L,H⟩:=ac H
 refine dx 15 rfl dd (da [] [0,1,2] (mE.ok L) ?_)
 obtain⟨⟨u,y⟩,H⟩:=aR H
 refine bT 16 rfl sH (bK (i:=a) Tryz.underlying24 cl rfl rfl (Src.buf (k:=1) rfl) u y) (h:=aW dd sH ?_)
 obtain⟨M,c,H⟩:=br H
 have hl_n1818 : M.length = p0.f0.f2.length:=by rw [c]; exact List.length_set
 refine ey 17 rfl (iB (k:=1) (i:=a) (j:=a.toNat * 15) (m:=0) (sz:=15) (xs:=p0.f0.f2) (vs:=(bR s)) s rfl rfl rfl rfl rfl rfl rfl rfl cl u y rfl (fun _ _ h_=>by subst h_; rfl) ?_)
 rewrite [← c]
 try unfold cK
 try unfold kD
 try unfold al
 try rewrite [← hl_n1818]
 refine aH (by kernel_rfl) ?_
 have h:=aN H;subst h
 exact fD [0,1,2,3,4] ⟨ag,af,az,ay,aw,ar,av,au,rfl,rfl⟩


def ik.f (k : Nat) (a0 : bF) (a1 : cA) (a2 : Int) : Option (Bool):=(gi.f k a0).bind (fun d=>(if (!d) = true then (some true) else ((qR.f a1).bind (fun a=>some (!a))) : Option Bool).bind (fun h=>lt (h || (decide (a2 < 0))) fun b=>lt (b || (decide (a2 ≥ a0.f1))) fun c=>some (c)))
theorem ik.ok {a0 : bF} {a1 : cA} {a2 : Int} {r : Bool} (H : ik.f k a0 a1 a2 = some r) : fK Tryz.prog 144 #[.agg #[ae a0.f0,ae a0.f1,.slice ag a0.f2.length af],.agg (bG a1).toArray,ae a2] [Buf bE 55 ag af a0.f2] (.bool r):=by
 refine ai Tryz.func144 rfl rfl ?_
 unfold ik.f at H
 refine aQ (o' (bN (h:=fun d=>o' (bN (h:=fun B=>ad aV (h:=bC (ao (bj 0 fun y=>ah (l' (cG d 0 1 [ae a0.f0,ae a0.f1,.slice ag a0.f2.length af]) ?_)))))))))
 obtain⟨D,o,H⟩:=ac H
 refine o' (da [0] [1,2] (gi.ok o) ?_)
 refine ad (ca rfl) (h:=S' ax ?_)
 obtain⟨p,H,q⟩:=ac H
 refine eg 4 [(2,ae a2),(3,aK d),(14,.bool p)] [Buf bE 55 ag af a0.f2,aL d 26 [ae a0.f0,ae a0.f1,.slice ag a0.f2.length af]] ?_ fun junk=>?_
 ·rcases bH H with⟨c,H⟩|⟨c,H⟩
  ·refine cI 3 c (ii c ?_)
   have h:=aN H;subst h
   exact dV [0,1]
  refine z' (aX c) (ck 2) ?_
  obtain⟨z,s,H⟩:=ac H
  refine gE (aX c) (da [] [0,1,2] (qR.ok s) ?_)
  refine bn (aX c) (ca rfl) (h:=gL (aX c) ?_)
  have h:=aN H;subst h
  exact dV [0,1]
 replace H:=q
 refine S' ax ?_
 obtain⟨m,j,H⟩:=br H
 refine eg 3 [(2,ae a2),(3,aK d),(18,.bool m)] [Buf bE 55 ag af a0.f2,aL d 26 [ae a0.f0,ae a0.f1,.slice ag a0.f2.length af]] ?_ fun junk=>?_
 ·by_cases b : p = true
  ·refine cI 2 b (cq b (h:=aj ?_))
   have x_:=jL j b;exact bM [0,1]
  refine bn (aX b) ax (h:=bn (aX b) (cn rfl rfl) (h:=cv (aX b) (h:=aj ?_)))
  have x_:=jN j ((aX b));exact bM [0,1]
 refine S' ax ?_
 obtain⟨u,l,H⟩:=br H
 refine eg 5 [(24,.bool u)] [Buf bE 55 ag af a0.f2] ?_ fun junk=>?_
 ·by_cases a : m = true
  ·refine cI 4 a (cq a (h:=aj ?_))
   have x_:=jL l a;exact bM [0]
  refine bn (aX a) ax (h:=bn (aX a) aE (h:=dc (aX a) (aT 1) (h:=bn (aX a) (dI rfl rfl) (h:=cv (aX a) (h:=aj ?_)))))
  have x_:=jN l ((aX a));exact bM [0]
 refine ad aV (h:=cF ?_)
 have h:=aN H;subst h
 exact er [0] ⟨rfl,rfl⟩


def dk.f (a0 : bF) (a1 : Int) : Option ((Int × Int)):=if 0 ≤ (i64.wrap (a1 * a0.f0))∧(i64.wrap (a1 * a0.f0)) ≤ (i64.wrap ((i64.wrap (a1 + 1)) * a0.f0))∧(i64.wrap ((i64.wrap (a1 + 1)) * a0.f0)) ≤ (a0.f2.length : Int) then (some (((0 + (i64.wrap (a1 * a0.f0)) : Int),((i64.wrap ((i64.wrap (a1 + 1)) * a0.f0)) - (i64.wrap (a1 * a0.f0)) : Int)))) else none
theorem dk.ok {a0 : bF} {a1 : Int} {r : (Int × Int)} (H : dk.f a0 a1 = some r) : df Tryz.prog 145 #[.agg #[ae a0.f0,ae a0.f1,.slice ag a0.f2.length af],ae a1] [Buf bE 55 ag af a0.f2] (fun v B=>∃ (V0_ : Option Addr) (v0_ : Nat) (_ : dZ ag V0_ 15 r.1 r.2 v0_),v = .slice V0_ r.2.toNat v0_∧B = [Buf bE 55 ag af a0.f2]):=by
 refine ai Tryz.func145 rfl rfl ?_
 unfold dk.f at H
 refine aQ (o' (bN (h:=fun u=>ad aV (h:=bC (ao (bj 0 fun s=>ah (ad aE (h:=bD (aT 1) (h:=ad ax (h:=S' aE ?_))))))))))
 refine bD (aT 1) (h:=ad (jq rfl rfl) (h:=ad ax (h:=ad (bV rfl rfl) (h:=ad aE (h:=bD (aT 1) (h:=S' (jq rfl rfl) ?_))))))
 obtain⟨⟨j,o,p⟩,H⟩:=aR H
 refine s' (.slice (cL ag (i64.wrap (a1 * a0.f0)) ((af : Nat) : Int) 15) ((i64.wrap ((i64.wrap (a1 + 1)) * a0.f0)) - (i64.wrap (a1 * a0.f0))).toNat (((af : Nat) : Int).toNat - (i64.wrap (a1 * a0.f0)).toNat)) (dh (l:=0) (m:=(a0.f2.length : Int)) (a:=i64.wrap (a1 * a0.f0)) (b:=i64.wrap ((i64.wrap (a1 + 1)) * a0.f0)) (q:=((af : Nat) : Int)) (dZ.whole (A:=ag) (sz:=15) (xs:=a0.f2) (c:=af) (by omega)) Tryz.underlying24 cl rfl rfl rfl rfl (.inr ⟨_,rfl⟩) (.inr ⟨_,rfl⟩) (.inl ⟨rfl,rfl⟩) j o p) ?_
 have d : dZ ag (cL ag (i64.wrap (a1 * a0.f0)) ((af : Nat) : Int) 15) 15 (0 + (i64.wrap (a1 * a0.f0))) ((i64.wrap ((i64.wrap (a1 + 1)) * a0.f0)) - (i64.wrap (a1 * a0.f0))) (((af : Nat) : Int).toNat - (i64.wrap (a1 * a0.f0)).toNat):=dZ.sub (dZ.whole (A:=ag) (sz:=15) (xs:=a0.f2) (c:=af) (by omega)) j o p (.inl rfl) (Int.le_refl _)
 refine bO (.slice (cL ag (i64.wrap (a1 * a0.f0)) ((af : Nat) : Int) 15) ((i64.wrap ((i64.wrap (a1 + 1)) * a0.f0)) - (i64.wrap (a1 * a0.f0))).toNat (((af : Nat) : Int).toNat - (i64.wrap (a1 * a0.f0)).toNat)) sf (h:=cF ?_)
 have h:=aN H;subst h
 exact er [0] ⟨cL ag (i64.wrap (a1 * a0.f0)) ((af : Nat) : Int) 15,((af : Nat) : Int).toNat - (i64.wrap (a1 * a0.f0)).toNat,d,rfl,rfl⟩


def cu.l1 (a0 : bF) (a1 : Int) (a2 : Int) (a3 : Int) (a4 : cA) (r18 : bF) (x13_24 : Int) (z12_2_24 : (List aZ)) : Nat → Int → (List aZ) → Option ((List aZ))
  | 0,_,_=>none
  | k + 1,a,b=>if b.length = z12_2_24.length then (if a < a0.f0 then ((pN.f a4).bind (fun nv=>lt ((decide (a3 ≥ (i64.wrap (0 - a0.f1)))) && (decide (a3 ≤ a0.f1))) fun l=>lt (l && (decide ((i64.wrap (x13_24 + a3)) ≥ a1))) fun m=>lt (m && (decide ((i64.wrap (x13_24 + a3)) ≤ a2))) fun o=>(if o = true then ((dk.f a0 (i64.wrap (x13_24 + a3))).bind (fun c=>if (0 ≤ c.1∧0 ≤ c.2∧c.1 + c.2 ≤ (a0.f2.length : Int)) then (if 0 ≤ a∧a < c.2 then (some (aZ.mk ((rd a0.f2 (c.1 + a)).f0) ((rd a0.f2 (c.1 + a)).f1) ((rd a0.f2 (c.1 + a)).f2) ((rd a0.f2 (c.1 + a)).f3))) else none) else none)) else (some nv) : Option (aZ)).bind (fun p=>(dk.f (bF.mk r18.f0 r18.f1 b) x13_24).bind (fun d=>if (0 ≤ d.1∧0 ≤ d.2∧d.1 + d.2 ≤ (b.length : Int)) then (if 0 ≤ a∧a < d.2 then (lt (b.set (d.1 + a).toNat p) fun h=>(lt (i64.wrap (a + 1)) fun j=>cu.l1 a0 a1 a2 a3 a4 r18 x13_24 z12_2_24 k j h)) else none) else none)))) else (some b)) else none
def cu.l0 (a0 : bF) (a1 : Int) (a2 : Int) (a3 : Int) (a4 : cA) (r18 : bF) : Nat → Int → (List aZ) → Option ((List aZ))
  | 0,_,_=>none
  | k + 1,b,a=>if a.length = r18.f2.length then (if b ≤ a2 then ((cu.l1 a0 a1 a2 a3 a4 r18 b a k 0 a : Option ((List aZ))).bind (fun c=>if c.length = a.length then (lt (i64.wrap (b + 1)) fun d=>cu.l0 a0 a1 a2 a3 a4 r18 k d c) else none)) else (some a)) else none
def cu.f (k : Nat) (a0 : bF) (a1 : Int) (a2 : Int) (a3 : Int) (a4 : cA) : Option (bF × Int):=(ik.f k a0 a4 a1).bind (fun h=>lt (h || (decide (a2 < a1))) fun c=>lt (c || (decide (a2 ≥ a0.f1))) fun d=>if d = true then (some (((bF.mk 0 0 ([] : (List aZ))),2))) else ((iQ.f a0).bind (fun a=>(cu.l0 a0 a1 a2 a3 a4 a k a1 a.f2 : Option ((List aZ))).bind (fun b=>if b.length = a.f2.length then (some (((bF.mk a.f0 a.f1 b),0))) else none))))
theorem cu.ok {a0 : bF} {a1 : Int} {a2 : Int} {a3 : Int} {a4 : cA} {r : bF × Int} (H : cu.f k a0 a1 a2 a3 a4 = some r) : df Tryz.prog 105 #[.agg #[ae a0.f0,ae a0.f1,.slice ag a0.f2.length af],ae a1,ae a2,ae a3,.agg (bG a4).toArray] [Buf bE 55 ag af a0.f2] (fun v B=>∃ aP aO,v = .tuple #[.agg #[ae r.1.f0,ae r.1.f1,.slice aP r.1.f2.length aO],ae r.2]∧B = [Buf bE 55 aP aO r.1.f2,Buf bE 55 ag af a0.f2]):=by
 refine ai Tryz.func105 rfl rfl ?_
 unfold cu.f at H
 refine aQ (o' (bN (h:=fun z=>o' (bN (h:=fun D=>o' (cy (h:=fun u=>ad aV (h:=bC (ao (ao (bj 0 fun g9=>ah (bD (cG z 0 1 [ae a0.f0,ae a0.f1,.slice ag a0.f2.length af]) (h:=l' (ck 2) ?_)))))))))))))
 refine S' ax ?_
 obtain⟨r9,e0,H⟩:=ac H
 refine o' (da [0] [1,2,3] (ik.ok e0) ?_)
 refine S' ax ?_
 obtain⟨d7,Y,H⟩:=br H
 refine eg 4 [(1,ae a1),(2,ae a2),(3,ae a3),(5,aK z),(9,aK D),(10,aK u),(24,.bool d7)] [Buf bE 55 ag af a0.f2,aL z 26 [ae a0.f0,ae a0.f1,.slice ag a0.f2.length af],aL D 28 (bG a4),aL u 26 [ae 0,ae 0,.slice none 0 0]] ?_ fun junk=>?_
 ·by_cases M : r9 = true
  ·refine cI 3 M (cq M (h:=aj ?_))
   have x_:=jL Y M;exact bM [0,1,2,3]
  refine bn (aX M) ax (h:=bn (aX M) ax (h:=bn (aX M) (cn rfl rfl) (h:=cv (aX M) (h:=aj ?_))))
  have x_:=jN Y ((aX M));exact bM [0,1,2,3]
 refine S' ax ?_
 obtain⟨f4,Z,H⟩:=br H
 refine cD 5 (St [(1,ae a1),(2,ae a2),(3,ae a3),(5,aK z),(9,aK D),(10,aK u),(30,.bool f4)] [Buf bE 55 ag af a0.f2,aL z 26 [ae a0.f0,ae a0.f1,.slice ag a0.f2.length af],aL D 28 (bG a4),aL u 26 [ae 0,ae 0,.slice none 0 0]]) ?_ ?_
 ·by_cases J : d7 = true
  ·refine cI 4 J (cq J (h:=aj ?_))
   have x_:=jL Z J;exact bM [0,1,2,3]
  refine bn (aX J) ax (h:=bn (aX J) aE (h:=dc (aX J) (aT 1) (h:=bn (aX J) (dI rfl rfl) (h:=cv (aX J) (h:=aj ?_)))))
  have x_:=jN Z ((aX J));exact bM [0,1,2,3]
 rintro e ds As c9
 refine bC (SA.of_St c9 fun junk=>?_)
 rcases bH H with⟨a5,H⟩|⟨a5,H⟩
 ·refine aC rfl a5 (aQ (bO (.agg #[ae 0,ae 0,.slice none 0 0]) dA (h:=o' (bg u 0 3 [ae 0,ae 0,.slice none 0 0] (h:=ad aV (h:=cE ?_))))))
  have h:=aN H;subst h
  exact lT [.cell 10 26,.tmp 11] ((Gh.nilBuf bE 55).trans (eY [4,0])) ⟨none,0,rfl,rfl⟩ ⟨cR 3,cP,trivial⟩
 refine aD rfl a5 (ap (aa (aQ (l' (cG z 0 1 [ae a0.f0,ae a0.f1,.slice ag a0.f2.length af]) ?_))))
 obtain⟨c,e1,H⟩:=ac H
 refine o' (gu [0] [1,2,3] (iQ.ok e1) fun d o=>?_)
 refine o' (cy (h:=fun q=>o' (bg q 0 5 [ae c.f0,ae c.f1,.slice d c.f2.length o] (h:=eJ (ad ax (h:=ad aV (h:=bC ?_)))))))
 obtain⟨N,H,a6⟩:=ac H
 refine bI (St [(10,aK u),(12,aK q)] [Buf bE 55 ag af a0.f2,aL u 26 [ae 0,ae 0,.slice none 0 0],aL q 26 [ae c.f0,ae c.f1,.slice d N.length o],Buf bE 55 d o N]) ?_ ?_
 ·refine aU (cw (fun k_ e ds As=>∃ (p : Int) (s : (List aZ)),cu.l0 a0 a1 a2 a3 a4 c k_ p s = some N∧St [(1,ae a1),(2,ae a2),(3,ae a3),(5,aK z),(9,aK D),(10,aK u),(12,aK q),(13,ae p)] [Buf bE 55 ag af a0.f2,aL z 26 [ae a0.f0,ae a0.f1,.slice ag a0.f2.length af],aL D 28 (bG a4),aL u 26 [ae 0,ae 0,.slice none 0 0],aL q 26 [ae c.f0,ae c.f1,.slice d s.length o],Buf bE 55 d o s] e ds As) (k:=k) ⟨_,_,H,kW [1,2,3,4,5,0]⟩ ?_)
  clear H
  rintro O e ds As ⟨p,s,H,d0⟩
  obtain _ | O:=O
  ·cases H
  rw [cu.l0] at H
  obtain⟨g1,H⟩:=aR H
  refine SA.of_St d0 fun junk=>ao (aQ (ad ax (h:=ad ax (h:=ad (fV rfl rfl) (h:=bC ?_)))))
  rcases bH H with⟨a7,H⟩|⟨a7,H⟩
  ·refine aB rfl a7 (ap (aa (ao (aU (aQ (ad aV (h:=bC ?_)))))))
   obtain⟨a8,H,a9⟩:=ac H
   refine bI (St [(1,ae a1),(2,ae a2),(3,ae a3),(5,aK z),(9,aK D),(10,aK u),(12,aK q),(13,ae p)] [Buf bE 55 ag af a0.f2,aL z 26 [ae a0.f0,ae a0.f1,.slice ag a0.f2.length af],aL D 28 (bG a4),aL u 26 [ae 0,ae 0,.slice none 0 0],aL q 26 [ae c.f0,ae c.f1,.slice d a8.length o],Buf bE 55 d o a8]) ?_ ?_
   ·refine aU (cw (fun k_ e ds As=>∃ (a : Int) (b : (List aZ)),cu.l1 a0 a1 a2 a3 a4 c p s k_ a b = some a8∧St [(1,ae a1),(2,ae a2),(3,ae a3),(5,aK z),(9,aK D),(10,aK u),(12,aK q),(13,ae p),(14,ae a)] [Buf bE 55 ag af a0.f2,aL z 26 [ae a0.f0,ae a0.f1,.slice ag a0.f2.length af],aL D 28 (bG a4),aL u 26 [ae 0,ae 0,.slice none 0 0],aL q 26 [ae c.f0,ae c.f1,.slice d b.length o],Buf bE 55 d o b] e ds As) (k:=O) ⟨_,_,H,kW [0,1,2,3,4,5]⟩ ?_)
    clear H
    rintro b0 e ds As ⟨a,b,H,d1⟩
    obtain _ | b0:=b0
    ·cases H
    rw [cu.l1] at H
    obtain⟨g2,H⟩:=aR H
    refine SA.of_St d1 fun junk=>ao (aQ (ad ax (h:=ad aE (h:=bD (aT 1) (h:=ad (cn rfl rfl) (h:=bC ?_))))))
    rcases bH H with⟨b1,H⟩|⟨b1,H⟩
    ·refine aB rfl b1 (ap (aa (ao (aU (aQ (l' (ck 2) ?_))))))
     obtain⟨nv,e2,H⟩:=ac H
     refine o' (da [] [0,1,2,3,4,5] (pN.ok e2) ?_)
     refine o' (cy (h:=fun E=>o' (bg E 0 6 (bR nv) (h:=eJ (ad ax (h:=ad aE (h:=bD (aT 1) (h:=bO (ae (i64.wrap (0 - a0.f1))) (ms rfl) (h:=ad (dI rfl rfl) (h:=S' ax ?_))))))))))
     obtain⟨d8,b3,H⟩:=br H
     refine eg 5 [(1,ae a1),(2,ae a2),(3,ae a3),(5,aK z),(9,aK D),(10,aK u),(12,aK q),(13,ae p),(14,ae a),(15,aK E),(58,.bool d8)] [Buf bE 55 ag af a0.f2,aL z 26 [ae a0.f0,ae a0.f1,.slice ag a0.f2.length af],aL D 28 (bG a4),aL u 26 [ae 0,ae 0,.slice none 0 0],aL q 26 [ae c.f0,ae c.f1,.slice d b.length o],Buf bE 55 d o b,aL E 55 (bR nv)] ?_ fun junk=>?_
     ·by_cases K : a3 ≥ (i64.wrap (0 - a0.f1))
      ·refine bn (ak K) ax (h:=bn (ak K) aE (h:=dc (ak K) (aT 1) (h:=bn (ak K) (fV rfl rfl) (h:=cq (ak K) (h:=aj ?_)))))
       have x_:=gD b3 ((ak K));exact bM [0,1,2,3,4,5,6]
      refine cI 4 (am K) (cv (am K) (h:=aj ?_))
      have x_:=gC b3 ((am K));exact bM [0,1,2,3,4,5,6]
     refine S' ax ?_
     obtain⟨d9,b5,H⟩:=br H
     refine eg 6 [(1,ae a1),(2,ae a2),(3,ae a3),(5,aK z),(9,aK D),(10,aK u),(12,aK q),(13,ae p),(14,ae a),(15,aK E),(65,.bool d9)] [Buf bE 55 ag af a0.f2,aL z 26 [ae a0.f0,ae a0.f1,.slice ag a0.f2.length af],aL D 28 (bG a4),aL u 26 [ae 0,ae 0,.slice none 0 0],aL q 26 [ae c.f0,ae c.f1,.slice d b.length o],Buf bE 55 d o b,aL E 55 (bR nv)] ?_ fun junk=>?_
     ·by_cases F : d8 = true
      ·refine bn F ax (h:=bn F ax (h:=bn F (bV rfl rfl) (h:=bn F ax (h:=bn F (dI rfl rfl) (h:=cq F (h:=aj ?_))))))
       have x_:=gD b5 F;exact bM [0,1,2,3,4,5,6]
      refine cI 5 (aX F) (cv (aX F) (h:=aj ?_))
      have x_:=gC b5 ((aX F));exact bM [0,1,2,3,4,5,6]
     refine S' ax ?_
     obtain⟨f5,b7,H⟩:=br H
     refine cD 6 (St [(1,ae a1),(2,ae a2),(3,ae a3),(5,aK z),(9,aK D),(10,aK u),(12,aK q),(13,ae p),(14,ae a),(15,aK E),(72,.bool f5)] [Buf bE 55 ag af a0.f2,aL z 26 [ae a0.f0,ae a0.f1,.slice ag a0.f2.length af],aL D 28 (bG a4),aL u 26 [ae 0,ae 0,.slice none 0 0],aL q 26 [ae c.f0,ae c.f1,.slice d b.length o],Buf bE 55 d o b,aL E 55 (bR nv)]) ?_ ?_
     ·by_cases I : d9 = true
      ·refine bn I ax (h:=bn I ax (h:=bn I (bV rfl rfl) (h:=bn I ax (h:=bn I (fV rfl rfl) (h:=cq I (h:=aj ?_))))))
       have x_:=gD b7 I;exact bM [0,1,2,3,4,5,6]
      refine cI 5 (aX I) (cv (aX I) (h:=aj ?_))
      have x_:=gC b7 ((aX I));exact bM [0,1,2,3,4,5,6]
     rintro e ds As d2
     refine bC (SA.of_St d2 fun junk=>?_)
     obtain⟨R,H,b8⟩:=ac H
     refine bI (fun e ds As=>∃ (S : Nat),St [(1,ae a1),(2,ae a2),(3,ae a3),(5,aK z),(9,aK D),(10,aK u),(12,aK q),(13,ae p),(14,ae a),(15,aK S)] [aL S 55 (bR R),Buf bE 55 ag af a0.f2,aL z 26 [ae a0.f0,ae a0.f1,.slice ag a0.f2.length af],aL D 28 (bG a4),aL u 26 [ae 0,ae 0,.slice none 0 0],aL q 26 [ae c.f0,ae c.f1,.slice d b.length o],Buf bE 55 d o b] e ds As) ?_ ?_
     ·rcases bH H with⟨b9,H⟩|⟨b9,H⟩
      ·refine aC rfl b9 (bj 5 fun g5=>ah (bD (cG z 0 1 [ae a0.f0,ae a0.f1,.slice ag a0.f2.length af]) (h:=ad ax (h:=ad ax (h:=S' (bV rfl rfl) ?_)))))
       obtain⟨y,f6,H⟩:=ac H
       obtain⟨⟨hl52a,hl52b,hl52c⟩,H⟩:=aR H
       refine o' (mC [0] [1,2,3,4,5,6] (dk.ok f6) ?_)
       rintro _ _⟨h0,h1,e3,rfl,rfl⟩
       refine S' ax ?_
       obtain⟨⟨f7,f8⟩,H⟩:=aR H
       have f9 : 0 ≤ y.1 + a:=by omega
       have g0 : y.1 + a < (a0.f2.length : Int):=by omega
       refine bD (eI (l:=y.1) (m:=y.2) (i:=a) (sz:=15) e3 Tryz.underlying24 cl rfl rfl (Src.buf (k:=0) rfl) f7 f8 (by omega)) (h:=bD (cj (enc:=di) (i:=y.1 + a) (j:=(y.1 + a).toNat * 15) (m:=0) (sz:=15) (vs:=(bR (aZ.mk ((rd a0.f2 (y.1 + a)).f0) ((rd a0.f2 (y.1 + a)).f1) ((rd a0.f2 (y.1 + a)).f2) ((rd a0.f2 (y.1 + a)).f3)))) Tryz.underlying55 rfl cl rfl rfl rfl (Src.buf (k:=0) rfl) f9 g0 (fun _ _ h=>h) rfl) (h:=o' (bg E 0 6 (bR (aZ.mk ((rd a0.f2 (y.1 + a)).f0) ((rd a0.f2 (y.1 + a)).f1) ((rd a0.f2 (y.1 + a)).f2) ((rd a0.f2 (y.1 + a)).f3))) (h:=aj ?_))))
       have h:=aN H;subst h
       exact aa ⟨E,ed [6,0,1,2,3,4,5]⟩
      refine aD rfl b9 (ap ?_)
      have h:=aN H;subst h
      exact aa ⟨E,ed [6,0,1,2,3,4,5]⟩
     rintro e ds As ⟨S,d3⟩
     clear H
     have H:=b8
     clear b8
     refine aa (SA.of_St d3 fun junk=>bj 6 fun g6=>?_)
     refine fN [0,1,3,4,5] #[[],[],[0,1],[],[],[0,1,3,4],[0,1,3,4,5]] [aL S 55 (bR R),aL q 26 [ae c.f0,ae c.f1,.slice d b.length o],Buf bE 55 d o b] jy (bP.inb (bP.thn (bP.thn (bP.inb (bP.thn (bP.inb (bP.thn (bP.thn (bP.inb (bP.thn (bP.thn bP.body))))))))))) fun I0 h3 w0 pk=>?_
     refine gY 0 [0,5,6] rfl (cG q 0 1 [ae c.f0,ae c.f1,.slice d b.length o]) (h:=eb (ae p) 1 [0,5,6] rfl fM (h:=eb (ae a) 3 [0,5,6] rfl fM (h:=sA 4 [0,5,6] rfl (ck 0) ?_)))
     obtain⟨L,e4,H⟩:=ac H
     obtain⟨⟨hl184a,hl184b,hl184c⟩,H⟩:=aR H
     refine eU 2 (by kernel_rfl) rfl (.no rfl) (mC [6] [0,1,2,3,4,5] (dk.ok e4) ?_)
     rintro _ _⟨g7,g8,d4,rfl,rfl⟩
     refine ⟨fun _=>⟨[1,6,0],rfl,rfl⟩,?_⟩
     obtain⟨⟨e5,e6⟩,H⟩:=aR H
     have e7 : 0 ≤ L.1 + a:=by omega
     have e8 : L.1 + a < (b.length : Int):=by omega
     refine sA 5 [1,6,0] rfl (eI (l:=L.1) (m:=L.2) (i:=a) (sz:=15) d4 Tryz.underlying24 cl rfl rfl (Src.buf (k:=2) rfl) e5 e6 (by omega)) ?_
     obtain⟨e9,U,H⟩:=br H
     have hl_n420 : e9.length = b.length:=by rw [U]; exact List.length_set
     refine eU 6 (by kernel_rfl) rfl (.no rfl) (iB (k:=0) (i:=L.1 + a) (j:=(L.1 + a).toNat * 15) (m:=0) (sz:=15) (xs:=b) (vs:=(bR R)) R rfl rfl rfl rfl rfl rfl rfl rfl cl e7 e8 rfl (fun _ _ h_=>by subst h_; rfl) ?_)
     rewrite [← U]
     try unfold bG
     try rewrite [← hl_n420]
     refine ⟨fun h_=>absurd h_ (by decide),?_⟩
     refine aH (by kernel_rfl) (aF (aa (ah (ad ax (h:=S' (bV rfl rfl) ?_)))))
     obtain⟨c5,d5,H⟩:=br H
     refine bO (ae c5) (bz (v:=ae c5) (congrArg (Value.int .i64) d5.symm)) (h:=aj ?_)
     exact aa ⟨b0,Nat.lt_succ_self _,_,_,H,ed [2,3,4,5,6,0]⟩
    refine aA rfl b1 (ct (bc (bc (cr ?_))))
    have h:=aN H;subst h
    exact bM [0,1,2,3,4,5]
   rintro e ds As c6
   clear H
   have H:=a9
   clear a9
   obtain⟨g3,H⟩:=aR H
   refine aF (aa (SA.of_St c6 fun junk=>ah (ad ax (h:=S' (bV rfl rfl) ?_))))
   obtain⟨c7,d6,H⟩:=br H
   refine bO (ae c7) (bz (v:=ae c7) (congrArg (Value.int .i64) d6.symm)) (h:=aj ?_)
   exact aa ⟨O,Nat.lt_succ_self _,_,_,H,ed [0,1,2,3,4,5]⟩
  refine aA rfl a7 (ct (bc (bc (cr ?_))))
  have h:=aN H;subst h
  exact bM [0,3,4,5]
 rintro e ds As c8
 clear H
 have H:=a6
 clear a6
 obtain⟨g4,H⟩:=aR H
 refine aa (SA.of_St c8 fun junk=>aQ (bD (cG q 0 2 [ae c.f0,ae c.f1,.slice d N.length o]) (h:=o' (bg u 0 1 [ae c.f0,ae c.f1,.slice d N.length o] (h:=ad aV (h:=cF ?_))))))
 have h:=aN H;subst h
 exact dt [.cell 10 26,.tmp 11] [3,0] ⟨d,o,rfl,rfl⟩ ⟨cR 1,cP,trivial⟩

end Go.Proofs.YtckilbegmbaeeaaGreat.Z3

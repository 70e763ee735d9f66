/- What functions compute, and that they do: 110, 140b0, 141, 142, 99. -/
import Derived.Test.YtckilbegmbaeeaaGreatZ31
namespace Go.Proofs.YtckilbegmbaeeaaGreat.Z3
open Go Go.RowKit Go.Proofs.YtckilbegmbaeeaaGreat.SL
open Go.IntKind (i64)
set_option linter.unusedVariables false
set_option maxHeartbeats 20000000
set_option maxRecDepth 100000
set_option linter.unusedSimpArgs false
attribute [local irreducible] IntKind.wrap cC dO eX gp gl lH fU cN gm rd sub bytesOf eG cL
variable {k : Nat}
def rj.f  : Option ((List bS)):=some ((((bS.mk 768 879)::(bS.mk 1155 1161)::(bS.mk 1425 1469)::(bS.mk 1471 1471)::(bS.mk 1473 1474)::(bS.mk 1552 1562)::(bS.mk 1611 1631)::(bS.mk 1750 1756)::(bS.mk 2304 2306)::(bS.mk 2364 2364)::(bS.mk 2369 2376)::(bS.mk 2381 2381)::(bS.mk 3633 3633)::(bS.mk 3636 3642)::(bS.mk 6832 6911)::(bS.mk 7616 7679)::(bS.mk 8203 8207)::(bS.mk 8234 8238)::(bS.mk 8288 8292)::(bS.mk 8400 8447)::(bS.mk 12330 12333)::(bS.mk 12441 12442)::(bS.mk 65024 65039)::(bS.mk 65056 65071)::(bS.mk 65279 65279)::(bS.mk 917760 917999)::[]) : (List bS)))
theorem rj.ok  {r : (List bS)} (H : rj.f  = some r) : df Tryz.prog 141 #[] [] (fun v B=>∃ aP aO,v = .slice aP r.length aO∧B = [Buf qB 151 aP aO r]):=by
 refine ai Tryz.func141 rfl rfl ?_
 unfold rj.f at H
 refine aQ (ad aV (h:=cV (bO (.agg #[aJ 768,aJ 879]) dA (h:=bO (.agg #[aJ 1155,aJ 1161]) dA (h:=bO (.agg #[aJ 1425,aJ 1469]) dA (h:=bO (.agg #[aJ 1471,aJ 1471]) dA (h:=bO (.agg #[aJ 1473,aJ 1474]) dA (h:=bO (.agg #[aJ 1552,aJ 1562]) dA (h:=s' (.agg #[aJ 1611,aJ 1631]) dA ?_)))))))))
 refine bO (.agg #[aJ 1750,aJ 1756]) dA (h:=bO (.agg #[aJ 2304,aJ 2306]) dA (h:=bO (.agg #[aJ 2364,aJ 2364]) dA (h:=bO (.agg #[aJ 2369,aJ 2376]) dA (h:=bO (.agg #[aJ 2381,aJ 2381]) dA (h:=bO (.agg #[aJ 3633,aJ 3633]) dA (h:=bO (.agg #[aJ 3636,aJ 3642]) dA (h:=bO (.agg #[aJ 6832,aJ 6911]) dA (h:=bO (.agg #[aJ 7616,aJ 7679]) dA (h:=s' (.agg #[aJ 8203,aJ 8207]) dA ?_)))))))))
 refine bO (.agg #[aJ 8234,aJ 8238]) dA (h:=bO (.agg #[aJ 8288,aJ 8292]) dA (h:=bO (.agg #[aJ 8400,aJ 8447]) dA (h:=bO (.agg #[aJ 12330,aJ 12333]) dA (h:=bO (.agg #[aJ 12441,aJ 12442]) dA (h:=bO (.agg #[aJ 65024,aJ 65039]) dA (h:=bO (.agg #[aJ 65056,aJ 65071]) dA (h:=bO (.agg #[aJ 65279,aJ 65279]) dA (h:=bO (.agg #[aJ 917760,aJ 917999]) dA (h:=o' (hU (kd:=qB) (zv:=(.agg #[aJ 0,aJ 0])) (sz:=2) (cells:=(aJ 768::aJ 879::aJ 1155::aJ 1161::aJ 1425::aJ 1469::aJ 1471::aJ 1471::aJ 1473::aJ 1474::aJ 1552::aJ 1562::aJ 1611::aJ 1631::aJ 1750::aJ 1756::aJ 2304::aJ 2306::aJ 2364::aJ 2364::aJ 2369::aJ 2376::aJ 2381::aJ 2381::aJ 3633::aJ 3633::aJ 3636::aJ 3642::aJ 6832::aJ 6911::aJ 7616::aJ 7679::aJ 8203::aJ 8207::aJ 8234::aJ 8238::aJ 8288::aJ 8292::aJ 8400::aJ 8447::aJ 12330::aJ 12333::aJ 12441::aJ 12442::aJ 65024::aJ 65039::aJ 65056::aJ 65071::aJ 65279::aJ 65279::aJ 917760::aJ 917999::[])) (xs:=(((bS.mk 768 879)::(bS.mk 1155 1161)::(bS.mk 1425 1469)::(bS.mk 1471 1471)::(bS.mk 1473 1474)::(bS.mk 1552 1562)::(bS.mk 1611 1631)::(bS.mk 1750 1756)::(bS.mk 2304 2306)::(bS.mk 2364 2364)::(bS.mk 2369 2376)::(bS.mk 2381 2381)::(bS.mk 3633 3633)::(bS.mk 3636 3642)::(bS.mk 6832 6911)::(bS.mk 7616 7679)::(bS.mk 8203 8207)::(bS.mk 8234 8238)::(bS.mk 8288 8292)::(bS.mk 8400 8447)::(bS.mk 12330 12333)::(bS.mk 12441 12442)::(bS.mk 65024 65039)::(bS.mk 65056 65071)::(bS.mk 65279 65279)::(bS.mk 917760 917999)::[]) : (List bS))) rfl Tryz.underlying132 pK sn rfl rfl rfl (by kernel_rfl) rfl rfl (dL mP (fun _ _=>rfl) (by kernel_rfl)) fun a=>?_))))))))))
 refine ad aV (h:=cF ?_)
 have h:=aN H;subst h
 exact er [0] ⟨some ⟨a,0,none⟩,26,rfl,rfl⟩


def gf.l0 (l0 : (List bS)) (a1 : Int) : Nat → Int → Option (Out (Bool) (Unit))
  | 0,_=>none
  | k + 1,a=>if a < (l0.length : Int) then (if 0 ≤ a∧a < (l0.length : Int) then ((if a1 ≥ ((rd l0 a).f0) then (if 0 ≤ a∧a < (l0.length : Int) then (some (decide (a1 ≤ ((rd l0 a).f1)))) else none) else (some false) : Option Bool).bind (fun b=>if b = true then (some (Out.ret (true))) else (lt (i64.wrap (a + 1)) fun n15=>gf.l0 l0 a1 k n15))) else none) else (some (Out.go ()))
def gf.f (k : Nat) (l0 : (List bS)) (a1 : Int) : Option (Bool):=(gf.l0 l0 a1 k 0 : Option (Out (Bool) (Unit))).bind (fun a=>Out.el a (fun r_=>some r_) (fun b=>some (false)))
theorem gf.ok {l0 : (List bS)} {a1 : Int} {A0 : Option Addr} {c0 : Nat} {r : Bool} (H : gf.f k l0 a1 = some r) : fK Tryz.prog 140 #[.slice A0 l0.length c0,aJ a1] [Buf qB 151 A0 c0 l0] (.bool r):=by
 refine ai Tryz.func140 rfl rfl ?_
 unfold gf.f at H
 refine aQ (ad aV (h:=eJ (ad aV (h:=bC ?_))))
 obtain⟨D,H,c⟩:=ac H
 refine bI (fun e ds As=>∃ (E : Unit),D = Out.go E∧St [] [Buf qB 151 A0 c0 l0] e ds As) ?_ ?_
 ·refine aU (cw (fun k_ e ds As=>∃ (a : Int),gf.l0 l0 a1 k_ a = some D∧St [(0,.slice A0 l0.length c0),(1,aJ a1),(5,ae a)] [Buf qB 151 A0 c0 l0] e ds As) (k:=k) ⟨_,H,kW [0]⟩ ?_)
  clear H
  rintro u e ds As ⟨a,H,y⟩
  obtain _ | u:=u
  ·cases H
  rw [gf.l0] at H
  refine SA.of_St y fun junk=>ao (aQ (ad ax (h:=ad ax (h:=bO (ae (l0.length : Int)) (dB Tryz.underlying132 rfl) (h:=ad (cn rfl rfl) (h:=bC ?_))))))
  rcases bH H with⟨z,H⟩|⟨z,H⟩
  ·refine aB rfl z (ap (aa (ao (aU (aQ (ad ax (h:=ad ax (h:=S' ax ?_))))))))
   obtain⟨⟨F,I⟩,H⟩:=aR H
   refine bD (bK (i:=a) Tryz.underlying132 sn rfl rfl (Src.buf (k:=0) rfl) F I) (h:=bO (.pointer (some ((el A0 (a.toNat * 2)).add 0))) (mL (el A0 (a.toNat * 2)) 0 0) (h:=bD (bQ (enc:=mP) (i:=a) (j:=a.toNat * 2) (m:=0) (sz:=2) Tryz.underlying21 rfl rfl rfl rfl (Src.buf (k:=0) rfl) F I (fun _ _ h=>h) rfl) (h:=ad (dI rfl rfl) (h:=S' ax ?_))))
   obtain⟨J,H,p⟩:=ac H
   refine cD 8 (St [(0,.slice A0 l0.length c0),(1,aJ a1),(5,ae a),(27,.bool J)] [Buf qB 151 A0 c0 l0]) ?_ ?_
   ·rcases bH H with⟨b,H⟩|⟨b,H⟩
    ·refine bn (ak b) ax (h:=bn (ak b) ax (h:=Y' (ak b) ax ?_))
     obtain⟨⟨q,s⟩,H⟩:=aR H
     refine dc (ak b) (bK (i:=a) Tryz.underlying132 sn rfl rfl (Src.buf (k:=0) rfl) q s) (h:=kQ (ak b) (.pointer (some ((el A0 (a.toNat * 2)).add 1))) (mL (el A0 (a.toNat * 2)) 0 1) (h:=dc (ak b) (bQ (enc:=mP) (i:=a) (j:=a.toNat * 2) (m:=1) (sz:=2) Tryz.underlying21 rfl rfl rfl rfl (Src.buf (k:=0) rfl) q s (fun _ _ h=>h) rfl) (h:=bn (ak b) (fV rfl rfl) (h:=ii (ak b) ?_))))
     have h:=aN H;subst h
     exact dV [0]
    refine cI 7 (am b) (gL (am b) ?_)
    have h:=aN H;subst h
    exact dV [0]
   rintro e ds As l
   clear H
   have H:=p
   clear p
   refine bC (SA.of_St l fun junk=>?_)
   rcases bH H with⟨d,H⟩|⟨d,H⟩
   ·refine aC rfl d (aQ (ad aV (h:=cF (bi (aI (aI (bi (aI (aI ?_)))))))))
    have h:=aN H;subst h
    have hb_:=dS c
    have hr_:=Option.some.inj hb_
    clear hb_
    subst hr_
    exact er [0] ⟨rfl,rfl⟩
   refine aD rfl d (ap (aF (aa (ah (ad ax (h:=S' (bV rfl rfl) ?_))))))
   obtain⟨n15,B,H⟩:=br H
   refine bO (ae n15) (bz (v:=ae n15) (congrArg (Value.int .i64) B.symm)) (h:=aj ?_)
   exact aa ⟨u,Nat.lt_succ_self _,_,H,ed [0]⟩
  refine aA rfl z (ct (bc (bc (cr ?_))))
  have h:=aN H;subst h
  exact aa ⟨(),rfl,ed [0]⟩
 rintro e ds As ⟨E,ht,o⟩
 clear H
 subst ht
 replace c:=fW c
 have H:=c
 clear c
 refine aa (SA.of_St o fun junk=>aQ (ad aV (h:=cF ?_)))
 have h:=aN H;subst h
 exact er [0] ⟨rfl,rfl⟩


def rc.f  : Option ((List bS)):=some ((((bS.mk 4352 4447)::(bS.mk 8986 8987)::(bS.mk 9001 9002)::(bS.mk 9193 9196)::(bS.mk 9725 9726)::(bS.mk 9748 9749)::(bS.mk 9800 9811)::(bS.mk 9889 9889)::(bS.mk 9917 9918)::(bS.mk 9989 9989)::(bS.mk 10024 10024)::(bS.mk 10060 10060)::(bS.mk 10067 10069)::(bS.mk 10133 10135)::(bS.mk 11035 11036)::(bS.mk 11088 11088)::(bS.mk 11904 12350)::(bS.mk 12353 13311)::(bS.mk 13312 19903)::(bS.mk 19968 40959)::(bS.mk 40960 42191)::(bS.mk 44032 55203)::(bS.mk 63744 64255)::(bS.mk 65072 65135)::(bS.mk 65281 65376)::(bS.mk 65504 65510)::(bS.mk 127744 127776)::(bS.mk 127789 127797)::(bS.mk 127799 127868)::(bS.mk 128000 128062)::(bS.mk 128064 128064)::(bS.mk 128066 128252)::(bS.mk 128512 128591)::(bS.mk 128640 128709)::(bS.mk 129280 129535)::(bS.mk 131072 196605)::(bS.mk 196608 262141)::[]) : (List bS)))
theorem rc.ok  {r : (List bS)} (H : rc.f  = some r) : df Tryz.prog 142 #[] [] (fun v B=>∃ aP aO,v = .slice aP r.length aO∧B = [Buf qB 151 aP aO r]):=by
 refine ai Tryz.func142 rfl rfl ?_
 unfold rc.f at H
 refine aQ (ad aV (h:=cV (bO (.agg #[aJ 4352,aJ 4447]) dA (h:=bO (.agg #[aJ 8986,aJ 8987]) dA (h:=bO (.agg #[aJ 9001,aJ 9002]) dA (h:=bO (.agg #[aJ 9193,aJ 9196]) dA (h:=bO (.agg #[aJ 9725,aJ 9726]) dA (h:=bO (.agg #[aJ 9748,aJ 9749]) dA (h:=s' (.agg #[aJ 9800,aJ 9811]) dA ?_)))))))))
 refine bO (.agg #[aJ 9889,aJ 9889]) dA (h:=bO (.agg #[aJ 9917,aJ 9918]) dA (h:=bO (.agg #[aJ 9989,aJ 9989]) dA (h:=bO (.agg #[aJ 10024,aJ 10024]) dA (h:=bO (.agg #[aJ 10060,aJ 10060]) dA (h:=bO (.agg #[aJ 10067,aJ 10069]) dA (h:=bO (.agg #[aJ 10133,aJ 10135]) dA (h:=bO (.agg #[aJ 11035,aJ 11036]) dA (h:=bO (.agg #[aJ 11088,aJ 11088]) dA (h:=s' (.agg #[aJ 11904,aJ 12350]) dA ?_)))))))))
 refine bO (.agg #[aJ 12353,aJ 13311]) dA (h:=bO (.agg #[aJ 13312,aJ 19903]) dA (h:=bO (.agg #[aJ 19968,aJ 40959]) dA (h:=bO (.agg #[aJ 40960,aJ 42191]) dA (h:=bO (.agg #[aJ 44032,aJ 55203]) dA (h:=bO (.agg #[aJ 63744,aJ 64255]) dA (h:=bO (.agg #[aJ 65072,aJ 65135]) dA (h:=bO (.agg #[aJ 65281,aJ 65376]) dA (h:=bO (.agg #[aJ 65504,aJ 65510]) dA (h:=s' (.agg #[aJ 127744,aJ 127776]) dA ?_)))))))))
 refine bO (.agg #[aJ 127789,aJ 127797]) dA (h:=bO (.agg #[aJ 127799,aJ 127868]) dA (h:=bO (.agg #[aJ 128000,aJ 128062]) dA (h:=bO (.agg #[aJ 128064,aJ 128064]) dA (h:=bO (.agg #[aJ 128066,aJ 128252]) dA (h:=bO (.agg #[aJ 128512,aJ 128591]) dA (h:=bO (.agg #[aJ 128640,aJ 128709]) dA (h:=bO (.agg #[aJ 129280,aJ 129535]) dA (h:=bO (.agg #[aJ 131072,aJ 196605]) dA (h:=s' (.agg #[aJ 196608,aJ 262141]) dA ?_)))))))))
 refine o' (hU (kd:=qB) (zv:=(.agg #[aJ 0,aJ 0])) (sz:=2) (cells:=(aJ 4352::aJ 4447::aJ 8986::aJ 8987::aJ 9001::aJ 9002::aJ 9193::aJ 9196::aJ 9725::aJ 9726::aJ 9748::aJ 9749::aJ 9800::aJ 9811::aJ 9889::aJ 9889::aJ 9917::aJ 9918::aJ 9989::aJ 9989::aJ 10024::aJ 10024::aJ 10060::aJ 10060::aJ 10067::aJ 10069::aJ 10133::aJ 10135::aJ 11035::aJ 11036::aJ 11088::aJ 11088::aJ 11904::aJ 12350::aJ 12353::aJ 13311::aJ 13312::aJ 19903::aJ 19968::aJ 40959::aJ 40960::aJ 42191::aJ 44032::aJ 55203::aJ 63744::aJ 64255::aJ 65072::aJ 65135::aJ 65281::aJ 65376::aJ 65504::aJ 65510::aJ 127744::aJ 127776::aJ 127789::aJ 127797::aJ 127799::aJ 127868::aJ 128000::aJ 128062::aJ 128064::aJ 128064::aJ 128066::aJ 128252::aJ 128512::aJ 128591::aJ 128640::aJ 128709::aJ 129280::aJ 129535::aJ 131072::aJ 196605::aJ 196608::aJ 262141::[])) (xs:=(((bS.mk 4352 4447)::(bS.mk 8986 8987)::(bS.mk 9001 9002)::(bS.mk 9193 9196)::(bS.mk 9725 9726)::(bS.mk 9748 9749)::(bS.mk 9800 9811)::(bS.mk 9889 9889)::(bS.mk 9917 9918)::(bS.mk 9989 9989)::(bS.mk 10024 10024)::(bS.mk 10060 10060)::(bS.mk 10067 10069)::(bS.mk 10133 10135)::(bS.mk 11035 11036)::(bS.mk 11088 11088)::(bS.mk 11904 12350)::(bS.mk 12353 13311)::(bS.mk 13312 19903)::(bS.mk 19968 40959)::(bS.mk 40960 42191)::(bS.mk 44032 55203)::(bS.mk 63744 64255)::(bS.mk 65072 65135)::(bS.mk 65281 65376)::(bS.mk 65504 65510)::(bS.mk 127744 127776)::(bS.mk 127789 127797)::(bS.mk 127799 127868)::(bS.mk 128000 128062)::(bS.mk 128064 128064)::(bS.mk 128066 128252)::(bS.mk 128512 128591)::(bS.mk 128640 128709)::(bS.mk 129280 129535)::(bS.mk 131072 196605)::(bS.mk 196608 262141)::[]) : (List bS))) rfl Tryz.underlying132 pK sn rfl rfl rfl (by kernel_rfl) rfl rfl (dL mP (fun _ _=>rfl) (by kernel_rfl)) fun a=>ad aV (h:=cF ?_))
 have h:=aN H;subst h
 exact er [0] ⟨some ⟨a,0,none⟩,37,rfl,rfl⟩


def rt.f (k : Nat) (a0 : Int) : Option (Int):=(if a0 < 32 then (some true) else (if a0 ≥ 127 then (some (decide (a0 ≤ 159))) else (some false)) : Option Bool).bind (fun d=>lt (d || (decide (a0 > 1114111))) fun h=>(if h = true then (some true) else (if a0 ≥ 55296 then (some (decide (a0 ≤ 57343))) else (some false)) : Option Bool).bind (fun j=>if j = true then (some ((-1))) else ((rj.f ).bind (fun a=>(gf.f k a a0).bind (fun b=>if b = true then (some (0)) else ((rc.f ).bind (fun wY=>(gf.f k wY a0).bind (fun c=>if c = true then (some (2)) else (some (1))))))))))
theorem rt.ok {a0 : Int} {r : Int} (H : rt.f k a0 = some r) : fK Tryz.prog 99 #[aJ a0] [] (ae r):=by
 refine ai Tryz.func99 rfl rfl ?_
 unfold rt.f at H
 refine aQ (ad aV (h:=eJ (ad ax (h:=ad (cn rfl rfl) (h:=S' ax ?_)))))
 obtain⟨s,H,u⟩:=ac H
 refine eg 7 [(0,aJ a0),(12,.bool s)] [] ?_ fun junk=>?_
 ·rcases bH H with⟨h2,H⟩|⟨h2,H⟩
  ·refine cI 3 (ak h2) (gj (gj (cI 1 (ak h2) (ii (ak h2) ?_))))
   have h:=aN H;subst h
   exact dV []
  refine bn (am h2) ax (h:=bn (am h2) (dI rfl rfl) (h:=Y' (am h2) ax ?_))
  rcases bH H with⟨d,H⟩|⟨d,H⟩
  ·refine bn (ak d) ax (h:=bn (ak d) (fV rfl rfl) (h:=gE (am h2) (dl rfl (bX rfl (ak d) rfl) (gL (am h2) ?_))))
   have h:=aN H;subst h
   exact dV []
  refine cI 2 (am d) (gE (am h2) (dl rfl (bY rfl (am d) rfl) (gL (am h2) ?_)))
  have h:=aN H;subst h
  exact dV []
 replace H:=u
 refine S' ax ?_
 obtain⟨K,p,H⟩:=br H
 refine eg 3 [(0,aJ a0),(16,.bool K)] [] ?_ fun junk=>?_
 ·by_cases c : s = true
  ·refine cI 2 c (cq c (h:=aj ?_))
   have x_:=jL p c;exact bM []
  refine bn (aX c) ax (h:=bn (aX c) (eR rfl rfl) (h:=cv (aX c) (h:=aj ?_)))
  have x_:=jN p ((aX c));exact bM []
 refine S' ax ?_
 obtain⟨L,H,q⟩:=ac H
 refine cD 7 (St [(0,aJ a0),(24,.bool L)] []) ?_ ?_
 ·rcases bH H with⟨a,H⟩|⟨a,H⟩
  ·refine cI 3 a (gj (gj (cI 1 a (ii a ?_))))
   have h:=aN H;subst h
   exact dV []
  refine bn (aX a) ax (h:=bn (aX a) (dI rfl rfl) (h:=Y' (aX a) ax ?_))
  rcases bH H with⟨b,H⟩|⟨b,H⟩
  ·refine bn (ak b) ax (h:=bn (ak b) (fV rfl rfl) (h:=gE (aX a) (dl rfl (bX rfl (ak b) rfl) (gL (aX a) ?_))))
   have h:=aN H;subst h
   exact dV []
  refine cI 2 (am b) (gE (aX a) (dl rfl (bY rfl (am b) rfl) (gL (aX a) ?_)))
  have h:=aN H;subst h
  exact dV []
 rintro e ds As o
 clear H
 have H:=q
 clear q
 refine bC (SA.of_St o fun junk=>?_)
 rcases bH H with⟨j,H⟩|⟨j,H⟩
 ·refine aC rfl j (aQ (ad aV (h:=cE ?_)))
  have h:=aN H;subst h
  exact er [] ⟨rfl,rfl⟩
 refine aD rfl j (ap (aa (ao (aQ ?_))))
 obtain⟨N,y,H⟩:=ac H
 refine o' (gu [] [] (rj.ok y) fun z B=>?_)
 refine S' ax ?_
 obtain⟨O,D,H⟩:=ac H
 refine o' (da [0] [] (gf.ok (A0:=z) (c0:=B) D) ?_)
 refine bC ?_
 rcases bH H with⟨l,H⟩|⟨l,H⟩
 ·refine aC rfl l (aQ (ad aV (h:=cE ?_)))
  have h:=aN H;subst h
  exact er [] ⟨rfl,rfl⟩
 refine aD rfl l (ap (aa (ao (ao (bj 0 fun M=>ah ?_)))))
 obtain⟨wY,E,H⟩:=ac H
 refine o' (gu [] [0] (rc.ok E) fun F I=>?_)
 refine S' ax ?_
 obtain⟨R,J,H⟩:=ac H
 refine o' (da [0] [1] (gf.ok (A0:=F) (c0:=I) J) ?_)
 refine bC ?_
 rcases bH H with⟨m,H⟩|⟨m,H⟩
 ·refine aC rfl m (aQ (ad aV (h:=cE ?_)))
  have h:=aN H;subst h
  exact er [] ⟨rfl,rfl⟩
 refine aD rfl m (ap (aa (aQ (ad aV (h:=cF ?_)))))
 have h:=aN H;subst h
 exact er [] ⟨rfl,rfl⟩


def kU.l0 (a0 : aZ) : Nat → Int → Option (Out (Bool) (Unit))
  | 0,_=>none
  | k + 1,a=>if a < 3 then (if 0 ≤ a∧a < (3 : Int) then (if (rd ([a0.f1.f0,a0.f1.f1,a0.f1.f2] : List Int) a) = 0 then ((if (i64.wrap (a + 1)) < 3 then (if 0 ≤ (i64.wrap (a + 1))∧(i64.wrap (a + 1)) < (3 : Int) then (some (decide ((rd ([a0.f1.f0,a0.f1.f1,a0.f1.f2] : List Int) (i64.wrap (a + 1))) ≠ 0))) else none) else (some false) : Option Bool).bind (fun b=>if b = true then (some (Out.ret (false))) else (lt (i64.wrap (a + 1)) fun c=>kU.l0 a0 k c))) else (if 0 ≤ a∧a < (3 : Int) then ((rt.f k (rd ([a0.f1.f0,a0.f1.f1,a0.f1.f2] : List Int) a)).bind (fun d=>if d ≠ 0 then (some (Out.ret (false))) else (lt (i64.wrap (a + 1)) fun h=>kU.l0 a0 k h))) else none)) else none) else (some (Out.go ()))
def kU.f (k : Nat) (a0 : aZ) : Option (Bool):=(qR.f a0.f3).bind (fun c=>if (!c) = true then (some (false)) else (if a0.f2 = 0 then (lt ((decide (a0.f0 = 0)) && (decide (a0.f1 = (fR.mk 0 0 0)))) fun d=>some (d)) else ((if a0.f2 > 2 then (some true) else ((rt.f k a0.f0).bind (fun a=>some (decide (a ≠ (i64.wrap (a0.f2)))))) : Option (Bool)).bind (fun h=>if h = true then (some (false)) else ((kU.l0 a0 k 0 : Option (Out (Bool) (Unit))).bind (fun b=>Out.el b (fun r_=>some r_) (fun j=>some (true))))))))
theorem kU.ok {a0 : aZ} {r : Bool} (H : kU.f k a0 = some r) : fK Tryz.prog 110 #[.agg (bR a0).toArray] [] (.bool r):=by
 refine ai Tryz.func110 rfl rfl ?_
 unfold kU.f at H
 refine aQ (o' (bN (h:=fun j=>ad aV (h:=eJ (ad aE (h:=l' (cG j 5 0 (bG a0.f3)) ?_))))))
 obtain⟨r3,b0,H⟩:=ac H
 refine o' (da [] [0] (qR.ok b0) ?_)
 refine ad (ca rfl) (h:=bC ?_)
 rcases bH H with⟨h4,H⟩|⟨h4,H⟩
 ·refine aC rfl h4 (aQ (ad aV (h:=cE ?_)))
  have h:=aN H;subst h
  exact er [] ⟨rfl,rfl⟩
 refine aD rfl h4 (ap (aa (ao (aQ (ad aE (h:=bD (aT 0) (h:=ad (bk rfl rfl) (h:=bC ?_))))))))
 rcases bH H with⟨h5,H⟩|⟨h5,H⟩
 ·refine aB rfl h5 (aQ (ad aE (h:=bD (aT 0) (h:=ad (bk rfl rfl) (h:=S' ax ?_)))))
  obtain⟨q6,a8,H⟩:=br H
  refine eg 5 [(19,.bool q6)] [] ?_ fun junk=>?_
  ·by_cases s : a0.f0 = 0
   ·refine bn (ak s) aE (h:=dc (ak s) (cG j 1 0 [aJ a0.f1.f0,aJ a0.f1.f1,aJ a0.f1.f2]) (h:=kQ (ak s) (.agg #[aJ 0,aJ 0,aJ 0]) gB (h:=kQ (ak s) (.bool (decide (a0.f1 = (fR.mk 0 0 0)))) (mb (xs:=[aJ a0.f1.f0,aJ a0.f1.f1,aJ a0.f1.f2]) (ys:=[aJ 0,aJ 0,aJ 0]) (r:=((a0.f1.f0 == 0) && ((a0.f1.f1 == 0) && ((a0.f1.f2 == 0) && true)))) (p:=a0.f1 = (fR.mk 0 0 0)) vC rfl rfl (by kernel_rfl) (vH (x:=a0.f1) (y:=(fR.mk 0 0 0)))) (h:=cq (ak s) (h:=aj ?_)))))
    have x_:=gD a8 ((ak s));exact bM []
   refine cI 4 (am s) (cv (am s) (h:=aj ?_))
   have x_:=gC a8 ((am s));exact bM []
  refine ad aV (h:=cE ?_)
  have h:=aN H;subst h
  exact er [] ⟨rfl,rfl⟩
 refine aA rfl h5 (ap (aa (ao (ao ?_))))
 obtain⟨t9,H,a9⟩:=ac H
 refine bI (St [(1,aK j),(31,.bool t9)] [aL j 55 (bR a0)]) ?_ ?_
 ·refine fk (dG 0 12) [0] [] fun _ _ _ _ _ sH dd pk=>?_
  refine bf 0 rfl sH aE (h:=bT 1 rfl sH (aT 0) (h:=bf 2 rfl sH (eR rfl rfl) (h:=T' 3 rfl sH ax ?_)))
  rcases bH H with⟨c,H⟩|⟨c,H⟩
  ·refine cb 4 rfl (ak c) (cb 5 rfl (ak c) (cb 6 rfl (ak c) (cb 7 rfl (ak c) (cb 8 rfl (ak c) (cb 9 rfl (ak c) (cb 10 rfl (ak c) (bT 11 rfl sH (VR.ofV (bX rfl (ak c) rfl)) (h:=aW dd sH (aH (by kernel_rfl) ?_)))))))))
   have h:=aN H;subst h
   exact bM [0]
  refine du 4 rfl (am c) sH aE (h:=cU 5 rfl (am c) sH (aT 0) (h:=du 7 rfl (am c) sH aE (h:=cU 8 rfl (am c) sH (aT 0) (h:=Bt (ae (i64.wrap (a0.f2))) 9 rfl (am c) sH (jS (T:=5) (by kernel_rfl) Tryz.underlying3 rfl) ?_))))
  obtain⟨b5,b2,H⟩:=ac H
  refine Da 6 rfl dd (am c) (da [] [] (rt.ok b2) ?_)
  refine du 10 rfl (am c) sH (dK rfl rfl) (h:=bT 11 rfl sH (VR.ofV (bY rfl (am c) rfl)) (h:=aW dd sH (aH (by kernel_rfl) ?_)))
  have h:=aN H;subst h
  exact bM [0]
 rintro e ds As K
 clear H
 have H:=a9
 clear a9
 refine aa (SA.of_St K fun junk=>?_)
 rcases bH H with⟨z,H⟩|⟨z,H⟩
 ·refine aC rfl z (aQ (ad aV (h:=cE ?_)))
  have h:=aN H;subst h
  exact er [] ⟨rfl,rfl⟩
 refine aD rfl z (ap (aa (ao (aQ (ad aV (h:=bC ?_))))))
 obtain⟨L,H,l⟩:=ac H
 refine bI (fun e ds As=>∃ (M : Unit),L = Out.go M∧St [] [] e ds As) ?_ ?_
 ·refine aU (cw (fun k_ e ds As=>∃ (a : Int),kU.l0 a0 k_ a = some L∧St [(1,aK j),(3,ae a)] [aL j 55 (bR a0)] e ds As) (k:=k) ⟨_,H,kW [0]⟩ ?_)
  clear H
  rintro u e ds As ⟨a,H,O⟩
  obtain _ | u:=u
  ·cases H
  rw [kU.l0] at H
  refine SA.of_St O fun junk=>ao (aQ (ad ax (h:=ad (cn rfl rfl) (h:=bC ?_))))
  rcases bH H with⟨D,H⟩|⟨D,H⟩
  ·refine aB rfl D (ap (aa (ao (aU (aQ (ad ax (h:=S' aE ?_)))))))
   obtain⟨⟨R,S⟩,H⟩:=aR H
   refine s' (.pointer (some ((⟨j,0,none⟩ : Addr).add (1 + a.toNat * 1 + 0)))) (dM (B:=⟨j,0,none⟩) (m:=1) (o:=1 + a.toNat * 1 + 0) Tryz.underlying53 kP rfl rfl R S rfl) ?_
   refine l' (gT (b:=j) (m:=1 + a.toNat * 1 + 0) (k:=0) (v:=aJ (rd ([a0.f1.f0,a0.f1.f1,a0.f1.f2] : List Int) a)) Tryz.underlying21 rfl rfl rfl (pB (q:=0) (kd:=(Kd.int .i32)) (m0:=1) (N:=3) (sz:=1) (xs:=([a0.f1.f0,a0.f1.f1,a0.f1.f2] : List Int)) (i:=a) (dL (fun x_ : Int=>[Value.int .i32 x_]) (fun _ _=>rfl) (by kernel_rfl) _) rfl rfl R S (fun _ h_=>by rw [h_]; rfl))) ?_
   refine ad (bk rfl rfl) (h:=bC ?_)
   rcases bH H with⟨E,H⟩|⟨E,H⟩
   ·refine aB rfl E (aQ (ad ax (h:=ad (bV rfl rfl) (h:=ad (cn rfl rfl) (h:=S' ax ?_)))))
    obtain⟨b3,H,J⟩:=ac H
    refine cD 7 (St [(1,aK j),(3,ae a),(51,.bool b3)] [aL j 55 (bR a0)]) ?_ ?_
    ·rcases bH H with⟨d,H⟩|⟨d,H⟩
     ·refine bn (ak d) ax (h:=bn (ak d) (bV rfl rfl) (h:=Y' (ak d) aE ?_))
      obtain⟨⟨U,Y⟩,H⟩:=aR H
      refine y' (ak d) (.pointer (some ((⟨j,0,none⟩ : Addr).add (1 + (i64.wrap (a + 1)).toNat * 1 + 0)))) (dM (B:=⟨j,0,none⟩) (m:=1) (o:=1 + (i64.wrap (a + 1)).toNat * 1 + 0) Tryz.underlying53 kP rfl rfl U Y rfl) ?_
      refine z' (ak d) (gT (b:=j) (m:=1 + (i64.wrap (a + 1)).toNat * 1 + 0) (k:=0) (v:=aJ (rd ([a0.f1.f0,a0.f1.f1,a0.f1.f2] : List Int) (i64.wrap (a + 1)))) Tryz.underlying21 rfl rfl rfl (pB (q:=0) (kd:=(Kd.int .i32)) (m0:=1) (N:=3) (sz:=1) (xs:=([a0.f1.f0,a0.f1.f1,a0.f1.f2] : List Int)) (i:=i64.wrap (a + 1)) (dL (fun x_ : Int=>[Value.int .i32 x_]) (fun _ _=>rfl) (by kernel_rfl) _) rfl rfl U Y (fun _ h_=>by rw [h_]; rfl))) ?_
      refine bn (ak d) (dK rfl rfl) (h:=ii (ak d) ?_)
      have h:=aN H;subst h
      exact dV [0]
     refine cI 6 (am d) (gL (am d) ?_)
     have h:=aN H;subst h
     exact dV [0]
    rintro e ds As Z
    clear H
    have H:=J
    clear J
    refine bC (SA.of_St Z fun junk=>?_)
    rcases bH H with⟨F,H⟩|⟨F,H⟩
    ·refine aC rfl F (aQ (ad aV (h:=cF (bi (aI (aI (bi (aI (aI ?_)))))))))
     have h:=aN H;subst h
     have hb_:=dS l
     have hr_:=Option.some.inj hb_
     clear hb_
     subst hr_
     exact er [] ⟨rfl,rfl⟩
    refine aD rfl F (ap (aF (aa (ah (ad ax (h:=S' (bV rfl rfl) ?_))))))
    obtain⟨a1,a6,H⟩:=br H
    refine bO (ae a1) (bz (v:=ae a1) (congrArg (Value.int .i64) a6.symm)) (h:=aj ?_)
    exact aa ⟨u,Nat.lt_succ_self _,_,H,ed [0]⟩
   refine aA rfl E (aQ (ad ax (h:=S' aE ?_)))
   obtain⟨⟨a2,a3⟩,H⟩:=aR H
   refine s' (.pointer (some ((⟨j,0,none⟩ : Addr).add (1 + a.toNat * 1 + 0)))) (dM (B:=⟨j,0,none⟩) (m:=1) (o:=1 + a.toNat * 1 + 0) Tryz.underlying53 kP rfl rfl a2 a3 rfl) ?_
   refine l' (gT (b:=j) (m:=1 + a.toNat * 1 + 0) (k:=0) (v:=aJ (rd ([a0.f1.f0,a0.f1.f1,a0.f1.f2] : List Int) a)) Tryz.underlying21 rfl rfl rfl (pB (q:=0) (kd:=(Kd.int .i32)) (m0:=1) (N:=3) (sz:=1) (xs:=([a0.f1.f0,a0.f1.f1,a0.f1.f2] : List Int)) (i:=a) (dL (fun x_ : Int=>[Value.int .i32 x_]) (fun _ _=>rfl) (by kernel_rfl) _) rfl rfl a2 a3 (fun _ h_=>by rw [h_]; rfl))) ?_
   obtain⟨b6,b4,H⟩:=ac H
   refine o' (da [] [0] (rt.ok b4) ?_)
   refine ad (dK rfl rfl) (h:=bC ?_)
   rcases bH H with⟨I,H⟩|⟨I,H⟩
   ·refine aB rfl I (aQ (ad aV (h:=cF (bi (aI (aI (bi (aI (aI ?_)))))))))
    have h:=aN H;subst h
    have hb_:=dS l
    have hr_:=Option.some.inj hb_
    clear hb_
    subst hr_
    exact er [] ⟨rfl,rfl⟩
   refine aA rfl I (ap (aF (aa (ah (ad ax (h:=S' (bV rfl rfl) ?_))))))
   obtain⟨a4,a7,H⟩:=br H
   refine bO (ae a4) (bz (v:=ae a4) (congrArg (Value.int .i64) a7.symm)) (h:=aj ?_)
   exact aa ⟨u,Nat.lt_succ_self _,_,H,ed [0]⟩
  refine aA rfl D (ct (bc (bc (cr ?_))))
  have h:=aN H;subst h
  exact aa ⟨(),rfl,ed []⟩
 rintro e ds As ⟨M,ht,a5⟩
 clear H
 subst ht
 replace l:=fW l
 have H:=l
 clear l
 refine aa (SA.of_St a5 fun junk=>aQ (ad aV (h:=cF ?_)))
 have h:=aN H;subst h
 exact er [] ⟨rfl,rfl⟩

end Go.Proofs.YtckilbegmbaeeaaGreat.Z3

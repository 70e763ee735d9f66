/- What functions compute, and that they do: 11, 112, 117, 148, 149, 150. -/
import Derived.Test.YtckilbegmbaeeaaGreatZ31
namespace Go.Proofs.YtckilbegmbaeeaaGreat.Z3
open Go Go.RowKit Go.Proofs.YtckilbegmbaeeaaGreat.SL
open Go.IntKind (i64)
set_option linter.unusedVariables false
set_option maxHeartbeats 20000000
set_option maxRecDepth 100000
set_option linter.unusedSimpArgs false
attribute [local irreducible] IntKind.wrap cC dO eX gp gl lH fU cN gm rd sub bytesOf eG cL
variable {k : Nat}
def vV.f (a0 : Int) (a1 : Int) (a2 : Int) : Option (Bool):=lt ((decide (a0 ≥ 1)) && (decide (a1 ≥ 1))) fun b=>lt (b && (decide (a0 ≤ 512))) fun c=>lt (c && (decide (a1 ≤ 512))) fun d=>(if d = true then (if (i64.wrap (a0 * a1)) ≠ 0 then (some (decide (a2 > (i64.wrap ((2000000 : Int).tdiv (i64.wrap (a0 * a1))))))) else none) else (some false) : Option Bool).bind (fun a=>some (a))
theorem vV.ok {a0 : Int} {a1 : Int} {a2 : Int} {r : Bool} (H : vV.f a0 a1 a2 = some r) : fK Tryz.prog 11 #[ae a0,ae a1,ae a2] [] (.bool r):=by
 refine ai Tryz.func11 rfl rfl ?_
 unfold vV.f at H
 refine aQ (ad aV (h:=cV (ad ax (h:=ad (dI rfl rfl) (h:=S' ax ?_)))))
 obtain⟨o,d,H⟩:=br H
 refine eg 3 [(0,ae a0),(1,ae a1),(2,ae a2),(12,.bool o)] [] ?_ fun junk=>?_
 ·by_cases h2 : a0 ≥ 1
  ·refine bn (ak h2) ax (h:=bn (ak h2) (dI rfl rfl) (h:=cq (ak h2) (h:=aj ?_)))
   have x_:=gD d ((ak h2));exact bM []
  refine cI 2 (am h2) (cv (am h2) (h:=aj ?_))
  have x_:=gC d ((am h2));exact bM []
 refine S' ax ?_
 obtain⟨p,j,H⟩:=br H
 refine eg 3 [(0,ae a0),(1,ae a1),(2,ae a2),(16,.bool p)] [] ?_ fun junk=>?_
 ·by_cases b : o = true
  ·refine bn b ax (h:=bn b (fV rfl rfl) (h:=cq b (h:=aj ?_)))
   have x_:=gD j b;exact bM []
  refine cI 2 (aX b) (cv (aX b) (h:=aj ?_))
  have x_:=gC j ((aX b));exact bM []
 refine S' ax ?_
 obtain⟨u,l,H⟩:=br H
 refine eg 3 [(0,ae a0),(1,ae a1),(2,ae a2),(20,.bool u)] [] ?_ fun junk=>?_
 ·by_cases c : p = true
  ·refine bn c ax (h:=bn c (fV rfl rfl) (h:=cq c (h:=aj ?_)))
   have x_:=gD l c;exact bM []
  refine cI 2 (aX c) (cv (aX c) (h:=aj ?_))
  have x_:=gC l ((aX c));exact bM []
 refine S' ax ?_
 obtain⟨q,H,m⟩:=ac H
 refine eg 7 [(28,.bool q)] [] ?_ fun junk=>?_
 ·rcases bH H with⟨a,H⟩|⟨a,H⟩
  ·refine bn a ax (h:=bn a ax (h:=bn a ax (h:=Y' a (jq rfl rfl) ?_)))
   obtain⟨s,H⟩:=aR H
   refine kQ a (ae (i64.wrap ((2000000 : Int).tdiv (i64.wrap (a0 * a1))))) (yj rfl rfl s) (h:=bn a (eR rfl rfl) (h:=ii a ?_))
   have h:=aN H;subst h
   exact dV []
  refine cI 6 (aX a) (gL (aX a) ?_)
  have h:=aN H;subst h
  exact dV []
 replace H:=m
 refine ad aV (h:=cF ?_)
 have h:=aN H;subst h
 exact er [] ⟨rfl,rfl⟩


def qJ.f  : Option ((List aY)):=some ((((aY.mk 4352 4447)::(aY.mk 8986 8987)::(aY.mk 9001 9002)::(aY.mk 9193 9196)::(aY.mk 9725 9726)::(aY.mk 9748 9749)::(aY.mk 9800 9811)::(aY.mk 9889 9889)::(aY.mk 9917 9918)::(aY.mk 9989 9989)::(aY.mk 10024 10024)::(aY.mk 10060 10060)::(aY.mk 10067 10069)::(aY.mk 10133 10135)::(aY.mk 11035 11036)::(aY.mk 11088 11088)::(aY.mk 11904 12350)::(aY.mk 12353 13311)::(aY.mk 13312 19903)::(aY.mk 19968 40959)::(aY.mk 40960 42191)::(aY.mk 44032 55203)::(aY.mk 63744 64255)::(aY.mk 65072 65135)::(aY.mk 65281 65376)::(aY.mk 65504 65510)::(aY.mk 127744 127776)::(aY.mk 127789 127797)::(aY.mk 127799 127868)::(aY.mk 128000 128062)::(aY.mk 128064 128064)::(aY.mk 128066 128252)::(aY.mk 128512 128591)::(aY.mk 128640 128709)::(aY.mk 129280 129535)::(aY.mk 131072 196605)::(aY.mk 196608 262141)::[]) : (List aY)))
theorem qJ.ok  {r : (List aY)} (H : qJ.f  = some r) : fK Tryz.prog 148 #[] [] (.agg (List.flatMap eP ((rd r 0)::(rd r 1)::(rd r 2)::(rd r 3)::(rd r 4)::(rd r 5)::(rd r 6)::(rd r 7)::(rd r 8)::(rd r 9)::(rd r 10)::(rd r 11)::(rd r 12)::(rd r 13)::(rd r 14)::(rd r 15)::(rd r 16)::(rd r 17)::(rd r 18)::(rd r 19)::(rd r 20)::(rd r 21)::(rd r 22)::(rd r 23)::(rd r 24)::(rd r 25)::(rd r 26)::(rd r 27)::(rd r 28)::(rd r 29)::(rd r 30)::(rd r 31)::(rd r 32)::(rd r 33)::(rd r 34)::(rd r 35)::(rd r 36)::[])).toArray):=by
 refine ai Tryz.func148 rfl rfl ?_
 unfold qJ.f at H
 refine aQ (o' (cy (h:=fun a=>cV (bO (.agg #[aJ 4352,aJ 4447]) gB (h:=bO (.agg #[aJ 8986,aJ 8987]) gB (h:=bO (.agg #[aJ 9001,aJ 9002]) gB (h:=bO (.agg #[aJ 9193,aJ 9196]) gB (h:=bO (.agg #[aJ 9725,aJ 9726]) gB (h:=bO (.agg #[aJ 9748,aJ 9749]) gB (h:=s' (.agg #[aJ 9800,aJ 9811]) gB ?_))))))))))
 refine bO (.agg #[aJ 9889,aJ 9889]) gB (h:=bO (.agg #[aJ 9917,aJ 9918]) gB (h:=bO (.agg #[aJ 9989,aJ 9989]) gB (h:=bO (.agg #[aJ 10024,aJ 10024]) gB (h:=bO (.agg #[aJ 10060,aJ 10060]) gB (h:=bO (.agg #[aJ 10067,aJ 10069]) gB (h:=bO (.agg #[aJ 10133,aJ 10135]) gB (h:=bO (.agg #[aJ 11035,aJ 11036]) gB (h:=bO (.agg #[aJ 11088,aJ 11088]) gB (h:=s' (.agg #[aJ 11904,aJ 12350]) gB ?_)))))))))
 refine bO (.agg #[aJ 12353,aJ 13311]) gB (h:=bO (.agg #[aJ 13312,aJ 19903]) gB (h:=bO (.agg #[aJ 19968,aJ 40959]) gB (h:=bO (.agg #[aJ 40960,aJ 42191]) gB (h:=bO (.agg #[aJ 44032,aJ 55203]) gB (h:=bO (.agg #[aJ 63744,aJ 64255]) gB (h:=bO (.agg #[aJ 65072,aJ 65135]) gB (h:=bO (.agg #[aJ 65281,aJ 65376]) gB (h:=bO (.agg #[aJ 65504,aJ 65510]) gB (h:=s' (.agg #[aJ 127744,aJ 127776]) gB ?_)))))))))
 refine bO (.agg #[aJ 127789,aJ 127797]) gB (h:=bO (.agg #[aJ 127799,aJ 127868]) gB (h:=bO (.agg #[aJ 128000,aJ 128062]) gB (h:=bO (.agg #[aJ 128064,aJ 128064]) gB (h:=bO (.agg #[aJ 128066,aJ 128252]) gB (h:=bO (.agg #[aJ 128512,aJ 128591]) gB (h:=bO (.agg #[aJ 128640,aJ 128709]) gB (h:=bO (.agg #[aJ 129280,aJ 129535]) gB (h:=bO (.agg #[aJ 131072,aJ 196605]) gB (h:=s' (.agg #[aJ 196608,aJ 262141]) gB ?_)))))))))
 refine bO (.agg (List.toArray (aJ 4352::aJ 4447::aJ 8986::aJ 8987::aJ 9001::aJ 9002::aJ 9193::aJ 9196::aJ 9725::aJ 9726::aJ 9748::aJ 9749::aJ 9800::aJ 9811::aJ 9889::aJ 9889::aJ 9917::aJ 9918::aJ 9989::aJ 9989::aJ 10024::aJ 10024::aJ 10060::aJ 10060::aJ 10067::aJ 10069::aJ 10133::aJ 10135::aJ 11035::aJ 11036::aJ 11088::aJ 11088::aJ 11904::aJ 12350::aJ 12353::aJ 13311::aJ 13312::aJ 19903::aJ 19968::aJ 40959::aJ 40960::aJ 42191::aJ 44032::aJ 55203::aJ 63744::aJ 64255::aJ 65072::aJ 65135::aJ 65281::aJ 65376::aJ 65504::aJ 65510::aJ 127744::aJ 127776::aJ 127789::aJ 127797::aJ 127799::aJ 127868::aJ 128000::aJ 128062::aJ 128064::aJ 128064::aJ 128066::aJ 128252::aJ 128512::aJ 128591::aJ 128640::aJ 128709::aJ 129280::aJ 129535::aJ 131072::aJ 196605::aJ 196608::aJ 262141::[]))) gB (h:=o' (oV (b:=a) (m:=0) (k:=0) (vs:=(List.flatMap eP ((aY.mk 4352 4447)::(aY.mk 8986 8987)::(aY.mk 9001 9002)::(aY.mk 9193 9196)::(aY.mk 9725 9726)::(aY.mk 9748 9749)::(aY.mk 9800 9811)::(aY.mk 9889 9889)::(aY.mk 9917 9918)::(aY.mk 9989 9989)::(aY.mk 10024 10024)::(aY.mk 10060 10060)::(aY.mk 10067 10069)::(aY.mk 10133 10135)::(aY.mk 11035 11036)::(aY.mk 11088 11088)::(aY.mk 11904 12350)::(aY.mk 12353 13311)::(aY.mk 13312 19903)::(aY.mk 19968 40959)::(aY.mk 40960 42191)::(aY.mk 44032 55203)::(aY.mk 63744 64255)::(aY.mk 65072 65135)::(aY.mk 65281 65376)::(aY.mk 65504 65510)::(aY.mk 127744 127776)::(aY.mk 127789 127797)::(aY.mk 127799 127868)::(aY.mk 128000 128062)::(aY.mk 128064 128064)::(aY.mk 128066 128252)::(aY.mk 128512 128591)::(aY.mk 128640 128709)::(aY.mk 129280 129535)::(aY.mk 131072 196605)::(aY.mk 196608 262141)::[]))) (cs':=(List.flatMap eP ((aY.mk 4352 4447)::(aY.mk 8986 8987)::(aY.mk 9001 9002)::(aY.mk 9193 9196)::(aY.mk 9725 9726)::(aY.mk 9748 9749)::(aY.mk 9800 9811)::(aY.mk 9889 9889)::(aY.mk 9917 9918)::(aY.mk 9989 9989)::(aY.mk 10024 10024)::(aY.mk 10060 10060)::(aY.mk 10067 10069)::(aY.mk 10133 10135)::(aY.mk 11035 11036)::(aY.mk 11088 11088)::(aY.mk 11904 12350)::(aY.mk 12353 13311)::(aY.mk 13312 19903)::(aY.mk 19968 40959)::(aY.mk 40960 42191)::(aY.mk 44032 55203)::(aY.mk 63744 64255)::(aY.mk 65072 65135)::(aY.mk 65281 65376)::(aY.mk 65504 65510)::(aY.mk 127744 127776)::(aY.mk 127789 127797)::(aY.mk 127799 127868)::(aY.mk 128000 128062)::(aY.mk 128064 128064)::(aY.mk 128066 128252)::(aY.mk 128512 128591)::(aY.mk 128640 128709)::(aY.mk 129280 129535)::(aY.mk 131072 196605)::(aY.mk 196608 262141)::[]))) rfl rfl rfl rfl rfl (by kernel_rfl) ub rfl (by kernel_rfl) (cF ?_)))
 have h:=aN H;subst h
 exact gH (rs:=[.cell 0 139]) (vs:=[.agg (List.toArray (aJ 4352::aJ 4447::aJ 8986::aJ 8987::aJ 9001::aJ 9002::aJ 9193::aJ 9196::aJ 9725::aJ 9726::aJ 9748::aJ 9749::aJ 9800::aJ 9811::aJ 9889::aJ 9889::aJ 9917::aJ 9918::aJ 9989::aJ 9989::aJ 10024::aJ 10024::aJ 10060::aJ 10060::aJ 10067::aJ 10069::aJ 10133::aJ 10135::aJ 11035::aJ 11036::aJ 11088::aJ 11088::aJ 11904::aJ 12350::aJ 12353::aJ 13311::aJ 13312::aJ 19903::aJ 19968::aJ 40959::aJ 40960::aJ 42191::aJ 44032::aJ 55203::aJ 63744::aJ 64255::aJ 65072::aJ 65135::aJ 65281::aJ 65376::aJ 65504::aJ 65510::aJ 127744::aJ 127776::aJ 127789::aJ 127797::aJ 127799::aJ 127868::aJ 128000::aJ 128062::aJ 128064::aJ 128064::aJ 128066::aJ 128252::aJ 128512::aJ 128591::aJ 128640::aJ 128709::aJ 129280::aJ 129535::aJ 131072::aJ 196605::aJ 196608::aJ 262141::[]))]) [] rfl ⟨RV.cell (k:=0) rfl rfl Tryz.underlying139 rfl ub,trivial⟩ rfl (eY []) ⟨(by kernel_rfl),rfl⟩


def qY.f  : Option ((List aY)):=some ((((aY.mk 768 879)::(aY.mk 1155 1161)::(aY.mk 1425 1469)::(aY.mk 1471 1471)::(aY.mk 1473 1474)::(aY.mk 1552 1562)::(aY.mk 1611 1631)::(aY.mk 1750 1756)::(aY.mk 2304 2306)::(aY.mk 2364 2364)::(aY.mk 2369 2376)::(aY.mk 2381 2381)::(aY.mk 3633 3633)::(aY.mk 3636 3642)::(aY.mk 6832 6911)::(aY.mk 7616 7679)::(aY.mk 8203 8207)::(aY.mk 8234 8238)::(aY.mk 8288 8292)::(aY.mk 8400 8447)::(aY.mk 12330 12333)::(aY.mk 12441 12442)::(aY.mk 65024 65039)::(aY.mk 65056 65071)::(aY.mk 65279 65279)::(aY.mk 917760 917999)::[]) : (List aY)))
theorem qY.ok  {r : (List aY)} (H : qY.f  = some r) : fK Tryz.prog 149 #[] [] (.agg (List.flatMap eP ((rd r 0)::(rd r 1)::(rd r 2)::(rd r 3)::(rd r 4)::(rd r 5)::(rd r 6)::(rd r 7)::(rd r 8)::(rd r 9)::(rd r 10)::(rd r 11)::(rd r 12)::(rd r 13)::(rd r 14)::(rd r 15)::(rd r 16)::(rd r 17)::(rd r 18)::(rd r 19)::(rd r 20)::(rd r 21)::(rd r 22)::(rd r 23)::(rd r 24)::(rd r 25)::[])).toArray):=by
 refine ai Tryz.func149 rfl rfl ?_
 unfold qY.f at H
 refine aQ (o' (cy (h:=fun a=>cV (bO (.agg #[aJ 768,aJ 879]) gB (h:=bO (.agg #[aJ 1155,aJ 1161]) gB (h:=bO (.agg #[aJ 1425,aJ 1469]) gB (h:=bO (.agg #[aJ 1471,aJ 1471]) gB (h:=bO (.agg #[aJ 1473,aJ 1474]) gB (h:=bO (.agg #[aJ 1552,aJ 1562]) gB (h:=s' (.agg #[aJ 1611,aJ 1631]) gB ?_))))))))))
 refine bO (.agg #[aJ 1750,aJ 1756]) gB (h:=bO (.agg #[aJ 2304,aJ 2306]) gB (h:=bO (.agg #[aJ 2364,aJ 2364]) gB (h:=bO (.agg #[aJ 2369,aJ 2376]) gB (h:=bO (.agg #[aJ 2381,aJ 2381]) gB (h:=bO (.agg #[aJ 3633,aJ 3633]) gB (h:=bO (.agg #[aJ 3636,aJ 3642]) gB (h:=bO (.agg #[aJ 6832,aJ 6911]) gB (h:=bO (.agg #[aJ 7616,aJ 7679]) gB (h:=s' (.agg #[aJ 8203,aJ 8207]) gB ?_)))))))))
 refine bO (.agg #[aJ 8234,aJ 8238]) gB (h:=bO (.agg #[aJ 8288,aJ 8292]) gB (h:=bO (.agg #[aJ 8400,aJ 8447]) gB (h:=bO (.agg #[aJ 12330,aJ 12333]) gB (h:=bO (.agg #[aJ 12441,aJ 12442]) gB (h:=bO (.agg #[aJ 65024,aJ 65039]) gB (h:=bO (.agg #[aJ 65056,aJ 65071]) gB (h:=bO (.agg #[aJ 65279,aJ 65279]) gB (h:=bO (.agg #[aJ 917760,aJ 917999]) gB (h:=s' (.agg (List.toArray (aJ 768::aJ 879::aJ 1155::aJ 1161::aJ 1425::aJ 1469::aJ 1471::aJ 1471::aJ 1473::aJ 1474::aJ 1552::aJ 1562::aJ 1611::aJ 1631::aJ 1750::aJ 1756::aJ 2304::aJ 2306::aJ 2364::aJ 2364::aJ 2369::aJ 2376::aJ 2381::aJ 2381::aJ 3633::aJ 3633::aJ 3636::aJ 3642::aJ 6832::aJ 6911::aJ 7616::aJ 7679::aJ 8203::aJ 8207::aJ 8234::aJ 8238::aJ 8288::aJ 8292::aJ 8400::aJ 8447::aJ 12330::aJ 12333::aJ 12441::aJ 12442::aJ 65024::aJ 65039::aJ 65056::aJ 65071::aJ 65279::aJ 65279::aJ 917760::aJ 917999::[]))) gB ?_)))))))))
 refine o' (oV (b:=a) (m:=0) (k:=0) (vs:=(List.flatMap eP ((aY.mk 768 879)::(aY.mk 1155 1161)::(aY.mk 1425 1469)::(aY.mk 1471 1471)::(aY.mk 1473 1474)::(aY.mk 1552 1562)::(aY.mk 1611 1631)::(aY.mk 1750 1756)::(aY.mk 2304 2306)::(aY.mk 2364 2364)::(aY.mk 2369 2376)::(aY.mk 2381 2381)::(aY.mk 3633 3633)::(aY.mk 3636 3642)::(aY.mk 6832 6911)::(aY.mk 7616 7679)::(aY.mk 8203 8207)::(aY.mk 8234 8238)::(aY.mk 8288 8292)::(aY.mk 8400 8447)::(aY.mk 12330 12333)::(aY.mk 12441 12442)::(aY.mk 65024 65039)::(aY.mk 65056 65071)::(aY.mk 65279 65279)::(aY.mk 917760 917999)::[]))) (cs':=(List.flatMap eP ((aY.mk 768 879)::(aY.mk 1155 1161)::(aY.mk 1425 1469)::(aY.mk 1471 1471)::(aY.mk 1473 1474)::(aY.mk 1552 1562)::(aY.mk 1611 1631)::(aY.mk 1750 1756)::(aY.mk 2304 2306)::(aY.mk 2364 2364)::(aY.mk 2369 2376)::(aY.mk 2381 2381)::(aY.mk 3633 3633)::(aY.mk 3636 3642)::(aY.mk 6832 6911)::(aY.mk 7616 7679)::(aY.mk 8203 8207)::(aY.mk 8234 8238)::(aY.mk 8288 8292)::(aY.mk 8400 8447)::(aY.mk 12330 12333)::(aY.mk 12441 12442)::(aY.mk 65024 65039)::(aY.mk 65056 65071)::(aY.mk 65279 65279)::(aY.mk 917760 917999)::[]))) rfl rfl rfl rfl rfl (by kernel_rfl) tY rfl (by kernel_rfl) (cF ?_))
 have h:=aN H;subst h
 exact gH (rs:=[.cell 0 141]) (vs:=[.agg (List.toArray (aJ 768::aJ 879::aJ 1155::aJ 1161::aJ 1425::aJ 1469::aJ 1471::aJ 1471::aJ 1473::aJ 1474::aJ 1552::aJ 1562::aJ 1611::aJ 1631::aJ 1750::aJ 1756::aJ 2304::aJ 2306::aJ 2364::aJ 2364::aJ 2369::aJ 2376::aJ 2381::aJ 2381::aJ 3633::aJ 3633::aJ 3636::aJ 3642::aJ 6832::aJ 6911::aJ 7616::aJ 7679::aJ 8203::aJ 8207::aJ 8234::aJ 8238::aJ 8288::aJ 8292::aJ 8400::aJ 8447::aJ 12330::aJ 12333::aJ 12441::aJ 12442::aJ 65024::aJ 65039::aJ 65056::aJ 65071::aJ 65279::aJ 65279::aJ 917760::aJ 917999::[]))]) [] rfl ⟨RV.cell (k:=0) rfl rfl Tryz.underlying141 rfl tY,trivial⟩ rfl (eY []) ⟨(by kernel_rfl),rfl⟩


def ll.l0 (l0 : (List aY)) (a1 : Int) : Nat → Int → Int → Option (Out (Bool) (Unit))
  | 0,_,_=>none
  | k + 1,a,b=>if a < b then (lt (eX .u64 (IntKind.u64.wrap (a + b)) 1) fun n8=>if 0 ≤ n8∧n8 < (l0.length : Int) then (if a1 < ((rd l0 n8).f0) then (ll.l0 l0 a1 k a n8) else (if 0 ≤ n8∧n8 < (l0.length : Int) then (if a1 > ((rd l0 n8).f1) then (lt (IntKind.u64.wrap (n8 + 1)) fun n15=>ll.l0 l0 a1 k n15 b) else (some (Out.ret (true)))) else none)) else none) else (some (Out.go ()))
def ll.f (k : Nat) (l0 : (List aY)) (a1 : Int) : Option (Bool):=lt (IntKind.u64.wrap ((l0.length : Int))) fun a=>(ll.l0 l0 a1 k 0 a : Option (Out (Bool) (Unit))).bind (fun b=>Out.el b (fun r_=>some r_) (fun c=>some (false)))
theorem ll.ok {l0 : (List aY)} {a1 : Int} {A0 : Option Addr} {c0 : Nat} {r : Bool} (H : ll.f k l0 a1 = some r) : df Tryz.prog 150 #[.slice A0 l0.length c0,aJ a1] [Ro uH A0 c0 l0] (fun v B=>v = .bool r∧B = []):=by
 refine ai Tryz.func150 rfl rfl ?_
 unfold ll.f at H
 refine aQ (ad aV (h:=cV (ad ax (h:=bO (ae (l0.length : Int)) (dB Tryz.underlying144 rfl) (h:=bO (.int .u64 (IntKind.u64.wrap ((l0.length : Int)))) (jS (T:=3) (by kernel_rfl) Tryz.underlying146 rfl) (h:=S' aV ?_))))))
 obtain⟨F,I,H⟩:=br H
 refine bO (.int .u64 F) (bz (v:=.int .u64 F) (congrArg (Value.int .u64) I.symm)) (h:=bC (ao ?_))
 obtain⟨J,H,c⟩:=ac H
 refine bI (fun e ds As=>∃ (K : Unit),J = Out.go K∧St [] [] e ds As) ?_ ?_
 ·refine aU (cw (fun k_ e ds As=>∃ (a : Int) (b : Int),ll.l0 l0 a1 k_ a b = some J∧St [(0,.slice A0 l0.length c0),(1,aJ a1),(5,.int .u64 a),(6,.int .u64 b)] [Ro uH A0 c0 l0] e ds As) (k:=k) ⟨_,_,H,kW [0]⟩ ?_)
  clear H
  rintro p e ds As ⟨a,b,H,z⟩
  obtain _ | p:=p
  ·cases H
  rw [ll.l0] at H
  refine SA.of_St z fun junk=>ao (aQ (ad ax (h:=ad ax (h:=ad (cn rfl rfl) (h:=bC ?_)))))
  rcases bH H with⟨D,H⟩|⟨D,H⟩
  ·refine aB rfl D (ap (aa (aU (aQ (ad ax (h:=ad ax (h:=ad (bV rfl rfl) (h:=s' (.int .u64 (eX .u64 (IntKind.u64.wrap (a + b)) 1)) (vO rfl rfl (by decide)) ?_))))))))
   obtain⟨n8,L,H⟩:=br H
   refine bO (.int .u64 n8) (bz (v:=.int .u64 n8) (congrArg (Value.int .u64) L.symm)) (h:=bC (aU (aQ (ad ax (h:=ad ax (h:=S' ax ?_))))))
   obtain⟨⟨M,s⟩,H⟩:=aR H
   refine bD (bK (i:=n8) Tryz.underlying144 qE rfl rfl (Src.ro (k:=0) rfl) M s) (h:=bO (.pointer (some ((el A0 (n8.toNat * 2)).add 0))) (dM (B:=el A0 (n8.toNat * 2)) (m:=0) (o:=0) Tryz.underlying138 kP rfl rfl (by decide) (by decide) rfl) (h:=bD (bQ (enc:=eP) (i:=n8) (j:=n8.toNat * 2) (m:=0) (sz:=2) Tryz.underlying21 rfl rfl rfl rfl (Src.ro (k:=0) rfl) M s (fun _ _ h=>h) rfl) (h:=ad (cn rfl rfl) (h:=ad aV (h:=bC ?_)))))
   rcases bH H with⟨d,H⟩|⟨d,H⟩
   ·refine aB rfl d (ah (ad ax (h:=ad aV (h:=aj (aF (aF ?_))))))
    exact aa ⟨p,Nat.lt_succ_self _,_,_,H,ed [0]⟩
   refine aA rfl d (aQ (ad ax (h:=ad ax (h:=S' ax ?_))))
   obtain⟨⟨u,y⟩,H⟩:=aR H
   refine bD (bK (i:=n8) Tryz.underlying144 qE rfl rfl (Src.ro (k:=0) rfl) u y) (h:=bO (.pointer (some ((el A0 (n8.toNat * 2)).add 1))) (dM (B:=el A0 (n8.toNat * 2)) (m:=0) (o:=1) Tryz.underlying138 kP rfl rfl (by decide) (by decide) rfl) (h:=bD (bQ (enc:=eP) (i:=n8) (j:=n8.toNat * 2) (m:=1) (sz:=2) Tryz.underlying21 rfl rfl rfl rfl (Src.ro (k:=0) rfl) u y (fun _ _ h=>h) rfl) (h:=ad (eR rfl rfl) (h:=ad aV (h:=bC ?_)))))
   rcases bH H with⟨l,H⟩|⟨l,H⟩
   ·refine aB rfl l (ah (ad ax (h:=S' (bV rfl rfl) ?_)))
    obtain⟨n15,E,H⟩:=br H
    refine bO (.int .u64 n15) (bz (v:=.int .u64 n15) (congrArg (Value.int .u64) E.symm)) (h:=aj (aF (aF ?_)))
    exact aa ⟨p,Nat.lt_succ_self _,_,_,H,ed [0]⟩
   refine aA rfl l (aQ (ad aV (h:=cF (bi (bi (aI (bi (aI (aI ?_)))))))))
   have h:=aN H;subst h
   have hb_:=dS c
   have hr_:=Option.some.inj hb_
   clear hb_
   subst hr_
   exact er [] ⟨rfl,rfl⟩
  refine aA rfl D (ct (bc (bc (cr ?_))))
  have h:=aN H;subst h
  exact aa ⟨(),rfl,ed []⟩
 rintro e ds As ⟨K,ht,q⟩
 clear H
 subst ht
 replace c:=fW c
 have H:=c
 clear c
 refine aa (SA.of_St q fun junk=>aQ (ad aV (h:=cF ?_)))
 have h:=aN H;subst h
 exact er [] ⟨rfl,rfl⟩


def lZ.f (k : Nat) (a0 : Int) : Option (Int):=(qJ.f ).bind (fun a=>(qY.f ).bind (fun b=>(if a0 < 32 then (some true) else (if a0 ≥ 127 then (some (decide (a0 ≤ 159))) else (some false)) : Option Bool).bind (fun j=>lt (j || (decide (a0 > 1114111))) fun c=>(if c = true then (some true) else (if a0 ≥ 55296 then (some (decide (a0 ≤ 57343))) else (some false)) : Option Bool).bind (fun d=>if d = true then (some ((-1))) else ((ll.f k (((rd b 0)::(rd b 1)::(rd b 2)::(rd b 3)::(rd b 4)::(rd b 5)::(rd b 6)::(rd b 7)::(rd b 8)::(rd b 9)::(rd b 10)::(rd b 11)::(rd b 12)::(rd b 13)::(rd b 14)::(rd b 15)::(rd b 16)::(rd b 17)::(rd b 18)::(rd b 19)::(rd b 20)::(rd b 21)::(rd b 22)::(rd b 23)::(rd b 24)::(rd b 25)::[]) : List aY) a0).bind (fun wY=>if wY = true then (some (0)) else ((ll.f k (((rd a 0)::(rd a 1)::(rd a 2)::(rd a 3)::(rd a 4)::(rd a 5)::(rd a 6)::(rd a 7)::(rd a 8)::(rd a 9)::(rd a 10)::(rd a 11)::(rd a 12)::(rd a 13)::(rd a 14)::(rd a 15)::(rd a 16)::(rd a 17)::(rd a 18)::(rd a 19)::(rd a 20)::(rd a 21)::(rd a 22)::(rd a 23)::(rd a 24)::(rd a 25)::(rd a 26)::(rd a 27)::(rd a 28)::(rd a 29)::(rd a 30)::(rd a 31)::(rd a 32)::(rd a 33)::(rd a 34)::(rd a 35)::(rd a 36)::[]) : List aY) a0).bind (fun h=>if h = true then (some (2)) else (some (1))))))))))
theorem lZ.ok {a0 : Int} {r : Int} (H : lZ.f k a0 = some r) : fK Tryz.prog 117 #[aJ a0] [] (ae r):=by
 refine ai Tryz.func117 rfl rfl ?_
 unfold lZ.f at H
 refine aQ (ad aV (h:=cV ?_))
 obtain⟨a,E,H⟩:=ac H
 refine o' (da [] [] (qJ.ok E) ?_)
 obtain⟨c,F,H⟩:=ac H
 refine o' (da [] [] (qY.ok F) ?_)
 refine o' (cy (h:=fun p=>o' (cy (h:=fun q=>o' (oV (b:=p) (m:=0) (k:=0) (vs:=(List.flatMap eP ((rd a 0)::(rd a 1)::(rd a 2)::(rd a 3)::(rd a 4)::(rd a 5)::(rd a 6)::(rd a 7)::(rd a 8)::(rd a 9)::(rd a 10)::(rd a 11)::(rd a 12)::(rd a 13)::(rd a 14)::(rd a 15)::(rd a 16)::(rd a 17)::(rd a 18)::(rd a 19)::(rd a 20)::(rd a 21)::(rd a 22)::(rd a 23)::(rd a 24)::(rd a 25)::(rd a 26)::(rd a 27)::(rd a 28)::(rd a 29)::(rd a 30)::(rd a 31)::(rd a 32)::(rd a 33)::(rd a 34)::(rd a 35)::(rd a 36)::[]))) (cs':=(List.flatMap eP ((rd a 0)::(rd a 1)::(rd a 2)::(rd a 3)::(rd a 4)::(rd a 5)::(rd a 6)::(rd a 7)::(rd a 8)::(rd a 9)::(rd a 10)::(rd a 11)::(rd a 12)::(rd a 13)::(rd a 14)::(rd a 15)::(rd a 16)::(rd a 17)::(rd a 18)::(rd a 19)::(rd a 20)::(rd a 21)::(rd a 22)::(rd a 23)::(rd a 24)::(rd a 25)::(rd a 26)::(rd a 27)::(rd a 28)::(rd a 29)::(rd a 30)::(rd a 31)::(rd a 32)::(rd a 33)::(rd a 34)::(rd a 35)::(rd a 36)::[]))) rfl rfl rfl rfl rfl (by kernel_rfl) ub rfl (by kernel_rfl) (o' (oV (b:=q) (m:=0) (k:=1) (vs:=(List.flatMap eP ((rd c 0)::(rd c 1)::(rd c 2)::(rd c 3)::(rd c 4)::(rd c 5)::(rd c 6)::(rd c 7)::(rd c 8)::(rd c 9)::(rd c 10)::(rd c 11)::(rd c 12)::(rd c 13)::(rd c 14)::(rd c 15)::(rd c 16)::(rd c 17)::(rd c 18)::(rd c 19)::(rd c 20)::(rd c 21)::(rd c 22)::(rd c 23)::(rd c 24)::(rd c 25)::[]))) (cs':=(List.flatMap eP ((rd c 0)::(rd c 1)::(rd c 2)::(rd c 3)::(rd c 4)::(rd c 5)::(rd c 6)::(rd c 7)::(rd c 8)::(rd c 9)::(rd c 10)::(rd c 11)::(rd c 12)::(rd c 13)::(rd c 14)::(rd c 15)::(rd c 16)::(rd c 17)::(rd c 18)::(rd c 19)::(rd c 20)::(rd c 21)::(rd c 22)::(rd c 23)::(rd c 24)::(rd c 25)::[]))) rfl rfl rfl rfl rfl (by kernel_rfl) tY rfl (by kernel_rfl) (bC (ao (aU (aQ (ad ax (h:=ad (cn rfl rfl) (h:=S' ax ?_))))))))))))))
 obtain⟨I,H,J⟩:=ac H
 refine eg 7 [(0,aJ a0),(3,aK p),(4,aK q),(17,.bool I)] [aL p 139 (List.flatMap eP ((rd a 0)::(rd a 1)::(rd a 2)::(rd a 3)::(rd a 4)::(rd a 5)::(rd a 6)::(rd a 7)::(rd a 8)::(rd a 9)::(rd a 10)::(rd a 11)::(rd a 12)::(rd a 13)::(rd a 14)::(rd a 15)::(rd a 16)::(rd a 17)::(rd a 18)::(rd a 19)::(rd a 20)::(rd a 21)::(rd a 22)::(rd a 23)::(rd a 24)::(rd a 25)::(rd a 26)::(rd a 27)::(rd a 28)::(rd a 29)::(rd a 30)::(rd a 31)::(rd a 32)::(rd a 33)::(rd a 34)::(rd a 35)::(rd a 36)::[])),aL q 141 (List.flatMap eP ((rd c 0)::(rd c 1)::(rd c 2)::(rd c 3)::(rd c 4)::(rd c 5)::(rd c 6)::(rd c 7)::(rd c 8)::(rd c 9)::(rd c 10)::(rd c 11)::(rd c 12)::(rd c 13)::(rd c 14)::(rd c 15)::(rd c 16)::(rd c 17)::(rd c 18)::(rd c 19)::(rd c 20)::(rd c 21)::(rd c 22)::(rd c 23)::(rd c 24)::(rd c 25)::[]))] ?_ fun junk=>?_
 ·rcases bH H with⟨j,H⟩|⟨j,H⟩
  ·refine cI 3 (ak j) (gj (gj (cI 1 (ak j) (ii (ak j) ?_))))
   have h:=aN H;subst h
   exact dV [0,1]
  refine bn (am j) ax (h:=bn (am j) (dI rfl rfl) (h:=Y' (am j) ax ?_))
  rcases bH H with⟨s,H⟩|⟨s,H⟩
  ·refine bn (ak s) ax (h:=bn (ak s) (fV rfl rfl) (h:=gE (am j) (dl rfl (bX rfl (ak s) rfl) (gL (am j) ?_))))
   have h:=aN H;subst h
   exact dV [0,1]
  refine cI 2 (am s) (gE (am j) (dl rfl (bY rfl (am s) rfl) (gL (am j) ?_)))
  have h:=aN H;subst h
  exact dV [0,1]
 replace H:=J
 refine S' ax ?_
 obtain⟨K,u,H⟩:=br H
 refine eg 3 [(0,aJ a0),(3,aK p),(4,aK q),(21,.bool K)] [aL p 139 (List.flatMap eP ((rd a 0)::(rd a 1)::(rd a 2)::(rd a 3)::(rd a 4)::(rd a 5)::(rd a 6)::(rd a 7)::(rd a 8)::(rd a 9)::(rd a 10)::(rd a 11)::(rd a 12)::(rd a 13)::(rd a 14)::(rd a 15)::(rd a 16)::(rd a 17)::(rd a 18)::(rd a 19)::(rd a 20)::(rd a 21)::(rd a 22)::(rd a 23)::(rd a 24)::(rd a 25)::(rd a 26)::(rd a 27)::(rd a 28)::(rd a 29)::(rd a 30)::(rd a 31)::(rd a 32)::(rd a 33)::(rd a 34)::(rd a 35)::(rd a 36)::[])),aL q 141 (List.flatMap eP ((rd c 0)::(rd c 1)::(rd c 2)::(rd c 3)::(rd c 4)::(rd c 5)::(rd c 6)::(rd c 7)::(rd c 8)::(rd c 9)::(rd c 10)::(rd c 11)::(rd c 12)::(rd c 13)::(rd c 14)::(rd c 15)::(rd c 16)::(rd c 17)::(rd c 18)::(rd c 19)::(rd c 20)::(rd c 21)::(rd c 22)::(rd c 23)::(rd c 24)::(rd c 25)::[]))] ?_ fun junk=>?_
 ·by_cases l : I = true
  ·refine cI 2 l (cq l (h:=aj ?_))
   have x_:=jL u l;exact bM [0,1]
  refine bn (aX l) ax (h:=bn (aX l) (eR rfl rfl) (h:=cv (aX l) (h:=aj ?_)))
  have x_:=jN u ((aX l));exact bM [0,1]
 refine S' ax ?_
 obtain⟨L,H,D⟩:=ac H
 refine eg 7 [(0,aJ a0),(3,aK p),(4,aK q),(29,.bool L)] [aL p 139 (List.flatMap eP ((rd a 0)::(rd a 1)::(rd a 2)::(rd a 3)::(rd a 4)::(rd a 5)::(rd a 6)::(rd a 7)::(rd a 8)::(rd a 9)::(rd a 10)::(rd a 11)::(rd a 12)::(rd a 13)::(rd a 14)::(rd a 15)::(rd a 16)::(rd a 17)::(rd a 18)::(rd a 19)::(rd a 20)::(rd a 21)::(rd a 22)::(rd a 23)::(rd a 24)::(rd a 25)::(rd a 26)::(rd a 27)::(rd a 28)::(rd a 29)::(rd a 30)::(rd a 31)::(rd a 32)::(rd a 33)::(rd a 34)::(rd a 35)::(rd a 36)::[])),aL q 141 (List.flatMap eP ((rd c 0)::(rd c 1)::(rd c 2)::(rd c 3)::(rd c 4)::(rd c 5)::(rd c 6)::(rd c 7)::(rd c 8)::(rd c 9)::(rd c 10)::(rd c 11)::(rd c 12)::(rd c 13)::(rd c 14)::(rd c 15)::(rd c 16)::(rd c 17)::(rd c 18)::(rd c 19)::(rd c 20)::(rd c 21)::(rd c 22)::(rd c 23)::(rd c 24)::(rd c 25)::[]))] ?_ fun junk=>?_
 ·rcases bH H with⟨d,H⟩|⟨d,H⟩
  ·refine cI 3 d (gj (gj (cI 1 d (ii d ?_))))
   have h:=aN H;subst h
   exact dV [0,1]
  refine bn (aX d) ax (h:=bn (aX d) (dI rfl rfl) (h:=Y' (aX d) ax ?_))
  rcases bH H with⟨o,H⟩|⟨o,H⟩
  ·refine bn (ak o) ax (h:=bn (ak o) (fV rfl rfl) (h:=gE (aX d) (dl rfl (bX rfl (ak o) rfl) (gL (aX d) ?_))))
   have h:=aN H;subst h
   exact dV [0,1]
  refine cI 2 (am o) (gE (aX d) (dl rfl (bY rfl (am o) rfl) (gL (aX d) ?_)))
  have h:=aN H;subst h
  exact dV [0,1]
 replace H:=D
 refine ad aV (h:=bC ?_)
 rcases bH H with⟨y,H⟩|⟨y,H⟩
 ·refine aC rfl y (aQ (ad aV (h:=cF (bi (aI ?_)))))
  have h:=aN H;subst h
  exact er [] ⟨rfl,rfl⟩
 refine aD rfl y (aQ (o' (OA.ghost (Gh.blkRo (kd:=uH) (k:=1) (xs:=(((rd c 0)::(rd c 1)::(rd c 2)::(rd c 3)::(rd c 4)::(rd c 5)::(rd c 6)::(rd c 7)::(rd c 8)::(rd c 9)::(rd c 10)::(rd c 11)::(rd c 12)::(rd c 13)::(rd c 14)::(rd c 15)::(rd c 16)::(rd c 17)::(rd c 18)::(rd c 19)::(rd c 20)::(rd c 21)::(rd c 22)::(rd c 23)::(rd c 24)::(rd c 25)::[]) : List aY)) rfl (dL eP (fun _ _=>rfl) (by kernel_rfl)) rfl) (dl (v:=.slice (some ⟨q,0,none⟩) 26 26) rfl (nQ Tryz.underlying141 qE rfl) (S' ax ?_)))))
 obtain⟨wY,M,H⟩:=ac H
 refine o' (da [1] [0,1] (ll.ok (A0:=some ⟨q,0,none⟩) (c0:=26) M) ?_)
 refine ad aV (h:=bC ?_)
 rcases bH H with⟨z,H⟩|⟨z,H⟩
 ·refine aC rfl z (aQ (ad aV (h:=cF (bi (aI ?_)))))
  have h:=aN H;subst h
  exact er [] ⟨rfl,rfl⟩
 refine aD rfl z (aQ (o' (OA.ghost (Gh.blkRo (kd:=uH) (k:=0) (xs:=(((rd a 0)::(rd a 1)::(rd a 2)::(rd a 3)::(rd a 4)::(rd a 5)::(rd a 6)::(rd a 7)::(rd a 8)::(rd a 9)::(rd a 10)::(rd a 11)::(rd a 12)::(rd a 13)::(rd a 14)::(rd a 15)::(rd a 16)::(rd a 17)::(rd a 18)::(rd a 19)::(rd a 20)::(rd a 21)::(rd a 22)::(rd a 23)::(rd a 24)::(rd a 25)::(rd a 26)::(rd a 27)::(rd a 28)::(rd a 29)::(rd a 30)::(rd a 31)::(rd a 32)::(rd a 33)::(rd a 34)::(rd a 35)::(rd a 36)::[]) : List aY)) rfl (dL eP (fun _ _=>rfl) (by kernel_rfl)) rfl) (dl (v:=.slice (some ⟨p,0,none⟩) 37 37) rfl (nQ Tryz.underlying139 qE rfl) (S' ax ?_)))))
 obtain⟨O,N,H⟩:=ac H
 refine o' (da [0] [0,1] (ll.ok (A0:=some ⟨p,0,none⟩) (c0:=37) N) ?_)
 refine ad aV (h:=bC ?_)
 rcases bH H with⟨B,H⟩|⟨B,H⟩
 ·refine aC rfl B (aQ (ad aV (h:=cF (bi (aI ?_)))))
  have h:=aN H;subst h
  exact er [] ⟨rfl,rfl⟩
 refine aD rfl B (ap (aF (aa (aQ (ad aV (h:=cF ?_))))))
 have h:=aN H;subst h
 exact er [] ⟨rfl,rfl⟩


def lg.l0 (a0 : aZ) : Nat → Bool → Int → Option (Out (Bool) (Unit))
  | 0,_,_=>none
  | k + 1,b,a=>if a < 3 then (if 0 ≤ a∧a < (3 : Int) then (lt (rd ([a0.f1.f0,a0.f1.f1,a0.f1.f2] : List Int) a) fun c=>if c = 0 then (lg.l0 a0 k true (i64.wrap (a + 1))) else ((if b = true then (some true) else ((lZ.f k c).bind (fun d=>some (decide (d ≠ 0)))) : Option Bool).bind (fun h=>if h = true then (some (Out.ret (false))) else (lg.l0 a0 k b (i64.wrap (a + 1)))))) else none) else (some (Out.go ()))
def lg.f (k : Nat) (a0 : aZ) : Option (Bool):=(qf.f a0.f3).bind (fun c=>if (!c) = true then (some (false)) else (if a0.f2 = 0 then (lt ((decide (a0.f0 = 0)) && (decide (a0.f1 = (fR.mk 0 0 0)))) fun d=>some (d)) else ((if a0.f2 > 2 then (some true) else ((lZ.f k a0.f0).bind (fun a=>some (decide (a ≠ (i64.wrap (a0.f2)))))) : Option (Bool)).bind (fun h=>if h = true then (some (false)) else ((lg.l0 a0 k false 0 : Option (Out (Bool) (Unit))).bind (fun b=>Out.el b (fun r_=>some r_) (fun j=>some (true))))))))
theorem lg.ok {a0 : aZ} {r : Bool} (H : lg.f k a0 = some r) : fK Tryz.prog 112 #[.agg (bR a0).toArray] [] (.bool r):=by
 refine ai Tryz.func112 rfl rfl ?_
 unfold lg.f at H
 refine aQ (o' (bN (h:=fun z=>ad aV (h:=eJ (ad aE (h:=l' (cG z 5 0 (bG a0.f3)) ?_))))))
 obtain⟨r3,O,H⟩:=ac H
 refine o' (da [] [0] (qf.ok O) ?_)
 refine ad (ca rfl) (h:=bC ?_)
 rcases bH H with⟨R,H⟩|⟨R,H⟩
 ·refine aC rfl R (aQ (ad aV (h:=cE ?_)))
  have h:=aN H;subst h
  exact er [] ⟨rfl,rfl⟩
 refine aD rfl R (ap (aa (ao (aQ (ad aE (h:=bD (aT 0) (h:=ad (bk rfl rfl) (h:=bC ?_))))))))
 rcases bH H with⟨S,H⟩|⟨S,H⟩
 ·refine aB rfl S (aQ (ad aE (h:=bD (aT 0) (h:=ad (bk rfl rfl) (h:=S' ax ?_)))))
  obtain⟨q6,M,H⟩:=br H
  refine eg 5 [(21,.bool q6)] [] ?_ fun junk=>?_
  ·by_cases l : a0.f0 = 0
   ·refine bn (ak l) aE (h:=dc (ak l) (cG z 1 0 [aJ a0.f1.f0,aJ a0.f1.f1,aJ a0.f1.f2]) (h:=kQ (ak l) (.agg #[aJ 0,aJ 0,aJ 0]) gB (h:=kQ (ak l) (.bool (decide (a0.f1 = (fR.mk 0 0 0)))) (mb (xs:=[aJ a0.f1.f0,aJ a0.f1.f1,aJ a0.f1.f2]) (ys:=[aJ 0,aJ 0,aJ 0]) (r:=((a0.f1.f0 == 0) && ((a0.f1.f1 == 0) && ((a0.f1.f2 == 0) && true)))) (p:=a0.f1 = (fR.mk 0 0 0)) vC rfl rfl (by kernel_rfl) (vH (x:=a0.f1) (y:=(fR.mk 0 0 0)))) (h:=cq (ak l) (h:=aj ?_)))))
    have x_:=gD M ((ak l));exact bM []
   refine cI 4 (am l) (cv (am l) (h:=aj ?_))
   have x_:=gC M ((am l));exact bM []
  refine ad aV (h:=cE ?_)
  have h:=aN H;subst h
  exact er [] ⟨rfl,rfl⟩
 refine aA rfl S (ap (aa (ao (ao ?_))))
 obtain⟨t9,H,N⟩:=ac H
 refine bI (St [(1,aK z),(33,.bool t9)] [aL z 55 (bR a0)]) ?_ ?_
 ·refine fk (dG 0 12) [0] [] fun _ _ _ _ _ sH dd pk=>?_
  refine bf 0 rfl sH aE (h:=bT 1 rfl sH (aT 0) (h:=bf 2 rfl sH (eR rfl rfl) (h:=T' 3 rfl sH ax ?_)))
  rcases bH H with⟨a,H⟩|⟨a,H⟩
  ·refine cb 4 rfl (ak a) (cb 5 rfl (ak a) (cb 6 rfl (ak a) (cb 7 rfl (ak a) (cb 8 rfl (ak a) (cb 9 rfl (ak a) (cb 10 rfl (ak a) (bT 11 rfl sH (VR.ofV (bX rfl (ak a) rfl)) (h:=aW dd sH (aH (by kernel_rfl) ?_)))))))))
   have h:=aN H;subst h
   exact bM [0]
  refine du 4 rfl (am a) sH aE (h:=cU 5 rfl (am a) sH (aT 0) (h:=du 7 rfl (am a) sH aE (h:=cU 8 rfl (am a) sH (aT 0) (h:=Bt (ae (i64.wrap (a0.f2))) 9 rfl (am a) sH (jS (T:=5) (by kernel_rfl) Tryz.underlying3 rfl) ?_))))
  obtain⟨a3,U,H⟩:=ac H
  refine Da 6 rfl dd (am a) (da [] [] (lZ.ok U) ?_)
  refine du 10 rfl (am a) sH (dK rfl rfl) (h:=bT 11 rfl sH (VR.ofV (bY rfl (am a) rfl)) (h:=aW dd sH (aH (by kernel_rfl) ?_)))
  have h:=aN H;subst h
  exact bM [0]
 rintro e ds As B
 clear H
 have H:=N
 clear N
 refine aa (SA.of_St B fun junk=>?_)
 rcases bH H with⟨o,H⟩|⟨o,H⟩
 ·refine aC rfl o (aQ (ad aV (h:=cE ?_)))
  have h:=aN H;subst h
  exact er [] ⟨rfl,rfl⟩
 refine aD rfl o (ap (aa (aQ (ad aV (h:=eJ (ad aE (h:=bD (cG z 1 0 [aJ a0.f1.f0,aJ a0.f1.f1,aJ a0.f1.f2]) (h:=ad ax (h:=bC ?_)))))))))
 obtain⟨D,H,d⟩:=ac H
 refine bI (fun e ds As=>∃ (E : Unit),D = Out.go E∧St [] [] e ds As) ?_ ?_
 ·refine aU (cw (fun k_ e ds As=>∃ (j : Bool) (b : Int),lg.l0 a0 k_ j b = some D∧St [(3,.bool j),(35,.agg #[aJ a0.f1.f0,aJ a0.f1.f1,aJ a0.f1.f2]),(36,ae b)] [] e ds As) (k:=k) ⟨_,_,H,kW []⟩ ?_)
  clear H
  rintro m e ds As ⟨j,b,H,F⟩
  obtain _ | m:=m
  ·cases H
  rw [lg.l0] at H
  refine SA.of_St F fun junk=>aQ (ad (cn rfl rfl) (h:=bC (ao ?_)))
  rcases bH H with⟨q,H⟩|⟨q,H⟩
  ·refine aB rfl q (ap (aa (ao (aU (aQ ?_)))))
   obtain⟨⟨Y,Z⟩,H⟩:=aR H
   refine s' (aJ (rd ([a0.f1.f0,a0.f1.f1,a0.f1.f2] : List Int) b)) (pe (kd:=(Kd.int .i32)) (i:=b) (cs:=[aJ a0.f1.f0,aJ a0.f1.f1,aJ a0.f1.f2]) (xs:=([a0.f1.f0,a0.f1.f1,a0.f1.f2] : List Int)) (v:=aJ (rd ([a0.f1.f0,a0.f1.f1,a0.f1.f2] : List Int) b)) Tryz.underlying53 kP Tryz.underlying21 rfl rfl rfl (dL (fun x_ : Int=>[Value.int .i32 x_]) (fun _ _=>rfl) (by kernel_rfl) _) rfl rfl Y Z (fun _ h_=>by rw [h_]; rfl)) ?_
   obtain⟨I,K,H⟩:=br H
   refine bO (aJ I) (bz (v:=aJ I) (congrArg (Value.int .i32) K.symm)) (h:=bC (aU (aQ (ad ax (h:=ad (bk rfl rfl) (h:=ad aV (h:=bC ?_)))))))
   rcases bH H with⟨s,H⟩|⟨s,H⟩
   ·refine aB rfl s (ah (ad aV (h:=aj (aF (aF (aa (ah (ad (bV rfl rfl) (h:=ad ax (h:=aj ?_))))))))))
    exact aa ⟨m,Nat.lt_succ_self _,_,_,H,ed []⟩
   refine aA rfl s (aQ (ad ax (h:=S' ax ?_)))
   obtain⟨a1,H,L⟩:=ac H
   refine eg 4 [(3,.bool j),(35,.agg #[aJ a0.f1.f0,aJ a0.f1.f1,aJ a0.f1.f2]),(36,ae b),(48,.bool a1)] [] ?_ fun junk=>?_
   ·rcases bH H with⟨c,H⟩|⟨c,H⟩
    ·refine cI 3 c (ii c ?_)
     have h:=aN H;subst h
     exact dV []
    refine Y' (aX c) ax ?_
    obtain⟨a4,a2,H⟩:=ac H
    refine gE (aX c) (da [] [] (lZ.ok a2) ?_)
    refine bn (aX c) (dK rfl rfl) (h:=gL (aX c) ?_)
    have h:=aN H;subst h
    exact dV []
   replace H:=L
   refine ad aV (h:=bC ?_)
   rcases bH H with⟨u,H⟩|⟨u,H⟩
   ·refine aC rfl u (aQ (ad aV (h:=cF (bi (bi (aI (aI (bi (aI (aI ?_))))))))))
    have h:=aN H;subst h
    have hb_:=dS d
    have hr_:=Option.some.inj hb_
    clear hb_
    subst hr_
    exact er [] ⟨rfl,rfl⟩
   refine aD rfl u (ap (aF (aF (aa (ah (ad (bV rfl rfl) (h:=ad ax (h:=aj ?_))))))))
   exact aa ⟨m,Nat.lt_succ_self _,_,_,H,ed []⟩
  refine aA rfl q (ct (bc (bc (cr ?_))))
  have h:=aN H;subst h
  exact aa ⟨(),rfl,ed []⟩
 rintro e ds As ⟨E,ht,J⟩
 clear H
 subst ht
 replace d:=fW d
 have H:=d
 clear d
 refine aa (SA.of_St J fun junk=>aQ (ad aV (h:=cF ?_)))
 have h:=aN H;subst h
 exact er [] ⟨rfl,rfl⟩

end Go.Proofs.YtckilbegmbaeeaaGreat.Z3

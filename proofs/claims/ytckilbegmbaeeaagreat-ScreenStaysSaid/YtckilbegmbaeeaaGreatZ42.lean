/- What functions compute, and that they do: 117, 148, 149, 150. -/
import Derived.Test.YtckilbegmbaeeaaGreatZ40
namespace Go.Proofs.YtckilbegmbaeeaaGreat.Z4
open Go Go.RowKit Go.Proofs.YtckilbegmbaeeaaGreat.SL
set_option linter.unusedVariables false
set_option maxHeartbeats 20000000
set_option maxRecDepth 100000
set_option linter.unusedSimpArgs false
attribute [local irreducible] IntKind.wrap minI maxI shrI shlI andI orI xorI andNotI cplI rd sub bytesOf strOf slA
variable {k : Nat}
def F148.f  : Option ((List S138)):=some ((((S138.mk 4352 4447)::(S138.mk 8986 8987)::(S138.mk 9001 9002)::(S138.mk 9193 9196)::(S138.mk 9725 9726)::(S138.mk 9748 9749)::(S138.mk 9800 9811)::(S138.mk 9889 9889)::(S138.mk 9917 9918)::(S138.mk 9989 9989)::(S138.mk 10024 10024)::(S138.mk 10060 10060)::(S138.mk 10067 10069)::(S138.mk 10133 10135)::(S138.mk 11035 11036)::(S138.mk 11088 11088)::(S138.mk 11904 12350)::(S138.mk 12353 13311)::(S138.mk 13312 19903)::(S138.mk 19968 40959)::(S138.mk 40960 42191)::(S138.mk 44032 55203)::(S138.mk 63744 64255)::(S138.mk 65072 65135)::(S138.mk 65281 65376)::(S138.mk 65504 65510)::(S138.mk 127744 127776)::(S138.mk 127789 127797)::(S138.mk 127799 127868)::(S138.mk 128000 128062)::(S138.mk 128064 128064)::(S138.mk 128066 128252)::(S138.mk 128512 128591)::(S138.mk 128640 128709)::(S138.mk 129280 129535)::(S138.mk 131072 196605)::(S138.mk 196608 262141)::[]) : (List S138)))
theorem F148.ok  {r : (List S138)} (H : F148.f  = some r) : SCA Tryz.prog 148 #[] [] (fun v B=>v = .agg (List.flatMap enc138 ((rd r 0)::(rd r 1)::(rd r 2)::(rd r 3)::(rd r 4)::(rd r 5)::(rd r 6)::(rd r 7)::(rd r 8)::(rd r 9)::(rd r 10)::(rd r 11)::(rd r 12)::(rd r 13)::(rd r 14)::(rd r 15)::(rd r 16)::(rd r 17)::(rd r 18)::(rd r 19)::(rd r 20)::(rd r 21)::(rd r 22)::(rd r 23)::(rd r 24)::(rd r 25)::(rd r 26)::(rd r 27)::(rd r 28)::(rd r 29)::(rd r 30)::(rd r 31)::(rd r 32)::(rd r 33)::(rd r 34)::(rd r 35)::(rd r 36)::[])).toArray∧B = []):=by
 refine SCA_of_body Tryz.func148 rfl rfl ?_
 unfold F148.f at H
 refine qr' ?_
 refine o' (al' fun b1=>?_)
 refine nr' ?_
 refine s' (.agg #[iw' 4352,iw' 4447]) bA' ?_
 refine s' (.agg #[iw' 8986,iw' 8987]) bA' ?_
 refine s' (.agg #[iw' 9001,iw' 9002]) bA' ?_
 refine s' (.agg #[iw' 9193,iw' 9196]) bA' ?_
 refine s' (.agg #[iw' 9725,iw' 9726]) bA' ?_
 refine s' (.agg #[iw' 9748,iw' 9749]) bA' ?_
 refine s' (.agg #[iw' 9800,iw' 9811]) bA' ?_
 refine s' (.agg #[iw' 9889,iw' 9889]) bA' ?_
 refine s' (.agg #[iw' 9917,iw' 9918]) bA' ?_
 refine s' (.agg #[iw' 9989,iw' 9989]) bA' ?_
 refine s' (.agg #[iw' 10024,iw' 10024]) bA' ?_
 refine s' (.agg #[iw' 10060,iw' 10060]) bA' ?_
 refine s' (.agg #[iw' 10067,iw' 10069]) bA' ?_
 refine s' (.agg #[iw' 10133,iw' 10135]) bA' ?_
 refine s' (.agg #[iw' 11035,iw' 11036]) bA' ?_
 refine s' (.agg #[iw' 11088,iw' 11088]) bA' ?_
 refine s' (.agg #[iw' 11904,iw' 12350]) bA' ?_
 refine s' (.agg #[iw' 12353,iw' 13311]) bA' ?_
 refine s' (.agg #[iw' 13312,iw' 19903]) bA' ?_
 refine s' (.agg #[iw' 19968,iw' 40959]) bA' ?_
 refine s' (.agg #[iw' 40960,iw' 42191]) bA' ?_
 refine s' (.agg #[iw' 44032,iw' 55203]) bA' ?_
 refine s' (.agg #[iw' 63744,iw' 64255]) bA' ?_
 refine s' (.agg #[iw' 65072,iw' 65135]) bA' ?_
 refine s' (.agg #[iw' 65281,iw' 65376]) bA' ?_
 refine s' (.agg #[iw' 65504,iw' 65510]) bA' ?_
 refine s' (.agg #[iw' 127744,iw' 127776]) bA' ?_
 refine s' (.agg #[iw' 127789,iw' 127797]) bA' ?_
 refine s' (.agg #[iw' 127799,iw' 127868]) bA' ?_
 refine s' (.agg #[iw' 128000,iw' 128062]) bA' ?_
 refine s' (.agg #[iw' 128064,iw' 128064]) bA' ?_
 refine s' (.agg #[iw' 128066,iw' 128252]) bA' ?_
 refine s' (.agg #[iw' 128512,iw' 128591]) bA' ?_
 refine s' (.agg #[iw' 128640,iw' 128709]) bA' ?_
 refine s' (.agg #[iw' 129280,iw' 129535]) bA' ?_
 refine s' (.agg #[iw' 131072,iw' 196605]) bA' ?_
 refine s' (.agg #[iw' 196608,iw' 262141]) bA' ?_
 refine s' (.agg (List.toArray (iw' 4352::iw' 4447::iw' 8986::iw' 8987::iw' 9001::iw' 9002::iw' 9193::iw' 9196::iw' 9725::iw' 9726::iw' 9748::iw' 9749::iw' 9800::iw' 9811::iw' 9889::iw' 9889::iw' 9917::iw' 9918::iw' 9989::iw' 9989::iw' 10024::iw' 10024::iw' 10060::iw' 10060::iw' 10067::iw' 10069::iw' 10133::iw' 10135::iw' 11035::iw' 11036::iw' 11088::iw' 11088::iw' 11904::iw' 12350::iw' 12353::iw' 13311::iw' 13312::iw' 19903::iw' 19968::iw' 40959::iw' 40960::iw' 42191::iw' 44032::iw' 55203::iw' 63744::iw' 64255::iw' 65072::iw' 65135::iw' 65281::iw' 65376::iw' 65504::iw' 65510::iw' 127744::iw' 127776::iw' 127789::iw' 127797::iw' 127799::iw' 127868::iw' 128000::iw' 128062::iw' 128064::iw' 128064::iw' 128066::iw' 128252::iw' 128512::iw' 128591::iw' 128640::iw' 128709::iw' 129280::iw' 129535::iw' 131072::iw' 196605::iw' 196608::iw' 262141::[]))) bA' ?_
 refine o' (OA_st (b:=b1) (m:=0) (k:=0) (vs:=(List.flatMap enc138 ((S138.mk 4352 4447)::(S138.mk 8986 8987)::(S138.mk 9001 9002)::(S138.mk 9193 9196)::(S138.mk 9725 9726)::(S138.mk 9748 9749)::(S138.mk 9800 9811)::(S138.mk 9889 9889)::(S138.mk 9917 9918)::(S138.mk 9989 9989)::(S138.mk 10024 10024)::(S138.mk 10060 10060)::(S138.mk 10067 10069)::(S138.mk 10133 10135)::(S138.mk 11035 11036)::(S138.mk 11088 11088)::(S138.mk 11904 12350)::(S138.mk 12353 13311)::(S138.mk 13312 19903)::(S138.mk 19968 40959)::(S138.mk 40960 42191)::(S138.mk 44032 55203)::(S138.mk 63744 64255)::(S138.mk 65072 65135)::(S138.mk 65281 65376)::(S138.mk 65504 65510)::(S138.mk 127744 127776)::(S138.mk 127789 127797)::(S138.mk 127799 127868)::(S138.mk 128000 128062)::(S138.mk 128064 128064)::(S138.mk 128066 128252)::(S138.mk 128512 128591)::(S138.mk 128640 128709)::(S138.mk 129280 129535)::(S138.mk 131072 196605)::(S138.mk 196608 262141)::[]))) (cs':=(List.flatMap enc138 ((S138.mk 4352 4447)::(S138.mk 8986 8987)::(S138.mk 9001 9002)::(S138.mk 9193 9196)::(S138.mk 9725 9726)::(S138.mk 9748 9749)::(S138.mk 9800 9811)::(S138.mk 9889 9889)::(S138.mk 9917 9918)::(S138.mk 9989 9989)::(S138.mk 10024 10024)::(S138.mk 10060 10060)::(S138.mk 10067 10069)::(S138.mk 10133 10135)::(S138.mk 11035 11036)::(S138.mk 11088 11088)::(S138.mk 11904 12350)::(S138.mk 12353 13311)::(S138.mk 13312 19903)::(S138.mk 19968 40959)::(S138.mk 40960 42191)::(S138.mk 44032 55203)::(S138.mk 63744 64255)::(S138.mk 65072 65135)::(S138.mk 65281 65376)::(S138.mk 65504 65510)::(S138.mk 127744 127776)::(S138.mk 127789 127797)::(S138.mk 127799 127868)::(S138.mk 128000 128062)::(S138.mk 128064 128064)::(S138.mk 128066 128252)::(S138.mk 128512 128591)::(S138.mk 128640 128709)::(S138.mk 129280 129535)::(S138.mk 131072 196605)::(S138.mk 196608 262141)::[]))) rfl rfl rfl rfl rfl (by kernel_rfl) sz139 rfl (by kernel_rfl) ?_)
 refine nt' ?_
 have h_:=oi' H;subst h_
 exact BQ_RL (rs:=[.cell 0 139]) (vs:=[.agg (List.toArray (iw' 4352::iw' 4447::iw' 8986::iw' 8987::iw' 9001::iw' 9002::iw' 9193::iw' 9196::iw' 9725::iw' 9726::iw' 9748::iw' 9749::iw' 9800::iw' 9811::iw' 9889::iw' 9889::iw' 9917::iw' 9918::iw' 9989::iw' 9989::iw' 10024::iw' 10024::iw' 10060::iw' 10060::iw' 10067::iw' 10069::iw' 10133::iw' 10135::iw' 11035::iw' 11036::iw' 11088::iw' 11088::iw' 11904::iw' 12350::iw' 12353::iw' 13311::iw' 13312::iw' 19903::iw' 19968::iw' 40959::iw' 40960::iw' 42191::iw' 44032::iw' 55203::iw' 63744::iw' 64255::iw' 65072::iw' 65135::iw' 65281::iw' 65376::iw' 65504::iw' 65510::iw' 127744::iw' 127776::iw' 127789::iw' 127797::iw' 127799::iw' 127868::iw' 128000::iw' 128062::iw' 128064::iw' 128064::iw' 128066::iw' 128252::iw' 128512::iw' 128591::iw' 128640::iw' 128709::iw' 129280::iw' 129535::iw' 131072::iw' 196605::iw' 196608::iw' 262141::[]))]) [] rfl ⟨RV.cell (k:=0) rfl rfl Tryz.underlying139 rfl sz139,trivial⟩ rfl (gs' []) ⟨(by kernel_rfl),rfl⟩


def F149.f  : Option ((List S138)):=some ((((S138.mk 768 879)::(S138.mk 1155 1161)::(S138.mk 1425 1469)::(S138.mk 1471 1471)::(S138.mk 1473 1474)::(S138.mk 1552 1562)::(S138.mk 1611 1631)::(S138.mk 1750 1756)::(S138.mk 2304 2306)::(S138.mk 2364 2364)::(S138.mk 2369 2376)::(S138.mk 2381 2381)::(S138.mk 3633 3633)::(S138.mk 3636 3642)::(S138.mk 6832 6911)::(S138.mk 7616 7679)::(S138.mk 8203 8207)::(S138.mk 8234 8238)::(S138.mk 8288 8292)::(S138.mk 8400 8447)::(S138.mk 12330 12333)::(S138.mk 12441 12442)::(S138.mk 65024 65039)::(S138.mk 65056 65071)::(S138.mk 65279 65279)::(S138.mk 917760 917999)::[]) : (List S138)))
theorem F149.ok  {r : (List S138)} (H : F149.f  = some r) : SCA Tryz.prog 149 #[] [] (fun v B=>v = .agg (List.flatMap enc138 ((rd r 0)::(rd r 1)::(rd r 2)::(rd r 3)::(rd r 4)::(rd r 5)::(rd r 6)::(rd r 7)::(rd r 8)::(rd r 9)::(rd r 10)::(rd r 11)::(rd r 12)::(rd r 13)::(rd r 14)::(rd r 15)::(rd r 16)::(rd r 17)::(rd r 18)::(rd r 19)::(rd r 20)::(rd r 21)::(rd r 22)::(rd r 23)::(rd r 24)::(rd r 25)::[])).toArray∧B = []):=by
 refine SCA_of_body Tryz.func149 rfl rfl ?_
 unfold F149.f at H
 refine qr' ?_
 refine o' (al' fun b1=>?_)
 refine nr' ?_
 refine s' (.agg #[iw' 768,iw' 879]) bA' ?_
 refine s' (.agg #[iw' 1155,iw' 1161]) bA' ?_
 refine s' (.agg #[iw' 1425,iw' 1469]) bA' ?_
 refine s' (.agg #[iw' 1471,iw' 1471]) bA' ?_
 refine s' (.agg #[iw' 1473,iw' 1474]) bA' ?_
 refine s' (.agg #[iw' 1552,iw' 1562]) bA' ?_
 refine s' (.agg #[iw' 1611,iw' 1631]) bA' ?_
 refine s' (.agg #[iw' 1750,iw' 1756]) bA' ?_
 refine s' (.agg #[iw' 2304,iw' 2306]) bA' ?_
 refine s' (.agg #[iw' 2364,iw' 2364]) bA' ?_
 refine s' (.agg #[iw' 2369,iw' 2376]) bA' ?_
 refine s' (.agg #[iw' 2381,iw' 2381]) bA' ?_
 refine s' (.agg #[iw' 3633,iw' 3633]) bA' ?_
 refine s' (.agg #[iw' 3636,iw' 3642]) bA' ?_
 refine s' (.agg #[iw' 6832,iw' 6911]) bA' ?_
 refine s' (.agg #[iw' 7616,iw' 7679]) bA' ?_
 refine s' (.agg #[iw' 8203,iw' 8207]) bA' ?_
 refine s' (.agg #[iw' 8234,iw' 8238]) bA' ?_
 refine s' (.agg #[iw' 8288,iw' 8292]) bA' ?_
 refine s' (.agg #[iw' 8400,iw' 8447]) bA' ?_
 refine s' (.agg #[iw' 12330,iw' 12333]) bA' ?_
 refine s' (.agg #[iw' 12441,iw' 12442]) bA' ?_
 refine s' (.agg #[iw' 65024,iw' 65039]) bA' ?_
 refine s' (.agg #[iw' 65056,iw' 65071]) bA' ?_
 refine s' (.agg #[iw' 65279,iw' 65279]) bA' ?_
 refine s' (.agg #[iw' 917760,iw' 917999]) bA' ?_
 refine s' (.agg (List.toArray (iw' 768::iw' 879::iw' 1155::iw' 1161::iw' 1425::iw' 1469::iw' 1471::iw' 1471::iw' 1473::iw' 1474::iw' 1552::iw' 1562::iw' 1611::iw' 1631::iw' 1750::iw' 1756::iw' 2304::iw' 2306::iw' 2364::iw' 2364::iw' 2369::iw' 2376::iw' 2381::iw' 2381::iw' 3633::iw' 3633::iw' 3636::iw' 3642::iw' 6832::iw' 6911::iw' 7616::iw' 7679::iw' 8203::iw' 8207::iw' 8234::iw' 8238::iw' 8288::iw' 8292::iw' 8400::iw' 8447::iw' 12330::iw' 12333::iw' 12441::iw' 12442::iw' 65024::iw' 65039::iw' 65056::iw' 65071::iw' 65279::iw' 65279::iw' 917760::iw' 917999::[]))) bA' ?_
 refine o' (OA_st (b:=b1) (m:=0) (k:=0) (vs:=(List.flatMap enc138 ((S138.mk 768 879)::(S138.mk 1155 1161)::(S138.mk 1425 1469)::(S138.mk 1471 1471)::(S138.mk 1473 1474)::(S138.mk 1552 1562)::(S138.mk 1611 1631)::(S138.mk 1750 1756)::(S138.mk 2304 2306)::(S138.mk 2364 2364)::(S138.mk 2369 2376)::(S138.mk 2381 2381)::(S138.mk 3633 3633)::(S138.mk 3636 3642)::(S138.mk 6832 6911)::(S138.mk 7616 7679)::(S138.mk 8203 8207)::(S138.mk 8234 8238)::(S138.mk 8288 8292)::(S138.mk 8400 8447)::(S138.mk 12330 12333)::(S138.mk 12441 12442)::(S138.mk 65024 65039)::(S138.mk 65056 65071)::(S138.mk 65279 65279)::(S138.mk 917760 917999)::[]))) (cs':=(List.flatMap enc138 ((S138.mk 768 879)::(S138.mk 1155 1161)::(S138.mk 1425 1469)::(S138.mk 1471 1471)::(S138.mk 1473 1474)::(S138.mk 1552 1562)::(S138.mk 1611 1631)::(S138.mk 1750 1756)::(S138.mk 2304 2306)::(S138.mk 2364 2364)::(S138.mk 2369 2376)::(S138.mk 2381 2381)::(S138.mk 3633 3633)::(S138.mk 3636 3642)::(S138.mk 6832 6911)::(S138.mk 7616 7679)::(S138.mk 8203 8207)::(S138.mk 8234 8238)::(S138.mk 8288 8292)::(S138.mk 8400 8447)::(S138.mk 12330 12333)::(S138.mk 12441 12442)::(S138.mk 65024 65039)::(S138.mk 65056 65071)::(S138.mk 65279 65279)::(S138.mk 917760 917999)::[]))) rfl rfl rfl rfl rfl (by kernel_rfl) sz141 rfl (by kernel_rfl) ?_)
 refine nt' ?_
 have h_:=oi' H;subst h_
 exact BQ_RL (rs:=[.cell 0 141]) (vs:=[.agg (List.toArray (iw' 768::iw' 879::iw' 1155::iw' 1161::iw' 1425::iw' 1469::iw' 1471::iw' 1471::iw' 1473::iw' 1474::iw' 1552::iw' 1562::iw' 1611::iw' 1631::iw' 1750::iw' 1756::iw' 2304::iw' 2306::iw' 2364::iw' 2364::iw' 2369::iw' 2376::iw' 2381::iw' 2381::iw' 3633::iw' 3633::iw' 3636::iw' 3642::iw' 6832::iw' 6911::iw' 7616::iw' 7679::iw' 8203::iw' 8207::iw' 8234::iw' 8238::iw' 8288::iw' 8292::iw' 8400::iw' 8447::iw' 12330::iw' 12333::iw' 12441::iw' 12442::iw' 65024::iw' 65039::iw' 65056::iw' 65071::iw' 65279::iw' 65279::iw' 917760::iw' 917999::[]))]) [] rfl ⟨RV.cell (k:=0) rfl rfl Tryz.underlying141 rfl sz141,trivial⟩ rfl (gs' []) ⟨(by kernel_rfl),rfl⟩


def F150.l0 (l0 : (List S138)) (a1 : Int) : Nat → Int → Int → Option (Out (Bool) (Unit))
  | 0,_,_=>none
  | k + 1,x5_4,x6_4=>if x5_4 < x6_4 then (lt (shrI .u64 (IntKind.u64.wrap (x5_4 + x6_4)) 1) fun n8=>if 0 ≤ n8∧n8 < (l0.length : Int) then (if a1 < ((rd l0 n8).f0) then (F150.l0 l0 a1 k x5_4 n8) else (if 0 ≤ n8∧n8 < (l0.length : Int) then (if a1 > ((rd l0 n8).f1) then (lt (IntKind.u64.wrap (n8 + 1)) fun n15=>F150.l0 l0 a1 k n15 x6_4) else (some (Out.ret (true)))) else none)) else none) else (some (Out.go ()))
def F150.f (k : Nat) (l0 : (List S138)) (a1 : Int) : Option (Bool):=lt (IntKind.u64.wrap ((l0.length : Int))) fun n2=>(F150.l0 l0 a1 k 0 n2 : Option (Out (Bool) (Unit))).bind (fun t3=>Out.el t3 (fun r_=>some r_) (fun s4=>some (false)))
theorem F150.ok {l0 : (List S138)} {a1 : Int} {A0 : Option Addr} {c0 : Nat} {r : Bool} (H : F150.f k l0 a1 = some r) : SCA Tryz.prog 150 #[.slice A0 l0.length c0,iw' a1] [Ro k138 A0 c0 l0] (fun v B=>v = .bool r∧B = []):=by
 refine SCA_of_body Tryz.func150 rfl rfl ?_
 unfold F150.f at H
 refine qr' ?_
 refine s' (.bool false) as' ?_
 refine nr' ?_
 refine s' (.slice A0 l0.length c0) mv' ?_
 refine s' (il' (l0.length : Int)) (V_len Tryz.underlying144 rfl) ?_
 refine s' (.int .u64 (IntKind.u64.wrap ((l0.length : Int)))) (V_conv (T:=3) (by kernel_rfl) Tryz.underlying146 rfl) ?_
 refine s' (.int .u64 0) as' ?_
 obtain⟨n2,hn2,H⟩:=g_lt H
 refine s' (.int .u64 n2) (V_assign (v:=.int .u64 n2) (congrArg (Value.int .u64) hn2.symm)) ?_
 refine na' (SA_seq ?_)
 obtain⟨t3,H,Bt3⟩:=g_bind H
 refine SA_mid (fun e ds As=>∃ (s4 : Unit),t3 = Out.go s4∧St [] [] e ds As) ?_ ?_
 ·refine SA_block ?_
  refine SA_loop (fun k_ e ds As=>∃ (x5_4 : Int) (x6_4 : Int),F150.l0 l0 a1 k_ x5_4 x6_4 = some t3∧St [(0,.slice A0 l0.length c0),(1,iw' a1),(5,.int .u64 x5_4),(6,.int .u64 x6_4)] [Ro k138 A0 c0 l0] e ds As) (k:=k) ⟨_,_,H,sq' [0]⟩ ?_
  clear H
  rintro k5 e ds As ⟨x5_4,x6_4,H,hst6⟩
  obtain _ | k5:=k5
  ·cases H
  rw [F150.l0] at H
  refine SA.of_St hst6 fun junk=>?_
  refine SA_seq (qr' ?_)
  refine s' (.int .u64 x5_4) mv' ?_
  refine s' (.int .u64 x6_4) mv' ?_
  refine s' (.bool (decide (x5_4 < x6_4))) (V_lss rfl rfl) ?_
  refine na' ?_
  by_cases h7 : x5_4 < x6_4
  ·replace H:=g_ift h7 H
   refine SA_condT rfl h7 ?_
   refine SA_skip (at_normal (SA_block (qr' ?_)))
   refine s' (.int .u64 x5_4) mv' ?_
   refine s' (.int .u64 x6_4) mv' ?_
   refine s' (.int .u64 (IntKind.u64.wrap (x5_4 + x6_4))) (V_add rfl rfl) ?_
   refine s' (.int .u64 (shrI .u64 (IntKind.u64.wrap (x5_4 + x6_4)) 1)) (V_shr rfl rfl (by decide)) ?_
   obtain⟨n8,hn8,H⟩:=g_lt H
   refine s' (.int .u64 n8) (V_assign (v:=.int .u64 n8) (congrArg (Value.int .u64) hn8.symm)) ?_
   refine na' (SA_block (qr' ?_))
   refine s' (iw' a1) mv' ?_
   refine s' (.slice A0 l0.length c0) mv' ?_
   refine s' (.int .u64 n8) mv' ?_
   obtain⟨⟨g9,g10⟩,H⟩:=g_pos H
   refine l' (VR_index (i:=n8) Tryz.underlying144 sz138 rfl rfl (Src.ro (k:=0) rfl) g9 g10) ?_
   refine s' (.pointer (some ((el A0 (n8.toNat * 2)).add 0))) (V_indexArr (B:=el A0 (n8.toNat * 2)) (m:=0) (o:=0) Tryz.underlying138 sz21 rfl rfl (by decide) (by decide) rfl) ?_
   refine l' (VR_load_el (enc:=enc138) (i:=n8) (j:=n8.toNat * 2) (m:=0) (sz:=2) Tryz.underlying21 rfl rfl rfl rfl (Src.ro (k:=0) rfl) g9 g10 (fun _ _ h=>h) rfl) ?_
   refine s' (.bool (decide (a1 < ((rd l0 n8).f0)))) (V_lss rfl rfl) ?_
   refine s' (.bool (decide (a1 < ((rd l0 n8).f0)))) as' ?_
   refine na' ?_
   by_cases h11 : a1 < ((rd l0 n8).f0)
   ·replace H:=g_ift h11 H
    refine SA_condT rfl h11 ?_
    refine SA_region ?_
    refine s' (.int .u64 n8) mv' ?_
    refine s' (.int .u64 n8) as' ?_
    refine RA_nil (inb_normal (inb_normal ?_))
    exact at_normal ⟨k5,Nat.lt_succ_self _,_,_,H,sq' [0]⟩
   replace H:=g_iff h11 H
   refine SA_condF rfl h11 ?_
   refine qr' ?_
   refine s' (iw' a1) mv' ?_
   refine s' (.slice A0 l0.length c0) mv' ?_
   refine s' (.int .u64 n8) mv' ?_
   obtain⟨⟨g12,g13⟩,H⟩:=g_pos H
   refine l' (VR_index (i:=n8) Tryz.underlying144 sz138 rfl rfl (Src.ro (k:=0) rfl) g12 g13) ?_
   refine s' (.pointer (some ((el A0 (n8.toNat * 2)).add 1))) (V_indexArr (B:=el A0 (n8.toNat * 2)) (m:=0) (o:=1) Tryz.underlying138 sz21 rfl rfl (by decide) (by decide) rfl) ?_
   refine l' (VR_load_el (enc:=enc138) (i:=n8) (j:=n8.toNat * 2) (m:=1) (sz:=2) Tryz.underlying21 rfl rfl rfl rfl (Src.ro (k:=0) rfl) g12 g13 (fun _ _ h=>h) rfl) ?_
   refine s' (.bool (decide (a1 > ((rd l0 n8).f1)))) (V_gtr rfl rfl) ?_
   refine s' (.bool (decide (a1 > ((rd l0 n8).f1)))) as' ?_
   refine na' ?_
   by_cases h14 : a1 > ((rd l0 n8).f1)
   ·replace H:=g_ift h14 H
    refine SA_condT rfl h14 ?_
    refine SA_region ?_
    refine s' (.int .u64 n8) mv' ?_
    refine s' (.int .u64 (IntKind.u64.wrap (n8 + 1))) (V_add rfl rfl) ?_
    obtain⟨n15,hn15,H⟩:=g_lt H
    refine s' (.int .u64 n15) (V_assign (v:=.int .u64 n15) (congrArg (Value.int .u64) hn15.symm)) ?_
    refine RA_nil (inb_normal (inb_normal ?_))
    exact at_normal ⟨k5,Nat.lt_succ_self _,_,_,H,sq' [0]⟩
   replace H:=g_iff h14 H
   refine SA_condF rfl h14 ?_
   refine qr' ?_
   refine s' (.bool true) as' ?_
   refine nt' (inb_ret (inb_ret (thn_ret (inb_ret (thn_ret (thn_ret ?_))))))
   have h_:=oi' H;subst h_
   have hb_:=el_ret Bt3
   have hr_:=Option.some.inj hb_
   clear hb_
   subst hr_
   exact b1' [] ⟨rfl,rfl⟩
  replace H:=g_iff h7 H
  refine SA_condF rfl h7 ?_
  refine SA_exit (thn_exit (thn_exit (inb_hit ?_)))
  have h_:=oi' H;subst h_
  exact at_normal ⟨(),rfl,sq' []⟩
 rintro e ds As ⟨s4,ht,hst16⟩
 clear H
 subst ht
 replace Bt3:=el_go Bt3
 have H:=Bt3
 clear Bt3
 refine at_normal ?_
 refine SA.of_St hst16 fun junk=>?_
 refine qr' ?_
 refine s' (.bool false) as' ?_
 refine nt' ?_
 have h_:=oi' H;subst h_
 exact b1' [] ⟨rfl,rfl⟩


def F117.f (k : Nat) (a0 : Int) : Option (Int):=(F148.f ).bind (fun r1=>(F149.f ).bind (fun r2=>(if a0 < 32 then (some true) else (if a0 ≥ 127 then (some (decide (a0 ≤ 159))) else (some false)) : Option Bool).bind (fun q7=>lt (q7 || (decide (a0 > 1114111))) fun q11=>(if q11 = true then (some true) else (if a0 ≥ 55296 then (some (decide (a0 ≤ 57343))) else (some false)) : Option Bool).bind (fun q14=>if q14 = true then (some ((-1))) else ((F150.f k (((rd r2 0)::(rd r2 1)::(rd r2 2)::(rd r2 3)::(rd r2 4)::(rd r2 5)::(rd r2 6)::(rd r2 7)::(rd r2 8)::(rd r2 9)::(rd r2 10)::(rd r2 11)::(rd r2 12)::(rd r2 13)::(rd r2 14)::(rd r2 15)::(rd r2 16)::(rd r2 17)::(rd r2 18)::(rd r2 19)::(rd r2 20)::(rd r2 21)::(rd r2 22)::(rd r2 23)::(rd r2 24)::(rd r2 25)::[]) : List S138) a0).bind (fun r20=>if r20 = true then (some (0)) else ((F150.f k (((rd r1 0)::(rd r1 1)::(rd r1 2)::(rd r1 3)::(rd r1 4)::(rd r1 5)::(rd r1 6)::(rd r1 7)::(rd r1 8)::(rd r1 9)::(rd r1 10)::(rd r1 11)::(rd r1 12)::(rd r1 13)::(rd r1 14)::(rd r1 15)::(rd r1 16)::(rd r1 17)::(rd r1 18)::(rd r1 19)::(rd r1 20)::(rd r1 21)::(rd r1 22)::(rd r1 23)::(rd r1 24)::(rd r1 25)::(rd r1 26)::(rd r1 27)::(rd r1 28)::(rd r1 29)::(rd r1 30)::(rd r1 31)::(rd r1 32)::(rd r1 33)::(rd r1 34)::(rd r1 35)::(rd r1 36)::[]) : List S138) a0).bind (fun r23=>if r23 = true then (some (2)) else (some (1))))))))))
theorem F117.ok {a0 : Int} {r : Int} (H : F117.f k a0 = some r) : SCA Tryz.prog 117 #[iw' a0] [] (fun v B=>v = il' r∧B = []):=by
 refine SCA_of_body Tryz.func117 rfl rfl ?_
 unfold F117.f at H
 refine qr' ?_
 refine s' (il' 0) as' ?_
 refine nr' ?_
 obtain⟨r1,C28,H⟩:=g_bind H
 refine o' (ca' [] [] (xf' []) (F148.ok C28) ?_)
 rintro _ _⟨rfl,rfl⟩
 obtain⟨r2,C27,H⟩:=g_bind H
 refine o' (ca' [] [] (xf' []) (F149.ok C27) ?_)
 rintro _ _⟨rfl,rfl⟩
 refine o' (al' fun b3=>?_)
 refine o' (al' fun b5=>?_)
 refine o' (OA_st (b:=b3) (m:=0) (k:=0) (vs:=(List.flatMap enc138 ((rd r1 0)::(rd r1 1)::(rd r1 2)::(rd r1 3)::(rd r1 4)::(rd r1 5)::(rd r1 6)::(rd r1 7)::(rd r1 8)::(rd r1 9)::(rd r1 10)::(rd r1 11)::(rd r1 12)::(rd r1 13)::(rd r1 14)::(rd r1 15)::(rd r1 16)::(rd r1 17)::(rd r1 18)::(rd r1 19)::(rd r1 20)::(rd r1 21)::(rd r1 22)::(rd r1 23)::(rd r1 24)::(rd r1 25)::(rd r1 26)::(rd r1 27)::(rd r1 28)::(rd r1 29)::(rd r1 30)::(rd r1 31)::(rd r1 32)::(rd r1 33)::(rd r1 34)::(rd r1 35)::(rd r1 36)::[]))) (cs':=(List.flatMap enc138 ((rd r1 0)::(rd r1 1)::(rd r1 2)::(rd r1 3)::(rd r1 4)::(rd r1 5)::(rd r1 6)::(rd r1 7)::(rd r1 8)::(rd r1 9)::(rd r1 10)::(rd r1 11)::(rd r1 12)::(rd r1 13)::(rd r1 14)::(rd r1 15)::(rd r1 16)::(rd r1 17)::(rd r1 18)::(rd r1 19)::(rd r1 20)::(rd r1 21)::(rd r1 22)::(rd r1 23)::(rd r1 24)::(rd r1 25)::(rd r1 26)::(rd r1 27)::(rd r1 28)::(rd r1 29)::(rd r1 30)::(rd r1 31)::(rd r1 32)::(rd r1 33)::(rd r1 34)::(rd r1 35)::(rd r1 36)::[]))) rfl rfl rfl rfl rfl (by kernel_rfl) sz139 rfl (by kernel_rfl) ?_)
 refine o' (OA_st (b:=b5) (m:=0) (k:=1) (vs:=(List.flatMap enc138 ((rd r2 0)::(rd r2 1)::(rd r2 2)::(rd r2 3)::(rd r2 4)::(rd r2 5)::(rd r2 6)::(rd r2 7)::(rd r2 8)::(rd r2 9)::(rd r2 10)::(rd r2 11)::(rd r2 12)::(rd r2 13)::(rd r2 14)::(rd r2 15)::(rd r2 16)::(rd r2 17)::(rd r2 18)::(rd r2 19)::(rd r2 20)::(rd r2 21)::(rd r2 22)::(rd r2 23)::(rd r2 24)::(rd r2 25)::[]))) (cs':=(List.flatMap enc138 ((rd r2 0)::(rd r2 1)::(rd r2 2)::(rd r2 3)::(rd r2 4)::(rd r2 5)::(rd r2 6)::(rd r2 7)::(rd r2 8)::(rd r2 9)::(rd r2 10)::(rd r2 11)::(rd r2 12)::(rd r2 13)::(rd r2 14)::(rd r2 15)::(rd r2 16)::(rd r2 17)::(rd r2 18)::(rd r2 19)::(rd r2 20)::(rd r2 21)::(rd r2 22)::(rd r2 23)::(rd r2 24)::(rd r2 25)::[]))) rfl rfl rfl rfl rfl (by kernel_rfl) sz141 rfl (by kernel_rfl) ?_)
 refine na' (SA_seq (SA_block (qr' ?_)))
 refine s' (iw' a0) mv' ?_
 refine s' (.bool (decide (a0 < 32))) (V_lss rfl rfl) ?_
 refine s' (.bool (decide (a0 < 32))) mv' ?_
 obtain⟨q7,H,Bq7⟩:=g_bind H
 refine cR' 7 [(0,iw' a0),(3,pt' b3),(4,pt' b5),(17,.bool q7)] [Blk b3 139 (List.flatMap enc138 ((rd r1 0)::(rd r1 1)::(rd r1 2)::(rd r1 3)::(rd r1 4)::(rd r1 5)::(rd r1 6)::(rd r1 7)::(rd r1 8)::(rd r1 9)::(rd r1 10)::(rd r1 11)::(rd r1 12)::(rd r1 13)::(rd r1 14)::(rd r1 15)::(rd r1 16)::(rd r1 17)::(rd r1 18)::(rd r1 19)::(rd r1 20)::(rd r1 21)::(rd r1 22)::(rd r1 23)::(rd r1 24)::(rd r1 25)::(rd r1 26)::(rd r1 27)::(rd r1 28)::(rd r1 29)::(rd r1 30)::(rd r1 31)::(rd r1 32)::(rd r1 33)::(rd r1 34)::(rd r1 35)::(rd r1 36)::[])),Blk b5 141 (List.flatMap enc138 ((rd r2 0)::(rd r2 1)::(rd r2 2)::(rd r2 3)::(rd r2 4)::(rd r2 5)::(rd r2 6)::(rd r2 7)::(rd r2 8)::(rd r2 9)::(rd r2 10)::(rd r2 11)::(rd r2 12)::(rd r2 13)::(rd r2 14)::(rd r2 15)::(rd r2 16)::(rd r2 17)::(rd r2 18)::(rd r2 19)::(rd r2 20)::(rd r2 21)::(rd r2 22)::(rd r2 23)::(rd r2 24)::(rd r2 25)::[]))] ?_ fun junk=>?_
 ·by_cases h8 : a0 < 32
  ·replace H:=g_ift h8 H
   refine no' 3 (dec_t h8) ?_
   refine nu' ?_
   refine nu' ?_
   refine no' 1 (dec_t h8) ?_
   refine pT' (dec_t h8) ?_
   have h_:=oi' H;subst h_
   exact rm' [0,1]
  replace H:=g_iff h8 H
  refine y' (dec_f h8) (iw' a0) mv' ?_
  refine y' (dec_f h8) (.bool (decide (a0 ≥ 127))) (V_geq rfl rfl) ?_
  refine y' (dec_f h8) (.bool (decide (a0 ≥ 127))) mv' ?_
  by_cases h9 : a0 ≥ 127
  ·replace H:=g_ift h9 H
   refine y' (dec_t h9) (iw' a0) mv' ?_
   refine y' (dec_t h9) (.bool (decide (a0 ≤ 159))) (V_leq rfl rfl) ?_
   refine yo' (dec_f h8) (OA_v rfl (V_pickT rfl (dec_t h9) rfl) ?_)
   refine pF' (dec_f h8) ?_
   have h_:=oi' H;subst h_
   exact rm' [0,1]
  replace H:=g_iff h9 H
  refine no' 2 (dec_f h9) ?_
  refine yo' (dec_f h8) (OA_v rfl (V_pickF rfl (dec_f h9) rfl) ?_)
  refine pF' (dec_f h8) ?_
  have h_:=oi' H;subst h_
  exact rm' [0,1]
 replace H:=Bq7
 refine s' (.bool q7) mv' ?_
 obtain⟨q11,hq11,H⟩:=g_lt H
 refine cR' 3 [(0,iw' a0),(3,pt' b3),(4,pt' b5),(21,.bool q11)] [Blk b3 139 (List.flatMap enc138 ((rd r1 0)::(rd r1 1)::(rd r1 2)::(rd r1 3)::(rd r1 4)::(rd r1 5)::(rd r1 6)::(rd r1 7)::(rd r1 8)::(rd r1 9)::(rd r1 10)::(rd r1 11)::(rd r1 12)::(rd r1 13)::(rd r1 14)::(rd r1 15)::(rd r1 16)::(rd r1 17)::(rd r1 18)::(rd r1 19)::(rd r1 20)::(rd r1 21)::(rd r1 22)::(rd r1 23)::(rd r1 24)::(rd r1 25)::(rd r1 26)::(rd r1 27)::(rd r1 28)::(rd r1 29)::(rd r1 30)::(rd r1 31)::(rd r1 32)::(rd r1 33)::(rd r1 34)::(rd r1 35)::(rd r1 36)::[])),Blk b5 141 (List.flatMap enc138 ((rd r2 0)::(rd r2 1)::(rd r2 2)::(rd r2 3)::(rd r2 4)::(rd r2 5)::(rd r2 6)::(rd r2 7)::(rd r2 8)::(rd r2 9)::(rd r2 10)::(rd r2 11)::(rd r2 12)::(rd r2 13)::(rd r2 14)::(rd r2 15)::(rd r2 16)::(rd r2 17)::(rd r2 18)::(rd r2 19)::(rd r2 20)::(rd r2 21)::(rd r2 22)::(rd r2 23)::(rd r2 24)::(rd r2 25)::[]))] ?_ fun junk=>?_
 ·by_cases h12 : q7 = true
  ·refine no' 2 h12 ?_
   refine pT' h12 ?_
   refine RA_nil ?_
   exact at_normal (St.mk1 (aeq rfl (aeq rfl (aeq rfl (aeq (congrArg Value.bool (or_t hq11 (h12))) aeq0)))) (gs' [0,1]))
  refine y' (bno h12) (iw' a0) mv' ?_
  refine y' (bno h12) (.bool (decide (a0 > 1114111))) (V_gtr rfl rfl) ?_
  refine pF' (bno h12) ?_
  refine RA_nil ?_
  exact at_normal (St.mk1 (aeq rfl (aeq rfl (aeq rfl (aeq (congrArg Value.bool (or_f hq11 (bno h12))) aeq0)))) (gs' [0,1]))
 refine s' (.bool q11) mv' ?_
 obtain⟨q14,H,Bq14⟩:=g_bind H
 refine cR' 7 [(0,iw' a0),(3,pt' b3),(4,pt' b5),(29,.bool q14)] [Blk b3 139 (List.flatMap enc138 ((rd r1 0)::(rd r1 1)::(rd r1 2)::(rd r1 3)::(rd r1 4)::(rd r1 5)::(rd r1 6)::(rd r1 7)::(rd r1 8)::(rd r1 9)::(rd r1 10)::(rd r1 11)::(rd r1 12)::(rd r1 13)::(rd r1 14)::(rd r1 15)::(rd r1 16)::(rd r1 17)::(rd r1 18)::(rd r1 19)::(rd r1 20)::(rd r1 21)::(rd r1 22)::(rd r1 23)::(rd r1 24)::(rd r1 25)::(rd r1 26)::(rd r1 27)::(rd r1 28)::(rd r1 29)::(rd r1 30)::(rd r1 31)::(rd r1 32)::(rd r1 33)::(rd r1 34)::(rd r1 35)::(rd r1 36)::[])),Blk b5 141 (List.flatMap enc138 ((rd r2 0)::(rd r2 1)::(rd r2 2)::(rd r2 3)::(rd r2 4)::(rd r2 5)::(rd r2 6)::(rd r2 7)::(rd r2 8)::(rd r2 9)::(rd r2 10)::(rd r2 11)::(rd r2 12)::(rd r2 13)::(rd r2 14)::(rd r2 15)::(rd r2 16)::(rd r2 17)::(rd r2 18)::(rd r2 19)::(rd r2 20)::(rd r2 21)::(rd r2 22)::(rd r2 23)::(rd r2 24)::(rd r2 25)::[]))] ?_ fun junk=>?_
 ·by_cases h15 : q11 = true
  ·replace H:=g_ift h15 H
   refine no' 3 h15 ?_
   refine nu' ?_
   refine nu' ?_
   refine no' 1 h15 ?_
   refine pT' h15 ?_
   have h_:=oi' H;subst h_
   exact rm' [0,1]
  replace H:=g_iff h15 H
  refine y' (bno h15) (iw' a0) mv' ?_
  refine y' (bno h15) (.bool (decide (a0 ≥ 55296))) (V_geq rfl rfl) ?_
  refine y' (bno h15) (.bool (decide (a0 ≥ 55296))) mv' ?_
  by_cases h16 : a0 ≥ 55296
  ·replace H:=g_ift h16 H
   refine y' (dec_t h16) (iw' a0) mv' ?_
   refine y' (dec_t h16) (.bool (decide (a0 ≤ 57343))) (V_leq rfl rfl) ?_
   refine yo' (bno h15) (OA_v rfl (V_pickT rfl (dec_t h16) rfl) ?_)
   refine pF' (bno h15) ?_
   have h_:=oi' H;subst h_
   exact rm' [0,1]
  replace H:=g_iff h16 H
  refine no' 2 (dec_f h16) ?_
  refine yo' (bno h15) (OA_v rfl (V_pickF rfl (dec_f h16) rfl) ?_)
  refine pF' (bno h15) ?_
  have h_:=oi' H;subst h_
  exact rm' [0,1]
 replace H:=Bq14
 refine s' (.bool q14) as' ?_
 refine na' ?_
 by_cases h18 : q14 = true
 ·replace H:=g_ift h18 H
  refine SA_condTb rfl h18 ?_
  refine qr' ?_
  refine s' (il' (-1)) as' ?_
  refine nt' (inb_ret (thn_ret ?_))
  have h_:=oi' H;subst h_
  exact b1' [] ⟨rfl,rfl⟩
 replace H:=g_iff h18 H
 refine SA_condFb rfl h18 ?_
 refine qr' ?_
 refine o' (OA.ghost (Gh.blkRo (kd:=k138) (k:=1) (xs:=(((rd r2 0)::(rd r2 1)::(rd r2 2)::(rd r2 3)::(rd r2 4)::(rd r2 5)::(rd r2 6)::(rd r2 7)::(rd r2 8)::(rd r2 9)::(rd r2 10)::(rd r2 11)::(rd r2 12)::(rd r2 13)::(rd r2 14)::(rd r2 15)::(rd r2 16)::(rd r2 17)::(rd r2 18)::(rd r2 19)::(rd r2 20)::(rd r2 21)::(rd r2 22)::(rd r2 23)::(rd r2 24)::(rd r2 25)::[]) : List S138)) rfl (RL_enc enc138 (fun _ _=>rfl) (by kernel_rfl)) rfl) (OA_v (v:=.slice (some ⟨b5,0,none⟩) 26 26) rfl (V_sliceArr Tryz.underlying141 sz138 rfl) ?_))
 refine s' (iw' a0) mv' ?_
 obtain⟨r20,C26,H⟩:=g_bind H
 refine o' (ca' [1] [0,1] (xf' [.slice (some ⟨b5,0,none⟩) (((rd r2 0)::(rd r2 1)::(rd r2 2)::(rd r2 3)::(rd r2 4)::(rd r2 5)::(rd r2 6)::(rd r2 7)::(rd r2 8)::(rd r2 9)::(rd r2 10)::(rd r2 11)::(rd r2 12)::(rd r2 13)::(rd r2 14)::(rd r2 15)::(rd r2 16)::(rd r2 17)::(rd r2 18)::(rd r2 19)::(rd r2 20)::(rd r2 21)::(rd r2 22)::(rd r2 23)::(rd r2 24)::(rd r2 25)::[]) : List S138).length 26,iw' a0]) (F150.ok (l0:=(((rd r2 0)::(rd r2 1)::(rd r2 2)::(rd r2 3)::(rd r2 4)::(rd r2 5)::(rd r2 6)::(rd r2 7)::(rd r2 8)::(rd r2 9)::(rd r2 10)::(rd r2 11)::(rd r2 12)::(rd r2 13)::(rd r2 14)::(rd r2 15)::(rd r2 16)::(rd r2 17)::(rd r2 18)::(rd r2 19)::(rd r2 20)::(rd r2 21)::(rd r2 22)::(rd r2 23)::(rd r2 24)::(rd r2 25)::[]) : List S138)) (A0:=some ⟨b5,0,none⟩) (c0:=26) (a1:=a0) C26) ?_)
 rintro _ _⟨rfl,rfl⟩
 refine s' (.bool r20) as' ?_
 refine na' ?_
 by_cases h21 : r20 = true
 ·replace H:=g_ift h21 H
  refine SA_condTb rfl h21 ?_
  refine qr' ?_
  refine s' (il' 0) as' ?_
  refine nt' (inb_ret (thn_ret ?_))
  have h_:=oi' H;subst h_
  exact b1' [] ⟨rfl,rfl⟩
 replace H:=g_iff h21 H
 refine SA_condFb rfl h21 ?_
 refine qr' ?_
 refine o' (OA.ghost (Gh.blkRo (kd:=k138) (k:=0) (xs:=(((rd r1 0)::(rd r1 1)::(rd r1 2)::(rd r1 3)::(rd r1 4)::(rd r1 5)::(rd r1 6)::(rd r1 7)::(rd r1 8)::(rd r1 9)::(rd r1 10)::(rd r1 11)::(rd r1 12)::(rd r1 13)::(rd r1 14)::(rd r1 15)::(rd r1 16)::(rd r1 17)::(rd r1 18)::(rd r1 19)::(rd r1 20)::(rd r1 21)::(rd r1 22)::(rd r1 23)::(rd r1 24)::(rd r1 25)::(rd r1 26)::(rd r1 27)::(rd r1 28)::(rd r1 29)::(rd r1 30)::(rd r1 31)::(rd r1 32)::(rd r1 33)::(rd r1 34)::(rd r1 35)::(rd r1 36)::[]) : List S138)) rfl (RL_enc enc138 (fun _ _=>rfl) (by kernel_rfl)) rfl) (OA_v (v:=.slice (some ⟨b3,0,none⟩) 37 37) rfl (V_sliceArr Tryz.underlying139 sz138 rfl) ?_))
 refine s' (iw' a0) mv' ?_
 obtain⟨r23,C25,H⟩:=g_bind H
 refine o' (ca' [0] [0,1] (xf' [.slice (some ⟨b3,0,none⟩) (((rd r1 0)::(rd r1 1)::(rd r1 2)::(rd r1 3)::(rd r1 4)::(rd r1 5)::(rd r1 6)::(rd r1 7)::(rd r1 8)::(rd r1 9)::(rd r1 10)::(rd r1 11)::(rd r1 12)::(rd r1 13)::(rd r1 14)::(rd r1 15)::(rd r1 16)::(rd r1 17)::(rd r1 18)::(rd r1 19)::(rd r1 20)::(rd r1 21)::(rd r1 22)::(rd r1 23)::(rd r1 24)::(rd r1 25)::(rd r1 26)::(rd r1 27)::(rd r1 28)::(rd r1 29)::(rd r1 30)::(rd r1 31)::(rd r1 32)::(rd r1 33)::(rd r1 34)::(rd r1 35)::(rd r1 36)::[]) : List S138).length 37,iw' a0]) (F150.ok (l0:=(((rd r1 0)::(rd r1 1)::(rd r1 2)::(rd r1 3)::(rd r1 4)::(rd r1 5)::(rd r1 6)::(rd r1 7)::(rd r1 8)::(rd r1 9)::(rd r1 10)::(rd r1 11)::(rd r1 12)::(rd r1 13)::(rd r1 14)::(rd r1 15)::(rd r1 16)::(rd r1 17)::(rd r1 18)::(rd r1 19)::(rd r1 20)::(rd r1 21)::(rd r1 22)::(rd r1 23)::(rd r1 24)::(rd r1 25)::(rd r1 26)::(rd r1 27)::(rd r1 28)::(rd r1 29)::(rd r1 30)::(rd r1 31)::(rd r1 32)::(rd r1 33)::(rd r1 34)::(rd r1 35)::(rd r1 36)::[]) : List S138)) (A0:=some ⟨b3,0,none⟩) (c0:=37) (a1:=a0) C25) ?_)
 rintro _ _⟨rfl,rfl⟩
 refine s' (.bool r23) as' ?_
 refine na' ?_
 by_cases h24 : r23 = true
 ·replace H:=g_ift h24 H
  refine SA_condTb rfl h24 ?_
  refine qr' ?_
  refine s' (il' 2) as' ?_
  refine nt' (inb_ret (thn_ret ?_))
  have h_:=oi' H;subst h_
  exact b1' [] ⟨rfl,rfl⟩
 replace H:=g_iff h24 H
 refine SA_condFb rfl h24 ?_
 refine SA_skip (inb_normal (at_normal (qr' ?_)))
 refine s' (il' 1) as' ?_
 refine nt' ?_
 have h_:=oi' H;subst h_
 exact b1' [] ⟨rfl,rfl⟩

end Go.Proofs.YtckilbegmbaeeaaGreat.Z4

/- What functions compute, and that they do: 110, 140b0, 141, 142, 15b0, 54b0, 55b0, 99. -/
import Derived.Test.YtckilbegmbaeeaaGreatZ50
import Derived.Test.YtckilbegmbaeeaaGreatZ51
namespace Go.Proofs.YtckilbegmbaeeaaGreat.Z5
open Go Go.RowKit Go.Proofs.YtckilbegmbaeeaaGreat.SL
set_option linter.unusedVariables false
set_option maxHeartbeats 20000000
set_option maxRecDepth 100000
set_option linter.unusedSimpArgs false
attribute [local irreducible] IntKind.wrap minI maxI shrI shlI andI orI xorI andNotI cplI rd sub bytesOf strOf slA
variable {k : Nat}
def F141.f  : Option ((List S151)):=some ((((S151.mk 768 879)::(S151.mk 1155 1161)::(S151.mk 1425 1469)::(S151.mk 1471 1471)::(S151.mk 1473 1474)::(S151.mk 1552 1562)::(S151.mk 1611 1631)::(S151.mk 1750 1756)::(S151.mk 2304 2306)::(S151.mk 2364 2364)::(S151.mk 2369 2376)::(S151.mk 2381 2381)::(S151.mk 3633 3633)::(S151.mk 3636 3642)::(S151.mk 6832 6911)::(S151.mk 7616 7679)::(S151.mk 8203 8207)::(S151.mk 8234 8238)::(S151.mk 8288 8292)::(S151.mk 8400 8447)::(S151.mk 12330 12333)::(S151.mk 12441 12442)::(S151.mk 65024 65039)::(S151.mk 65056 65071)::(S151.mk 65279 65279)::(S151.mk 917760 917999)::[]) : (List S151)))
theorem F141.ok  {r : (List S151)} (H : F141.f  = some r) : SCA Tryz.prog 141 #[] [] (fun v B=>∃ A0_0_ c0_0_,v = .slice A0_0_ r.length c0_0_∧B = [Buf k151 151 A0_0_ c0_0_ r]):=by
 refine SCA_of_body Tryz.func141 rfl rfl ?_
 unfold F141.f at H
 refine qr' ?_
 refine s' (.slice none 0 0) as' ?_
 refine nr' ?_
 refine s' (.agg #[iw' 768,iw' 879]) bd' ?_
 refine s' (.agg #[iw' 1155,iw' 1161]) bd' ?_
 refine s' (.agg #[iw' 1425,iw' 1469]) bd' ?_
 refine s' (.agg #[iw' 1471,iw' 1471]) bd' ?_
 refine s' (.agg #[iw' 1473,iw' 1474]) bd' ?_
 refine s' (.agg #[iw' 1552,iw' 1562]) bd' ?_
 refine s' (.agg #[iw' 1611,iw' 1631]) bd' ?_
 refine s' (.agg #[iw' 1750,iw' 1756]) bd' ?_
 refine s' (.agg #[iw' 2304,iw' 2306]) bd' ?_
 refine s' (.agg #[iw' 2364,iw' 2364]) bd' ?_
 refine s' (.agg #[iw' 2369,iw' 2376]) bd' ?_
 refine s' (.agg #[iw' 2381,iw' 2381]) bd' ?_
 refine s' (.agg #[iw' 3633,iw' 3633]) bd' ?_
 refine s' (.agg #[iw' 3636,iw' 3642]) bd' ?_
 refine s' (.agg #[iw' 6832,iw' 6911]) bd' ?_
 refine s' (.agg #[iw' 7616,iw' 7679]) bd' ?_
 refine s' (.agg #[iw' 8203,iw' 8207]) bd' ?_
 refine s' (.agg #[iw' 8234,iw' 8238]) bd' ?_
 refine s' (.agg #[iw' 8288,iw' 8292]) bd' ?_
 refine s' (.agg #[iw' 8400,iw' 8447]) bd' ?_
 refine s' (.agg #[iw' 12330,iw' 12333]) bd' ?_
 refine s' (.agg #[iw' 12441,iw' 12442]) bd' ?_
 refine s' (.agg #[iw' 65024,iw' 65039]) bd' ?_
 refine s' (.agg #[iw' 65056,iw' 65071]) bd' ?_
 refine s' (.agg #[iw' 65279,iw' 65279]) bd' ?_
 refine s' (.agg #[iw' 917760,iw' 917999]) bd' ?_
 refine o' (OA_bs (kd:=k151) (zv:=(.agg #[iw' 0,iw' 0])) (sz:=2) (cells:=(iw' 768::iw' 879::iw' 1155::iw' 1161::iw' 1425::iw' 1469::iw' 1471::iw' 1471::iw' 1473::iw' 1474::iw' 1552::iw' 1562::iw' 1611::iw' 1631::iw' 1750::iw' 1756::iw' 2304::iw' 2306::iw' 2364::iw' 2364::iw' 2369::iw' 2376::iw' 2381::iw' 2381::iw' 3633::iw' 3633::iw' 3636::iw' 3642::iw' 6832::iw' 6911::iw' 7616::iw' 7679::iw' 8203::iw' 8207::iw' 8234::iw' 8238::iw' 8288::iw' 8292::iw' 8400::iw' 8447::iw' 12330::iw' 12333::iw' 12441::iw' 12442::iw' 65024::iw' 65039::iw' 65056::iw' 65071::iw' 65279::iw' 65279::iw' 917760::iw' 917999::[])) (xs:=(((S151.mk 768 879)::(S151.mk 1155 1161)::(S151.mk 1425 1469)::(S151.mk 1471 1471)::(S151.mk 1473 1474)::(S151.mk 1552 1562)::(S151.mk 1611 1631)::(S151.mk 1750 1756)::(S151.mk 2304 2306)::(S151.mk 2364 2364)::(S151.mk 2369 2376)::(S151.mk 2381 2381)::(S151.mk 3633 3633)::(S151.mk 3636 3642)::(S151.mk 6832 6911)::(S151.mk 7616 7679)::(S151.mk 8203 8207)::(S151.mk 8234 8238)::(S151.mk 8288 8292)::(S151.mk 8400 8447)::(S151.mk 12330 12333)::(S151.mk 12441 12442)::(S151.mk 65024 65039)::(S151.mk 65056 65071)::(S151.mk 65279 65279)::(S151.mk 917760 917999)::[]) : (List S151))) rfl Tryz.underlying132 zero151 sz151 rfl rfl rfl (by kernel_rfl) rfl rfl (RL_enc enc151 (fun _ _=>rfl) (by kernel_rfl)) fun b1=>?_)
 refine s' (.slice (some ⟨b1,0,none⟩) (((S151.mk 768 879)::(S151.mk 1155 1161)::(S151.mk 1425 1469)::(S151.mk 1471 1471)::(S151.mk 1473 1474)::(S151.mk 1552 1562)::(S151.mk 1611 1631)::(S151.mk 1750 1756)::(S151.mk 2304 2306)::(S151.mk 2364 2364)::(S151.mk 2369 2376)::(S151.mk 2381 2381)::(S151.mk 3633 3633)::(S151.mk 3636 3642)::(S151.mk 6832 6911)::(S151.mk 7616 7679)::(S151.mk 8203 8207)::(S151.mk 8234 8238)::(S151.mk 8288 8292)::(S151.mk 8400 8447)::(S151.mk 12330 12333)::(S151.mk 12441 12442)::(S151.mk 65024 65039)::(S151.mk 65056 65071)::(S151.mk 65279 65279)::(S151.mk 917760 917999)::[]) : (List S151)).length 26) as' ?_
 refine nt' ?_
 have h_:=oi' H;subst h_
 exact b1' [0] ⟨some ⟨b1,0,none⟩,26,rfl,rfl⟩


def F140b0.l0 (l0 : (List S151)) (a1 : Int) : Nat → Int → Option (Out (Bool) (Unit))
  | 0,_=>none
  | k + 1,x5_3=>if x5_3 < (l0.length : Int) then (if 0 ≤ x5_3∧x5_3 < (l0.length : Int) then ((if a1 ≥ ((rd l0 x5_3).f0) then (if 0 ≤ x5_3∧x5_3 < (l0.length : Int) then (some (decide (a1 ≤ ((rd l0 x5_3).f1)))) else none) else (some false) : Option Bool).bind (fun q9=>if q9 = true then (some (Out.ret (true))) else (lt (IntKind.i64.wrap (x5_3 + 1)) fun n15=>F140b0.l0 l0 a1 k n15))) else none) else (some (Out.go ()))
def F140b0.f (k : Nat) (l0 : (List S151)) (a1 : Int) : Option (Bool):=(F140b0.l0 l0 a1 k 0 : Option (Out (Bool) (Unit))).bind (fun t2=>Out.el t2 (fun r_=>some r_) (fun s3=>some (false)))
theorem F140b0.ok {l0 : (List S151)} {a1 : Int} {A0 : Option Addr} {c0 : Nat} {r : Bool} (H : F140b0.f k l0 a1 = some r) : SCA Tryz.prog 140 #[.slice A0 l0.length c0,iw' a1] [Buf k151 151 A0 c0 l0] (fun v B=>v = .bool r∧B = [Buf k151 151 A0 c0 l0]):=by
 refine SCA_of_body Tryz.func140 rfl rfl ?_
 unfold F140b0.f at H
 refine qr' ?_
 refine s' (.bool false) as' ?_
 refine nq' ?_
 refine s' (il' 0) as' ?_
 refine na' ?_
 obtain⟨t2,H,Bt2⟩:=g_bind H
 refine SA_mid (fun e ds As=>∃ (s3 : Unit),t2 = Out.go s3∧St [] [Buf k151 151 A0 c0 l0] e ds As) ?_ ?_
 ·refine SA_block ?_
  refine SA_loop (fun k_ e ds As=>∃ (x5_3 : Int),F140b0.l0 l0 a1 k_ x5_3 = some t2∧St [(0,.slice A0 l0.length c0),(1,iw' a1),(5,il' x5_3)] [Buf k151 151 A0 c0 l0] e ds As) (k:=k) ⟨_,H,sq' [0]⟩ ?_
  clear H
  rintro k4 e ds As ⟨x5_3,H,hst5⟩
  obtain _ | k4:=k4
  ·cases H
  rw [F140b0.l0] at H
  refine SA.of_St hst5 fun junk=>?_
  refine SA_seq (qr' ?_)
  refine s' (il' x5_3) mv' ?_
  refine s' (.slice A0 l0.length c0) mv' ?_
  refine s' (il' (l0.length : Int)) (V_len Tryz.underlying132 rfl) ?_
  refine s' (.bool (decide (x5_3 < (l0.length : Int)))) (V_lss rfl rfl) ?_
  refine na' ?_
  by_cases h6 : x5_3 < (l0.length : Int)
  ·replace H:=g_ift h6 H
   refine SA_condT rfl h6 ?_
   refine SA_skip (at_normal (SA_seq (SA_block (qr' ?_))))
   refine s' (iw' a1) mv' ?_
   refine s' (.slice A0 l0.length c0) mv' ?_
   refine s' (il' x5_3) mv' ?_
   obtain⟨⟨g7,g8⟩,H⟩:=g_pos H
   refine l' (VR_index (i:=x5_3) Tryz.underlying132 sz151 rfl rfl (Src.buf (k:=0) rfl) g7 g8) ?_
   refine s' (.pointer (some ((el A0 (x5_3.toNat * 2)).add 0))) (fB' (el A0 (x5_3.toNat * 2)) 0 0) ?_
   refine l' (VR_load_el (enc:=enc151) (i:=x5_3) (j:=x5_3.toNat * 2) (m:=0) (sz:=2) Tryz.underlying21 rfl rfl rfl rfl (Src.buf (k:=0) rfl) g7 g8 (fun _ _ h=>h) rfl) ?_
   refine s' (.bool (decide (a1 ≥ ((rd l0 x5_3).f0)))) (V_geq rfl rfl) ?_
   refine s' (.bool (decide (a1 ≥ ((rd l0 x5_3).f0)))) mv' ?_
   obtain⟨q9,H,Bq9⟩:=g_bind H
   refine RA_cut 8 (fun e ds As=>St [(0,.slice A0 l0.length c0),(1,iw' a1),(5,il' x5_3),(27,.bool q9)] [Buf k151 151 A0 c0 l0] e ds As) ?_ ?_
   ·by_cases h10 : a1 ≥ ((rd l0 x5_3).f0)
    ·replace H:=g_ift h10 H
     refine y' (dec_t h10) (iw' a1) mv' ?_
     refine y' (dec_t h10) (.slice A0 l0.length c0) mv' ?_
     refine y' (dec_t h10) (il' x5_3) mv' ?_
     obtain⟨⟨g11,g12⟩,H⟩:=g_pos H
     refine z' (dec_t h10) (VR_index (i:=x5_3) Tryz.underlying132 sz151 rfl rfl (Src.buf (k:=0) rfl) g11 g12) ?_
     refine y' (dec_t h10) (.pointer (some ((el A0 (x5_3.toNat * 2)).add 1))) (fB' (el A0 (x5_3.toNat * 2)) 0 1) ?_
     refine z' (dec_t h10) (VR_load_el (enc:=enc151) (i:=x5_3) (j:=x5_3.toNat * 2) (m:=1) (sz:=2) Tryz.underlying21 rfl rfl rfl rfl (Src.buf (k:=0) rfl) g11 g12 (fun _ _ h=>h) rfl) ?_
     refine y' (dec_t h10) (.bool (decide (a1 ≤ ((rd l0 x5_3).f1)))) (V_leq rfl rfl) ?_
     refine pT' (dec_t h10) ?_
     have h_:=oi' H;subst h_
     exact rm' [0]
    replace H:=g_iff h10 H
    refine no' 7 (dec_f h10) ?_
    refine pF' (dec_f h10) ?_
    have h_:=oi' H;subst h_
    exact rm' [0]
   rintro e ds As hst13
   clear H
   have H:=Bq9
   clear Bq9
   refine na' ?_
   refine SA.of_St hst13 fun junk=>?_
   by_cases h14 : q9 = true
   ·replace H:=g_ift h14 H
    refine SA_condTb rfl h14 ?_
    refine qr' ?_
    refine s' (.bool true) as' ?_
    refine nt' (inb_ret (thn_ret (thn_ret (inb_ret (thn_ret (thn_ret ?_))))))
    have h_:=oi' H;subst h_
    have hb_:=el_ret Bt2
    have hr_:=Option.some.inj hb_
    clear hb_
    subst hr_
    exact b1' [0] ⟨rfl,rfl⟩
   replace H:=g_iff h14 H
   refine SA_condFb rfl h14 ?_
   refine SA_skip (inb_normal (at_normal (SA_region ?_)))
   refine s' (il' x5_3) mv' ?_
   refine s' (il' (IntKind.i64.wrap (x5_3 + 1))) (V_add rfl rfl) ?_
   obtain⟨n15,hn15,H⟩:=g_lt H
   refine s' (il' n15) (V_assign (v:=il' n15) (congrArg (Value.int .i64) hn15.symm)) ?_
   refine RA_nil ?_
   exact at_normal ⟨k4,Nat.lt_succ_self _,_,H,sq' [0]⟩
  replace H:=g_iff h6 H
  refine SA_condF rfl h6 ?_
  refine SA_exit (thn_exit (thn_exit (inb_hit ?_)))
  have h_:=oi' H;subst h_
  exact at_normal ⟨(),rfl,sq' [0]⟩
 rintro e ds As ⟨s3,ht,hst16⟩
 clear H
 subst ht
 replace Bt2:=el_go Bt2
 have H:=Bt2
 clear Bt2
 refine at_normal ?_
 refine SA.of_St hst16 fun junk=>?_
 refine qr' ?_
 refine s' (.bool false) as' ?_
 refine nt' ?_
 have h_:=oi' H;subst h_
 exact b1' [0] ⟨rfl,rfl⟩


def F142.f  : Option ((List S151)):=some ((((S151.mk 4352 4447)::(S151.mk 8986 8987)::(S151.mk 9001 9002)::(S151.mk 9193 9196)::(S151.mk 9725 9726)::(S151.mk 9748 9749)::(S151.mk 9800 9811)::(S151.mk 9889 9889)::(S151.mk 9917 9918)::(S151.mk 9989 9989)::(S151.mk 10024 10024)::(S151.mk 10060 10060)::(S151.mk 10067 10069)::(S151.mk 10133 10135)::(S151.mk 11035 11036)::(S151.mk 11088 11088)::(S151.mk 11904 12350)::(S151.mk 12353 13311)::(S151.mk 13312 19903)::(S151.mk 19968 40959)::(S151.mk 40960 42191)::(S151.mk 44032 55203)::(S151.mk 63744 64255)::(S151.mk 65072 65135)::(S151.mk 65281 65376)::(S151.mk 65504 65510)::(S151.mk 127744 127776)::(S151.mk 127789 127797)::(S151.mk 127799 127868)::(S151.mk 128000 128062)::(S151.mk 128064 128064)::(S151.mk 128066 128252)::(S151.mk 128512 128591)::(S151.mk 128640 128709)::(S151.mk 129280 129535)::(S151.mk 131072 196605)::(S151.mk 196608 262141)::[]) : (List S151)))
theorem F142.ok  {r : (List S151)} (H : F142.f  = some r) : SCA Tryz.prog 142 #[] [] (fun v B=>∃ A0_0_ c0_0_,v = .slice A0_0_ r.length c0_0_∧B = [Buf k151 151 A0_0_ c0_0_ r]):=by
 refine SCA_of_body Tryz.func142 rfl rfl ?_
 unfold F142.f at H
 refine qr' ?_
 refine s' (.slice none 0 0) as' ?_
 refine nr' ?_
 refine s' (.agg #[iw' 4352,iw' 4447]) bd' ?_
 refine s' (.agg #[iw' 8986,iw' 8987]) bd' ?_
 refine s' (.agg #[iw' 9001,iw' 9002]) bd' ?_
 refine s' (.agg #[iw' 9193,iw' 9196]) bd' ?_
 refine s' (.agg #[iw' 9725,iw' 9726]) bd' ?_
 refine s' (.agg #[iw' 9748,iw' 9749]) bd' ?_
 refine s' (.agg #[iw' 9800,iw' 9811]) bd' ?_
 refine s' (.agg #[iw' 9889,iw' 9889]) bd' ?_
 refine s' (.agg #[iw' 9917,iw' 9918]) bd' ?_
 refine s' (.agg #[iw' 9989,iw' 9989]) bd' ?_
 refine s' (.agg #[iw' 10024,iw' 10024]) bd' ?_
 refine s' (.agg #[iw' 10060,iw' 10060]) bd' ?_
 refine s' (.agg #[iw' 10067,iw' 10069]) bd' ?_
 refine s' (.agg #[iw' 10133,iw' 10135]) bd' ?_
 refine s' (.agg #[iw' 11035,iw' 11036]) bd' ?_
 refine s' (.agg #[iw' 11088,iw' 11088]) bd' ?_
 refine s' (.agg #[iw' 11904,iw' 12350]) bd' ?_
 refine s' (.agg #[iw' 12353,iw' 13311]) bd' ?_
 refine s' (.agg #[iw' 13312,iw' 19903]) bd' ?_
 refine s' (.agg #[iw' 19968,iw' 40959]) bd' ?_
 refine s' (.agg #[iw' 40960,iw' 42191]) bd' ?_
 refine s' (.agg #[iw' 44032,iw' 55203]) bd' ?_
 refine s' (.agg #[iw' 63744,iw' 64255]) bd' ?_
 refine s' (.agg #[iw' 65072,iw' 65135]) bd' ?_
 refine s' (.agg #[iw' 65281,iw' 65376]) bd' ?_
 refine s' (.agg #[iw' 65504,iw' 65510]) bd' ?_
 refine s' (.agg #[iw' 127744,iw' 127776]) bd' ?_
 refine s' (.agg #[iw' 127789,iw' 127797]) bd' ?_
 refine s' (.agg #[iw' 127799,iw' 127868]) bd' ?_
 refine s' (.agg #[iw' 128000,iw' 128062]) bd' ?_
 refine s' (.agg #[iw' 128064,iw' 128064]) bd' ?_
 refine s' (.agg #[iw' 128066,iw' 128252]) bd' ?_
 refine s' (.agg #[iw' 128512,iw' 128591]) bd' ?_
 refine s' (.agg #[iw' 128640,iw' 128709]) bd' ?_
 refine s' (.agg #[iw' 129280,iw' 129535]) bd' ?_
 refine s' (.agg #[iw' 131072,iw' 196605]) bd' ?_
 refine s' (.agg #[iw' 196608,iw' 262141]) bd' ?_
 refine o' (OA_bs (kd:=k151) (zv:=(.agg #[iw' 0,iw' 0])) (sz:=2) (cells:=(iw' 4352::iw' 4447::iw' 8986::iw' 8987::iw' 9001::iw' 9002::iw' 9193::iw' 9196::iw' 9725::iw' 9726::iw' 9748::iw' 9749::iw' 9800::iw' 9811::iw' 9889::iw' 9889::iw' 9917::iw' 9918::iw' 9989::iw' 9989::iw' 10024::iw' 10024::iw' 10060::iw' 10060::iw' 10067::iw' 10069::iw' 10133::iw' 10135::iw' 11035::iw' 11036::iw' 11088::iw' 11088::iw' 11904::iw' 12350::iw' 12353::iw' 13311::iw' 13312::iw' 19903::iw' 19968::iw' 40959::iw' 40960::iw' 42191::iw' 44032::iw' 55203::iw' 63744::iw' 64255::iw' 65072::iw' 65135::iw' 65281::iw' 65376::iw' 65504::iw' 65510::iw' 127744::iw' 127776::iw' 127789::iw' 127797::iw' 127799::iw' 127868::iw' 128000::iw' 128062::iw' 128064::iw' 128064::iw' 128066::iw' 128252::iw' 128512::iw' 128591::iw' 128640::iw' 128709::iw' 129280::iw' 129535::iw' 131072::iw' 196605::iw' 196608::iw' 262141::[])) (xs:=(((S151.mk 4352 4447)::(S151.mk 8986 8987)::(S151.mk 9001 9002)::(S151.mk 9193 9196)::(S151.mk 9725 9726)::(S151.mk 9748 9749)::(S151.mk 9800 9811)::(S151.mk 9889 9889)::(S151.mk 9917 9918)::(S151.mk 9989 9989)::(S151.mk 10024 10024)::(S151.mk 10060 10060)::(S151.mk 10067 10069)::(S151.mk 10133 10135)::(S151.mk 11035 11036)::(S151.mk 11088 11088)::(S151.mk 11904 12350)::(S151.mk 12353 13311)::(S151.mk 13312 19903)::(S151.mk 19968 40959)::(S151.mk 40960 42191)::(S151.mk 44032 55203)::(S151.mk 63744 64255)::(S151.mk 65072 65135)::(S151.mk 65281 65376)::(S151.mk 65504 65510)::(S151.mk 127744 127776)::(S151.mk 127789 127797)::(S151.mk 127799 127868)::(S151.mk 128000 128062)::(S151.mk 128064 128064)::(S151.mk 128066 128252)::(S151.mk 128512 128591)::(S151.mk 128640 128709)::(S151.mk 129280 129535)::(S151.mk 131072 196605)::(S151.mk 196608 262141)::[]) : (List S151))) rfl Tryz.underlying132 zero151 sz151 rfl rfl rfl (by kernel_rfl) rfl rfl (RL_enc enc151 (fun _ _=>rfl) (by kernel_rfl)) fun b1=>?_)
 refine s' (.slice (some ⟨b1,0,none⟩) (((S151.mk 4352 4447)::(S151.mk 8986 8987)::(S151.mk 9001 9002)::(S151.mk 9193 9196)::(S151.mk 9725 9726)::(S151.mk 9748 9749)::(S151.mk 9800 9811)::(S151.mk 9889 9889)::(S151.mk 9917 9918)::(S151.mk 9989 9989)::(S151.mk 10024 10024)::(S151.mk 10060 10060)::(S151.mk 10067 10069)::(S151.mk 10133 10135)::(S151.mk 11035 11036)::(S151.mk 11088 11088)::(S151.mk 11904 12350)::(S151.mk 12353 13311)::(S151.mk 13312 19903)::(S151.mk 19968 40959)::(S151.mk 40960 42191)::(S151.mk 44032 55203)::(S151.mk 63744 64255)::(S151.mk 65072 65135)::(S151.mk 65281 65376)::(S151.mk 65504 65510)::(S151.mk 127744 127776)::(S151.mk 127789 127797)::(S151.mk 127799 127868)::(S151.mk 128000 128062)::(S151.mk 128064 128064)::(S151.mk 128066 128252)::(S151.mk 128512 128591)::(S151.mk 128640 128709)::(S151.mk 129280 129535)::(S151.mk 131072 196605)::(S151.mk 196608 262141)::[]) : (List S151)).length 37) as' ?_
 refine nt' ?_
 have h_:=oi' H;subst h_
 exact b1' [0] ⟨some ⟨b1,0,none⟩,37,rfl,rfl⟩


def F99.f (k : Nat) (a0 : Int) : Option (Int):=(if a0 < 32 then (some true) else (if a0 ≥ 127 then (some (decide (a0 ≤ 159))) else (some false)) : Option Bool).bind (fun q1=>lt (q1 || (decide (a0 > 1114111))) fun q5=>(if q5 = true then (some true) else (if a0 ≥ 55296 then (some (decide (a0 ≤ 57343))) else (some false)) : Option Bool).bind (fun q8=>if q8 = true then (some ((-1))) else ((F141.f ).bind (fun r13=>(F140b0.f k r13 a0).bind (fun r17=>if r17 = true then (some (0)) else ((F142.f ).bind (fun r20=>(F140b0.f k r20 a0).bind (fun r24=>if r24 = true then (some (2)) else (some (1))))))))))
theorem F99.ok {a0 : Int} {r : Int} (H : F99.f k a0 = some r) : SCA Tryz.prog 99 #[iw' a0] [] (fun v B=>v = il' r∧B = []):=by
 refine SCA_of_body Tryz.func99 rfl rfl ?_
 unfold F99.f at H
 refine qr' ?_
 refine s' (il' 0) as' ?_
 refine nq' ?_
 refine s' (iw' a0) mv' ?_
 refine s' (.bool (decide (a0 < 32))) (V_lss rfl rfl) ?_
 refine s' (.bool (decide (a0 < 32))) mv' ?_
 obtain⟨q1,H,Bq1⟩:=g_bind H
 refine cR' 7 [(0,iw' a0),(12,.bool q1)] [] ?_ fun junk=>?_
 ·by_cases h2 : a0 < 32
  ·replace H:=g_ift h2 H
   refine no' 3 (dec_t h2) ?_
   refine nu' ?_
   refine nu' ?_
   refine no' 1 (dec_t h2) ?_
   refine pT' (dec_t h2) ?_
   have h_:=oi' H;subst h_
   exact rm' []
  replace H:=g_iff h2 H
  refine y' (dec_f h2) (iw' a0) mv' ?_
  refine y' (dec_f h2) (.bool (decide (a0 ≥ 127))) (V_geq rfl rfl) ?_
  refine y' (dec_f h2) (.bool (decide (a0 ≥ 127))) mv' ?_
  by_cases h3 : a0 ≥ 127
  ·replace H:=g_ift h3 H
   refine y' (dec_t h3) (iw' a0) mv' ?_
   refine y' (dec_t h3) (.bool (decide (a0 ≤ 159))) (V_leq rfl rfl) ?_
   refine yo' (dec_f h2) (OA_v rfl (V_pickT rfl (dec_t h3) rfl) ?_)
   refine pF' (dec_f h2) ?_
   have h_:=oi' H;subst h_
   exact rm' []
  replace H:=g_iff h3 H
  refine no' 2 (dec_f h3) ?_
  refine yo' (dec_f h2) (OA_v rfl (V_pickF rfl (dec_f h3) rfl) ?_)
  refine pF' (dec_f h2) ?_
  have h_:=oi' H;subst h_
  exact rm' []
 replace H:=Bq1
 refine s' (.bool q1) mv' ?_
 obtain⟨q5,hq5,H⟩:=g_lt H
 refine cR' 3 [(0,iw' a0),(16,.bool q5)] [] ?_ fun junk=>?_
 ·by_cases h6 : q1 = true
  ·refine no' 2 h6 ?_
   refine pT' h6 ?_
   refine RA_nil ?_
   exact at_normal (St.mk1 (aeq rfl (aeq (congrArg Value.bool (or_t hq5 (h6))) aeq0)) (gs' []))
  refine y' (bno h6) (iw' a0) mv' ?_
  refine y' (bno h6) (.bool (decide (a0 > 1114111))) (V_gtr rfl rfl) ?_
  refine pF' (bno h6) ?_
  refine RA_nil ?_
  exact at_normal (St.mk1 (aeq rfl (aeq (congrArg Value.bool (or_f hq5 (bno h6))) aeq0)) (gs' []))
 refine s' (.bool q5) mv' ?_
 obtain⟨q8,H,Bq8⟩:=g_bind H
 refine RA_cut 7 (fun e ds As=>St [(0,iw' a0),(24,.bool q8)] [] e ds As) ?_ ?_
 ·by_cases h9 : q5 = true
  ·replace H:=g_ift h9 H
   refine no' 3 h9 ?_
   refine nu' ?_
   refine nu' ?_
   refine no' 1 h9 ?_
   refine pT' h9 ?_
   have h_:=oi' H;subst h_
   exact rm' []
  replace H:=g_iff h9 H
  refine y' (bno h9) (iw' a0) mv' ?_
  refine y' (bno h9) (.bool (decide (a0 ≥ 55296))) (V_geq rfl rfl) ?_
  refine y' (bno h9) (.bool (decide (a0 ≥ 55296))) mv' ?_
  by_cases h10 : a0 ≥ 55296
  ·replace H:=g_ift h10 H
   refine y' (dec_t h10) (iw' a0) mv' ?_
   refine y' (dec_t h10) (.bool (decide (a0 ≤ 57343))) (V_leq rfl rfl) ?_
   refine yo' (bno h9) (OA_v rfl (V_pickT rfl (dec_t h10) rfl) ?_)
   refine pF' (bno h9) ?_
   have h_:=oi' H;subst h_
   exact rm' []
  replace H:=g_iff h10 H
  refine no' 2 (dec_f h10) ?_
  refine yo' (bno h9) (OA_v rfl (V_pickF rfl (dec_f h10) rfl) ?_)
  refine pF' (bno h9) ?_
  have h_:=oi' H;subst h_
  exact rm' []
 rintro e ds As hst11
 clear H
 have H:=Bq8
 clear Bq8
 refine na' ?_
 refine SA.of_St hst11 fun junk=>?_
 by_cases h12 : q8 = true
 ·replace H:=g_ift h12 H
  refine SA_condTb rfl h12 ?_
  refine qr' ?_
  refine s' (il' (-1)) as' ?_
  refine ntt' ?_
  have h_:=oi' H;subst h_
  exact b1' [] ⟨rfl,rfl⟩
 replace H:=g_iff h12 H
 refine SA_condFb rfl h12 ?_
 refine SA_skip (at_normal (SA_seq (qr' ?_)))
 obtain⟨r13,C29,H⟩:=g_bind H
 refine o' (ca' [] [] (xf' []) (F141.ok C29) ?_)
 rintro _ _⟨A14,c15,rfl,rfl⟩
 refine s' (iw' a0) mv' ?_
 obtain⟨r17,C28,H⟩:=g_bind H
 refine o' (ca' [0] [] (xf' [.slice A14 r13.length c15,iw' a0]) (F140b0.ok (l0:=r13) (A0:=A14) (c0:=c15) (a1:=a0) C28) ?_)
 rintro _ _⟨rfl,rfl⟩
 refine na' ?_
 by_cases h18 : r17 = true
 ·replace H:=g_ift h18 H
  refine SA_condTb rfl h18 ?_
  refine qr' ?_
  refine s' (il' 0) as' ?_
  refine ntt' ?_
  have h_:=oi' H;subst h_
  exact b1' [] ⟨rfl,rfl⟩
 replace H:=g_iff h18 H
 refine SA_condFb rfl h18 ?_
 refine SA_skip (at_normal (SA_seq (SA_seq ?_)))
 refine fc' 0 fun hc19=>?_
 refine SA_region ?_
 obtain⟨r20,C27,H⟩:=g_bind H
 refine o' (ca' [] [0] (xf' []) (F142.ok C27) ?_)
 rintro _ _⟨A21,c22,rfl,rfl⟩
 refine s' (iw' a0) mv' ?_
 obtain⟨r24,C26,H⟩:=g_bind H
 refine o' (ca' [0] [1] (xf' [.slice A21 r20.length c22,iw' a0]) (F140b0.ok (l0:=r20) (A0:=A21) (c0:=c22) (a1:=a0) C26) ?_)
 rintro _ _⟨rfl,rfl⟩
 refine na' ?_
 by_cases h25 : r24 = true
 ·replace H:=g_ift h25 H
  refine SA_condTb rfl h25 ?_
  refine qr' ?_
  refine s' (il' 2) as' ?_
  refine ntt' ?_
  have h_:=oi' H;subst h_
  exact b1' [] ⟨rfl,rfl⟩
 replace H:=g_iff h25 H
 refine SA_condFb rfl h25 ?_
 refine SA_skip (at_normal (qr' ?_))
 refine s' (il' 1) as' ?_
 refine nt' ?_
 have h_:=oi' H;subst h_
 exact b1' [] ⟨rfl,rfl⟩


def F110.l0 (a0 : S55) : Nat → Int → Option (Out (Bool) (Unit))
  | 0,_=>none
  | k + 1,x3_735=>if x3_735 < 3 then (if 0 ≤ x3_735∧x3_735 < (3 : Int) then (if (rd ([a0.f1.f0,a0.f1.f1,a0.f1.f2] : List Int) x3_735) = 0 then ((if (IntKind.i64.wrap (x3_735 + 1)) < 3 then (if 0 ≤ (IntKind.i64.wrap (x3_735 + 1))∧(IntKind.i64.wrap (x3_735 + 1)) < (3 : Int) then (some (decide ((rd ([a0.f1.f0,a0.f1.f1,a0.f1.f2] : List Int) (IntKind.i64.wrap (x3_735 + 1))) ≠ 0))) else none) else (some false) : Option Bool).bind (fun q742=>if q742 = true then (some (Out.ret (false))) else (lt (IntKind.i64.wrap (x3_735 + 1)) fun n748=>F110.l0 a0 k n748))) else (if 0 ≤ x3_735∧x3_735 < (3 : Int) then ((F99.f k (rd ([a0.f1.f0,a0.f1.f1,a0.f1.f2] : List Int) x3_735)).bind (fun r751=>if r751 ≠ 0 then (some (Out.ret (false))) else (lt (IntKind.i64.wrap (x3_735 + 1)) fun n753=>F110.l0 a0 k n753))) else none)) else none) else (some (Out.go ()))
def F110.f (k : Nat) (a0 : S55) : Option (Bool):=(F56.f a0.f3).bind (fun r3=>if (!r3) = true then (some (false)) else (if a0.f2 = 0 then (lt ((decide (a0.f0 = 0)) && (decide (a0.f1 = (S53.mk 0 0 0)))) fun q6=>some (q6)) else ((if a0.f2 > 2 then (some true) else ((F99.f k a0.f0).bind (fun r370=>some (decide (r370 ≠ (IntKind.i64.wrap (a0.f2)))))) : Option (Bool)).bind (fun t9=>if t9 = true then (some (false)) else ((F110.l0 a0 k 0 : Option (Out (Bool) (Unit))).bind (fun t734=>Out.el t734 (fun r_=>some r_) (fun s735=>some (true))))))))
theorem F110.ok {a0 : S55} {r : Bool} (H : F110.f k a0 = some r) : SCA Tryz.prog 110 #[.agg (c55' a0).toArray] [] (fun v B=>v = .bool r∧B = []):=by
 refine SCA_of_body Tryz.func110 rfl rfl ?_
 unfold F110.f at H
 refine qr' ?_
 refine o' (bx' fun b1=>?_)
 refine s' (.bool false) as' ?_
 refine nq' ?_
 refine s' (pa' b1 5) (fa' b1 0 5) ?_
 refine l' (lA' b1 5 0 (c28' a0.f3)) ?_
 obtain⟨r3,C756,H⟩:=g_bind H
 refine o' (ca' [] [0] (xf' [.agg (c28' a0.f3).toArray]) (F56.ok (a0:=a0.f3) C756) ?_)
 rintro _ _⟨rfl,rfl⟩
 refine s' (.bool (!r3)) (V_not rfl) ?_
 refine na' ?_
 by_cases h4 : (!r3) = true
 ·replace H:=g_ift h4 H
  refine SA_condTb rfl h4 ?_
  refine qr' ?_
  refine s' (.bool false) as' ?_
  refine ntt' ?_
  have h_:=oi' H;subst h_
  exact b1' [] ⟨rfl,rfl⟩
 replace H:=g_iff h4 H
 refine SA_condFb rfl h4 ?_
 refine SA_skip (at_normal (SA_seq (qr' ?_)))
 refine s' (pa' b1 4) (fa' b1 0 4) ?_
 refine l' (ld' b1 4 0) ?_
 refine s' (.bool (decide (a0.f2 = 0))) (V_eql rfl rfl) ?_
 refine na' ?_
 by_cases h5 : a0.f2 = 0
 ·replace H:=g_ift h5 H
  refine SA_condT rfl h5 ?_
  refine qr' ?_
  refine s' (pt' b1) (fa' b1 0 0) ?_
  refine l' (ld' b1 0 0) ?_
  refine s' (.bool (decide (a0.f0 = 0))) (V_eql rfl rfl) ?_
  refine s' (.bool (decide (a0.f0 = 0))) mv' ?_
  obtain⟨q6,hq6,H⟩:=g_lt H
  refine cR' 5 [(19,.bool q6)] [] ?_ fun junk=>?_
  ·by_cases h7 : a0.f0 = 0
   ·refine y' (dec_t h7) (pa' b1 1) (fa' b1 0 1) ?_
    refine z' (dec_t h7) (lA' b1 1 0 [iw' a0.f1.f0,iw' a0.f1.f1,iw' a0.f1.f2]) ?_
    refine y' (dec_t h7) (.agg #[iw' 0,iw' 0,iw' 0]) bA' ?_
    refine y' (dec_t h7) (.bool (decide (a0.f1 = (S53.mk 0 0 0)))) (V_eqlD (xs:=[iw' a0.f1.f0,iw' a0.f1.f1,iw' a0.f1.f2]) (ys:=[iw' 0,iw' 0,iw' 0]) (r:=((a0.f1.f0 == 0) && ((a0.f1.f1 == 0) && ((a0.f1.f2 == 0) && true)))) (p:=a0.f1 = (S53.mk 0 0 0)) eqg53 rfl rfl (by kernel_rfl) (eqv53 (x:=a0.f1) (y:=(S53.mk 0 0 0)))) ?_
    refine pT' (dec_t h7) ?_
    refine RA_nil ?_
    exact at_normal (St.mk1 (aeq (congrArg Value.bool (and_t hq6 (dec_t h7))) aeq0) (gs' []))
   refine no' 4 (dec_f h7) ?_
   refine pF' (dec_f h7) ?_
   refine RA_nil ?_
   exact at_normal (St.mk1 (aeq (congrArg Value.bool (and_f hq6 (dec_f h7))) aeq0) (gs' []))
  refine s' (.bool q6) as' ?_
  refine ntt' ?_
  have h_:=oi' H;subst h_
  exact b1' [] ⟨rfl,rfl⟩
 replace H:=g_iff h5 H
 refine SA_condF rfl h5 ?_
 refine SA_skip (at_normal (SA_seq (SA_seq ?_)))
 obtain⟨t9,H,Bt9⟩:=g_bind H
 refine SA_mid (fun e ds As=>St [(1,pt' b1),(31,.bool t9)] [Blk b1 55 (c55' a0)] e ds As) ?_ ?_
 ·refine SA_drawHq (rg' 0 12) #[[],[0],[0,1],[0,1,2],(rg' 0 4),(rg' 0 5),(rg' 0 6),(rg' 0 4),[0,1,2,3,7],[0,1,2,3,7,8],(rg' 0 10),(rg' 0 11)] [0] [] mixed rfl rfl rfl (PanOk.thn (PanOk.thn (PanOk.thn PanOk.body))) fun I0 hS h0 hh0 w0 sH dd pk=>?_
  refine t' (pa' b1 4) 0 rfl sH (fa' b1 0 4) ?_
  refine r' 1 rfl sH (ld' b1 4 0) ?_
  refine t' (.bool (decide (a0.f2 > 2))) 2 rfl sH (V_gtr rfl rfl) ?_
  refine t' (.bool (decide (a0.f2 > 2))) 3 rfl sH mv' ?_
  by_cases h731 : a0.f2 > 2
  ·replace H:=g_ift h731 H
   refine dn' 4 rfl (dec_t h731) ?_
   refine dn' 5 rfl (dec_t h731) ?_
   refine dn' 6 rfl (dec_t h731) ?_
   refine dn' 7 rfl (dec_t h731) ?_
   refine dn' 8 rfl (dec_t h731) ?_
   refine dn' 9 rfl (dec_t h731) ?_
   refine dn' 10 rfl (dec_t h731) ?_
   refine r' 11 rfl sH (VR.ofV (V_pickT rfl (dec_t h731) rfl)) ?_
   refine DH_open dd sH ?_
   refine DN_done (by kernel_rfl) ?_
   have h_:=oi' H;subst h_
   exact sm' [0]
  replace H:=g_iff h731 H
  refine ty' (pt' b1) 4 rfl (dec_f h731) sH (fa' b1 0 0) ?_
  refine ry' 5 rfl (dec_f h731) sH (ld' b1 0 0) ?_
  refine ty' (pa' b1 4) 7 rfl (dec_f h731) sH (fa' b1 0 4) ?_
  refine ry' 8 rfl (dec_f h731) sH (ld' b1 4 0) ?_
  refine ty' (il' (IntKind.i64.wrap (a0.f2))) 9 rfl (dec_f h731) sH (V_conv (T:=5) (by kernel_rfl) Tryz.underlying3 rfl) ?_
  obtain⟨r370,C371,H⟩:=g_bind H
  refine DH_one 6 dd (by kernel_rfl) rfl (.yes rfl rfl rfl rfl (dec_f h731)) (ca' [] [] (xf' [iw' a0.f0]) (F99.ok (a0:=a0.f0) C371) ?_)
  rintro _ _⟨rfl,rfl⟩
  refine ty' (.bool (decide (r370 ≠ (IntKind.i64.wrap (a0.f2))))) 10 rfl (dec_f h731) sH (V_neq rfl rfl) ?_
  refine r' 11 rfl sH (VR.ofV (V_pickF rfl (dec_f h731) rfl)) ?_
  refine DH_open dd sH ?_
  refine DN_done (by kernel_rfl) ?_
  have h_:=oi' H;subst h_
  exact sm' [0]
 rintro e ds As hst732
 clear H
 have H:=Bt9
 clear Bt9
 refine at_normal ?_
 refine SA.of_St hst732 fun junk=>?_
 by_cases h733 : t9 = true
 ·replace H:=g_ift h733 H
  refine SA_condTb rfl h733 ?_
  refine qr' ?_
  refine s' (.bool false) as' ?_
  refine ntt' ?_
  have h_:=oi' H;subst h_
  exact b1' [] ⟨rfl,rfl⟩
 replace H:=g_iff h733 H
 refine SA_condFb rfl h733 ?_
 refine SA_skip (at_normal (SA_seq (qr' ?_)))
 refine s' (il' 0) as' ?_
 refine na' ?_
 obtain⟨t734,H,Bt734⟩:=g_bind H
 refine SA_mid (fun e ds As=>∃ (s735 : Unit),t734 = Out.go s735∧St [] [] e ds As) ?_ ?_
 ·refine SA_block ?_
  refine SA_loop (fun k_ e ds As=>∃ (x3_735 : Int),F110.l0 a0 k_ x3_735 = some t734∧St [(1,pt' b1),(3,il' x3_735)] [Blk b1 55 (c55' a0)] e ds As) (k:=k) ⟨_,H,sq' [0]⟩ ?_
  clear H
  rintro k736 e ds As ⟨x3_735,H,hst737⟩
  obtain _ | k736:=k736
  ·cases H
  rw [F110.l0] at H
  refine SA.of_St hst737 fun junk=>?_
  refine SA_seq (qr' ?_)
  refine s' (il' x3_735) mv' ?_
  refine s' (.bool (decide (x3_735 < 3))) (V_lss rfl rfl) ?_
  refine na' ?_
  by_cases h738 : x3_735 < 3
  ·replace H:=g_ift h738 H
   refine SA_condT rfl h738 ?_
   refine SA_skip (at_normal (SA_seq (SA_block (qr' ?_))))
   refine s' (il' x3_735) mv' ?_
   refine s' (pa' b1 1) (fa' b1 0 1) ?_
   obtain⟨⟨g739,g740⟩,H⟩:=g_pos H
   refine s' (.pointer (some ((⟨b1,0,none⟩ : Addr).add (1 + x3_735.toNat * 1 + 0)))) (V_indexArr (B:=⟨b1,0,none⟩) (m:=1) (o:=1 + x3_735.toNat * 1 + 0) Tryz.underlying53 sz21 rfl rfl g739 g740 rfl) ?_
   refine l' (VR_load_blk (b:=b1) (m:=1 + x3_735.toNat * 1 + 0) (k:=0) (v:=iw' (rd ([a0.f1.f0,a0.f1.f1,a0.f1.f2] : List Int) x3_735)) Tryz.underlying21 rfl rfl rfl (ai_get (q:=0) (kd:=(Kd.int .i32)) (m0:=1) (N:=3) (sz:=1) (xs:=([a0.f1.f0,a0.f1.f1,a0.f1.f2] : List Int)) (i:=x3_735) (RL_enc (fun x_ : Int=>[Value.int .i32 x_]) (fun _ _=>rfl) (by kernel_rfl) _) rfl rfl g739 g740 (fun _ h_=>by rw [h_]; rfl))) ?_
   refine s' (.bool (decide ((rd ([a0.f1.f0,a0.f1.f1,a0.f1.f2] : List Int) x3_735) = 0))) (V_eql rfl rfl) ?_
   refine na' ?_
   by_cases h741 : (rd ([a0.f1.f0,a0.f1.f1,a0.f1.f2] : List Int) x3_735) = 0
   ·replace H:=g_ift h741 H
    refine SA_condT rfl h741 ?_
    refine qr' ?_
    refine s' (il' x3_735) mv' ?_
    refine s' (il' (IntKind.i64.wrap (x3_735 + 1))) (V_add rfl rfl) ?_
    refine s' (.bool (decide ((IntKind.i64.wrap (x3_735 + 1)) < 3))) (V_lss rfl rfl) ?_
    refine s' (.bool (decide ((IntKind.i64.wrap (x3_735 + 1)) < 3))) mv' ?_
    obtain⟨q742,H,Bq742⟩:=g_bind H
    refine RA_cut 7 (fun e ds As=>St [(1,pt' b1),(3,il' x3_735),(51,.bool q742)] [Blk b1 55 (c55' a0)] e ds As) ?_ ?_
    ·by_cases h743 : (IntKind.i64.wrap (x3_735 + 1)) < 3
     ·replace H:=g_ift h743 H
      refine y' (dec_t h743) (il' x3_735) mv' ?_
      refine y' (dec_t h743) (il' (IntKind.i64.wrap (x3_735 + 1))) (V_add rfl rfl) ?_
      refine y' (dec_t h743) (pa' b1 1) (fa' b1 0 1) ?_
      obtain⟨⟨g744,g745⟩,H⟩:=g_pos H
      refine y' (dec_t h743) (.pointer (some ((⟨b1,0,none⟩ : Addr).add (1 + (IntKind.i64.wrap (x3_735 + 1)).toNat * 1 + 0)))) (V_indexArr (B:=⟨b1,0,none⟩) (m:=1) (o:=1 + (IntKind.i64.wrap (x3_735 + 1)).toNat * 1 + 0) Tryz.underlying53 sz21 rfl rfl g744 g745 rfl) ?_
      refine z' (dec_t h743) (VR_load_blk (b:=b1) (m:=1 + (IntKind.i64.wrap (x3_735 + 1)).toNat * 1 + 0) (k:=0) (v:=iw' (rd ([a0.f1.f0,a0.f1.f1,a0.f1.f2] : List Int) (IntKind.i64.wrap (x3_735 + 1)))) Tryz.underlying21 rfl rfl rfl (ai_get (q:=0) (kd:=(Kd.int .i32)) (m0:=1) (N:=3) (sz:=1) (xs:=([a0.f1.f0,a0.f1.f1,a0.f1.f2] : List Int)) (i:=IntKind.i64.wrap (x3_735 + 1)) (RL_enc (fun x_ : Int=>[Value.int .i32 x_]) (fun _ _=>rfl) (by kernel_rfl) _) rfl rfl g744 g745 (fun _ h_=>by rw [h_]; rfl))) ?_
      refine y' (dec_t h743) (.bool (decide ((rd ([a0.f1.f0,a0.f1.f1,a0.f1.f2] : List Int) (IntKind.i64.wrap (x3_735 + 1))) ≠ 0))) (V_neq rfl rfl) ?_
      refine pT' (dec_t h743) ?_
      have h_:=oi' H;subst h_
      exact rm' [0]
     replace H:=g_iff h743 H
     refine no' 6 (dec_f h743) ?_
     refine pF' (dec_f h743) ?_
     have h_:=oi' H;subst h_
     exact rm' [0]
    rintro e ds As hst746
    clear H
    have H:=Bq742
    clear Bq742
    refine na' ?_
    refine SA.of_St hst746 fun junk=>?_
    by_cases h747 : q742 = true
    ·replace H:=g_ift h747 H
     refine SA_condTb rfl h747 ?_
     refine qr' ?_
     refine s' (.bool false) as' ?_
     refine nt' (inb_ret (thn_ret (thn_ret (inb_ret (thn_ret (thn_ret ?_))))))
     have h_:=oi' H;subst h_
     have hb_:=el_ret Bt734
     have hr_:=Option.some.inj hb_
     clear hb_
     subst hr_
     exact b1' [] ⟨rfl,rfl⟩
    replace H:=g_iff h747 H
    refine SA_condFb rfl h747 ?_
    refine SA_skip (inb_normal (at_normal (SA_region ?_)))
    refine s' (il' x3_735) mv' ?_
    refine s' (il' (IntKind.i64.wrap (x3_735 + 1))) (V_add rfl rfl) ?_
    obtain⟨n748,hn748,H⟩:=g_lt H
    refine s' (il' n748) (V_assign (v:=il' n748) (congrArg (Value.int .i64) hn748.symm)) ?_
    refine RA_nil ?_
    exact at_normal ⟨k736,Nat.lt_succ_self _,_,H,sq' [0]⟩
   replace H:=g_iff h741 H
   refine SA_condF rfl h741 ?_
   refine qr' ?_
   refine s' (il' x3_735) mv' ?_
   refine s' (pa' b1 1) (fa' b1 0 1) ?_
   obtain⟨⟨g749,g750⟩,H⟩:=g_pos H
   refine s' (.pointer (some ((⟨b1,0,none⟩ : Addr).add (1 + x3_735.toNat * 1 + 0)))) (V_indexArr (B:=⟨b1,0,none⟩) (m:=1) (o:=1 + x3_735.toNat * 1 + 0) Tryz.underlying53 sz21 rfl rfl g749 g750 rfl) ?_
   refine l' (VR_load_blk (b:=b1) (m:=1 + x3_735.toNat * 1 + 0) (k:=0) (v:=iw' (rd ([a0.f1.f0,a0.f1.f1,a0.f1.f2] : List Int) x3_735)) Tryz.underlying21 rfl rfl rfl (ai_get (q:=0) (kd:=(Kd.int .i32)) (m0:=1) (N:=3) (sz:=1) (xs:=([a0.f1.f0,a0.f1.f1,a0.f1.f2] : List Int)) (i:=x3_735) (RL_enc (fun x_ : Int=>[Value.int .i32 x_]) (fun _ _=>rfl) (by kernel_rfl) _) rfl rfl g749 g750 (fun _ h_=>by rw [h_]; rfl))) ?_
   obtain⟨r751,C754,H⟩:=g_bind H
   refine o' (ca' [] [0] (xf' [iw' (rd ([a0.f1.f0,a0.f1.f1,a0.f1.f2] : List Int) x3_735)]) (F99.ok (a0:=rd ([a0.f1.f0,a0.f1.f1,a0.f1.f2] : List Int) x3_735) C754) ?_)
   rintro _ _⟨rfl,rfl⟩
   refine s' (.bool (decide (r751 ≠ 0))) (V_neq rfl rfl) ?_
   refine na' ?_
   by_cases h752 : r751 ≠ 0
   ·replace H:=g_ift h752 H
    refine SA_condT rfl h752 ?_
    refine qr' ?_
    refine s' (.bool false) as' ?_
    refine nt' (inb_ret (thn_ret (thn_ret (inb_ret (thn_ret (thn_ret ?_))))))
    have h_:=oi' H;subst h_
    have hb_:=el_ret Bt734
    have hr_:=Option.some.inj hb_
    clear hb_
    subst hr_
    exact b1' [] ⟨rfl,rfl⟩
   replace H:=g_iff h752 H
   refine SA_condF rfl h752 ?_
   refine SA_skip (inb_normal (at_normal (SA_region ?_)))
   refine s' (il' x3_735) mv' ?_
   refine s' (il' (IntKind.i64.wrap (x3_735 + 1))) (V_add rfl rfl) ?_
   obtain⟨n753,hn753,H⟩:=g_lt H
   refine s' (il' n753) (V_assign (v:=il' n753) (congrArg (Value.int .i64) hn753.symm)) ?_
   refine RA_nil ?_
   exact at_normal ⟨k736,Nat.lt_succ_self _,_,H,sq' [0]⟩
  replace H:=g_iff h738 H
  refine SA_condF rfl h738 ?_
  refine SA_exit (thn_exit (thn_exit (inb_hit ?_)))
  have h_:=oi' H;subst h_
  exact at_normal ⟨(),rfl,sq' []⟩
 rintro e ds As ⟨s735,ht,hst755⟩
 clear H
 subst ht
 replace Bt734:=el_go Bt734
 have H:=Bt734
 clear Bt734
 refine at_normal ?_
 refine SA.of_St hst755 fun junk=>?_
 refine qr' ?_
 refine s' (.bool true) as' ?_
 refine nt' ?_
 have h_:=oi' H;subst h_
 exact b1' [] ⟨rfl,rfl⟩


def F54b0.l0 (a0 : S26) : Nat → Int → Option (Out (Bool) (Unit))
  | 0,_=>none
  | k + 1,x3_15=>if x3_15 < (a0.f2.length : Int) then (if 0 ≤ x3_15∧x3_15 < (a0.f2.length : Int) then ((F110.f k (rd a0.f2 x3_15)).bind (fun r21=>if (!r21) = true then (some (Out.ret (false))) else (if a0.f0 ≠ 0 then ((if (x3_15.tmod a0.f0) > 0 then (if 0 ≤ (IntKind.i64.wrap (x3_15 - 1))∧(IntKind.i64.wrap (x3_15 - 1)) < (a0.f2.length : Int) then (some (decide (((rd a0.f2 (IntKind.i64.wrap (x3_15 - 1))).f2) = 2))) else none) else (some false) : Option Bool).bind (fun q24=>(if 0 ≤ x3_15∧x3_15 < (a0.f2.length : Int) then (if (decide (((rd a0.f2 x3_15).f2) = 0)) ≠ q24 then (some true) else (if q24 = true then (if 0 ≤ x3_15∧x3_15 < (a0.f2.length : Int) then (if 0 ≤ (IntKind.i64.wrap (x3_15 - 1))∧(IntKind.i64.wrap (x3_15 - 1)) < (a0.f2.length : Int) then (some (decide (((rd a0.f2 x3_15).f3) ≠ ((rd a0.f2 (IntKind.i64.wrap (x3_15 - 1))).f3)))) else none) else none) else (some false))) else none : Option (Bool)).bind (fun t29=>if t29 = true then (some (Out.ret (false))) else ((if 0 ≤ x3_15∧x3_15 < (a0.f2.length : Int) then (if ((rd a0.f2 x3_15).f2) = 2 then (if a0.f0 ≠ 0 then (some (decide ((x3_15.tmod a0.f0) = (IntKind.i64.wrap (a0.f0 - 1))))) else none) else (some false)) else none : Option (Bool)).bind (fun t1715=>if t1715 = true then (some (Out.ret (false))) else (lt (IntKind.i64.wrap (x3_15 + 1)) fun n2740=>F54b0.l0 a0 k n2740)))))) else none))) else none) else (some (Out.go ()))
def F54b0.f (k : Nat) (a0 : S26) : Option (Bool):=(F70.f a0.f0).bind (fun r4=>(if (!r4) = true then (some true) else ((F70.f a0.f1).bind (fun r7=>some (!r7))) : Option Bool).bind (fun q5=>lt (q5 || (decide ((a0.f2.length : Int) ≠ (IntKind.i64.wrap (a0.f0 * a0.f1))))) fun q10=>if q10 = true then (some (false)) else ((F54b0.l0 a0 k 0 : Option (Out (Bool) (Unit))).bind (fun t14=>Out.el t14 (fun r_=>some r_) (fun s15=>some (true))))))

def F55b0.f (a0 : S26) (a1 : Int) (a2 : Int) (a3 : Bool) : Option (Bool):=lt ((decide (a1 ≥ 0)) && (decide (a1 < a0.f1))) fun q4=>lt (q4 && (decide (a2 ≥ 0))) fun q7=>lt (q7 && (decide (a2 < a0.f0))) fun q10=>(if q10 = true then (if (!a3) = true then (some true) else (some (decide (a2 = (IntKind.i64.wrap (a0.f0 - 1)))))) else (some false) : Option Bool).bind (fun q13=>some (q13))

def F15b0.l1 (a0 : S34) : Nat → Int → Option (Out (Bool) (Unit))
  | 0,_=>none
  | k + 1,x5_2100=>if x5_2100 < (a0.f17.length : Int) then (if 0 ≤ x5_2100∧x5_2100 < (a0.f17.length : Int) then (if (rd a0.f17 x5_2100) < 0 then (some (Out.ret (false))) else (lt (IntKind.i64.wrap (x5_2100 + 1)) fun n2107=>F15b0.l1 a0 k n2107)) else none) else (some (Out.go ()))
def F15b0.l0 (a0 : S34) : Nat → Int → Option (Out (Bool) (Unit))
  | 0,_=>none
  | k + 1,x4_45=>if x4_45 < (a0.f7.length : Int) then ((if 0 ≤ x4_45∧x4_45 < (a0.f7.length : Int) then (if (rd a0.f7 x4_45) < 0 then (some true) else (if 0 ≤ x4_45∧x4_45 < (a0.f7.length : Int) then (if (rd a0.f7 x4_45) ≥ a0.f0.f0 then (some true) else (if x4_45 > 0 then (if 0 ≤ x4_45∧x4_45 < (a0.f7.length : Int) then (if 0 ≤ (IntKind.i64.wrap (x4_45 - 1))∧(IntKind.i64.wrap (x4_45 - 1)) < (a0.f7.length : Int) then (some (decide ((rd a0.f7 x4_45) ≤ (rd a0.f7 (IntKind.i64.wrap (x4_45 - 1)))))) else none) else none) else (some false))) else none)) else none : Option (Bool)).bind (fun t49=>if t49 = true then (some (Out.ret (false))) else (lt (IntKind.i64.wrap (x4_45 + 1)) fun n2096=>F15b0.l0 a0 k n2096))) else (some (Out.go ()))
def F15b0.f (k : Nat) (a0 : S34) : Option (Bool):=(F54b0.f k a0.f0).bind (fun r13=>(if (!r13) = true then (some true) else ((F55b0.f a0.f0 a0.f1 a0.f2 a0.f3).bind (fun r16=>some (!r16))) : Option Bool).bind (fun q14=>(if q14 = true then (some true) else ((F55b0.f a0.f0 a0.f14.f0 a0.f14.f1 a0.f14.f2).bind (fun r21=>some (!r21))) : Option Bool).bind (fun q19=>lt (q19 || (decide (a0.f5 < 0))) fun q24=>lt (q24 || (decide (a0.f5 > a0.f6))) fun q27=>lt (q27 || (decide (a0.f6 ≥ a0.f0.f1))) fun q30=>(if q30 = true then (some true) else ((F56.f a0.f4).bind (fun r35=>some (!r35))) : Option Bool).bind (fun q33=>(if q33 = true then (some true) else ((F56.f a0.f14.f4).bind (fun r40=>some (!r40))) : Option Bool).bind (fun q38=>if q38 = true then (some (false)) else ((F15b0.l0 a0 k 0 : Option (Out (Bool) (Unit))).bind (fun t44=>Out.el t44 (fun r_=>some r_) (fun s45=>if (a0.f17.length : Int) > 256 then (some (false)) else ((F15b0.l1 a0 k 0 : Option (Out (Bool) (Unit))).bind (fun t2099=>Out.el t2099 (fun r_=>some r_) (fun s2100=>if a0.f15 = true then ((F54b0.f k a0.f16).bind (fun r2110=>lt (r2110 && (decide (a0.f16.f0 = a0.f0.f0))) fun q2111=>lt (q2111 && (decide (a0.f16.f1 = a0.f0.f1))) fun q2114=>some (q2114))) else (lt ((decide (a0.f16.f0 = 0)) && (decide (a0.f16.f1 = 0))) fun q2118=>lt (q2118 && (decide ((a0.f16.f2.length : Int) = 0))) fun q2121=>some (q2121)))))))))))))
end Go.Proofs.YtckilbegmbaeeaaGreat.Z5

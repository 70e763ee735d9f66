/- What functions compute, and that they do: 112, 114b0, 115b0, 117, 137, 150, 158, 16b0, 57b0, 59b0, 60b0, 61. -/
import Derived.Test.YtckilbegmbaeeaaGreatZ50
import Derived.Test.YtckilbegmbaeeaaGreatZ51
namespace Go.Proofs.YtckilbegmbaeeaaGreat.Z5
open Go Go.RowKit Go.Proofs.YtckilbegmbaeeaaGreat.SL
set_option linter.unusedVariables false
set_option maxHeartbeats 20000000
set_option maxRecDepth 100000
set_option linter.unusedSimpArgs false
attribute [local irreducible] IntKind.wrap minI maxI shrI shlI andI orI xorI andNotI cplI rd sub bytesOf strOf slA
variable {c0_0 k : Nat}
variable {A0_0 : Option Addr}
def F150.l0 (l0 : (List S138)) (a1 : Int) : Nat → Int → Int → Option (Out (Bool) (Unit))
  | 0,_,_=>none
  | k + 1,x5_4,x6_4=>if x5_4 < x6_4 then (lt (shrI .u64 (IntKind.u64.wrap (x5_4 + x6_4)) 1) fun n8=>if 0 ≤ n8∧n8 < (l0.length : Int) then (if a1 < ((rd l0 n8).f0) then (F150.l0 l0 a1 k x5_4 n8) else (if 0 ≤ n8∧n8 < (l0.length : Int) then (if a1 > ((rd l0 n8).f1) then (lt (IntKind.u64.wrap (n8 + 1)) fun n15=>F150.l0 l0 a1 k n15 x6_4) else (some (Out.ret (true)))) else none)) else none) else (some (Out.go ()))
def F150.f (k : Nat) (l0 : (List S138)) (a1 : Int) : Option (Bool):=lt (IntKind.u64.wrap ((l0.length : Int))) fun n2=>(F150.l0 l0 a1 k 0 n2 : Option (Out (Bool) (Unit))).bind (fun t3=>Out.el t3 (fun r_=>some r_) (fun s4=>some (false)))
theorem F150.ok {l0 : (List S138)} {a1 : Int} {A0 : Option Addr} {c0 : Nat} {r : Bool} (H : F150.f k l0 a1 = some r) : SCA Tryz.prog 150 #[.slice A0 l0.length c0,iw' a1] [Ro k138 A0 c0 l0] (fun v B=>v = .bool r∧B = []):=by
 refine SCA_of_body Tryz.func150 rfl rfl ?_
 unfold F150.f at H
 refine qr' ?_
 refine s' (.bool false) as' ?_
 refine nr' ?_
 refine s' (.slice A0 l0.length c0) mv' ?_
 refine s' (il' (l0.length : Int)) (V_len Tryz.underlying144 rfl) ?_
 refine s' (.int .u64 (IntKind.u64.wrap ((l0.length : Int)))) (V_conv (T:=3) (by kernel_rfl) Tryz.underlying146 rfl) ?_
 refine s' (.int .u64 0) as' ?_
 obtain⟨n2,hn2,H⟩:=g_lt H
 refine s' (.int .u64 n2) (V_assign (v:=.int .u64 n2) (congrArg (Value.int .u64) hn2.symm)) ?_
 refine na' (SA_seq ?_)
 obtain⟨t3,H,Bt3⟩:=g_bind H
 refine SA_mid (fun e ds As=>∃ (s4 : Unit),t3 = Out.go s4∧St [] [] e ds As) ?_ ?_
 ·refine SA_block ?_
  refine SA_loop (fun k_ e ds As=>∃ (x5_4 : Int) (x6_4 : Int),F150.l0 l0 a1 k_ x5_4 x6_4 = some t3∧St [(0,.slice A0 l0.length c0),(1,iw' a1),(5,.int .u64 x5_4),(6,.int .u64 x6_4)] [Ro k138 A0 c0 l0] e ds As) (k:=k) ⟨_,_,H,sq' [0]⟩ ?_
  clear H
  rintro k5 e ds As ⟨x5_4,x6_4,H,hst6⟩
  obtain _ | k5:=k5
  ·cases H
  rw [F150.l0] at H
  refine SA.of_St hst6 fun junk=>?_
  refine SA_seq (qr' ?_)
  refine s' (.int .u64 x5_4) mv' ?_
  refine s' (.int .u64 x6_4) mv' ?_
  refine s' (.bool (decide (x5_4 < x6_4))) (V_lss rfl rfl) ?_
  refine na' ?_
  by_cases h7 : x5_4 < x6_4
  ·replace H:=g_ift h7 H
   refine SA_condT rfl h7 ?_
   refine SA_skip (at_normal (SA_block (qr' ?_)))
   refine s' (.int .u64 x5_4) mv' ?_
   refine s' (.int .u64 x6_4) mv' ?_
   refine s' (.int .u64 (IntKind.u64.wrap (x5_4 + x6_4))) (V_add rfl rfl) ?_
   refine s' (.int .u64 (shrI .u64 (IntKind.u64.wrap (x5_4 + x6_4)) 1)) (V_shr rfl rfl (by decide)) ?_
   obtain⟨n8,hn8,H⟩:=g_lt H
   refine s' (.int .u64 n8) (V_assign (v:=.int .u64 n8) (congrArg (Value.int .u64) hn8.symm)) ?_
   refine na' (SA_block (qr' ?_))
   refine s' (iw' a1) mv' ?_
   refine s' (.slice A0 l0.length c0) mv' ?_
   refine s' (.int .u64 n8) mv' ?_
   obtain⟨⟨g9,g10⟩,H⟩:=g_pos H
   refine l' (VR_index (i:=n8) Tryz.underlying144 sz138 rfl rfl (Src.ro (k:=0) rfl) g9 g10) ?_
   refine s' (.pointer (some ((el A0 (n8.toNat * 2)).add 0))) (V_indexArr (B:=el A0 (n8.toNat * 2)) (m:=0) (o:=0) Tryz.underlying138 sz21 rfl rfl (by decide) (by decide) rfl) ?_
   refine l' (VR_load_el (enc:=enc138) (i:=n8) (j:=n8.toNat * 2) (m:=0) (sz:=2) Tryz.underlying21 rfl rfl rfl rfl (Src.ro (k:=0) rfl) g9 g10 (fun _ _ h=>h) rfl) ?_
   refine s' (.bool (decide (a1 < ((rd l0 n8).f0)))) (V_lss rfl rfl) ?_
   refine s' (.bool (decide (a1 < ((rd l0 n8).f0)))) as' ?_
   refine na' ?_
   by_cases h11 : a1 < ((rd l0 n8).f0)
   ·replace H:=g_ift h11 H
    refine SA_condT rfl h11 ?_
    refine SA_region ?_
    refine s' (.int .u64 n8) mv' ?_
    refine s' (.int .u64 n8) as' ?_
    refine RA_nil (inb_normal (inb_normal ?_))
    exact at_normal ⟨k5,Nat.lt_succ_self _,_,_,H,sq' [0]⟩
   replace H:=g_iff h11 H
   refine SA_condF rfl h11 ?_
   refine qr' ?_
   refine s' (iw' a1) mv' ?_
   refine s' (.slice A0 l0.length c0) mv' ?_
   refine s' (.int .u64 n8) mv' ?_
   obtain⟨⟨g12,g13⟩,H⟩:=g_pos H
   refine l' (VR_index (i:=n8) Tryz.underlying144 sz138 rfl rfl (Src.ro (k:=0) rfl) g12 g13) ?_
   refine s' (.pointer (some ((el A0 (n8.toNat * 2)).add 1))) (V_indexArr (B:=el A0 (n8.toNat * 2)) (m:=0) (o:=1) Tryz.underlying138 sz21 rfl rfl (by decide) (by decide) rfl) ?_
   refine l' (VR_load_el (enc:=enc138) (i:=n8) (j:=n8.toNat * 2) (m:=1) (sz:=2) Tryz.underlying21 rfl rfl rfl rfl (Src.ro (k:=0) rfl) g12 g13 (fun _ _ h=>h) rfl) ?_
   refine s' (.bool (decide (a1 > ((rd l0 n8).f1)))) (V_gtr rfl rfl) ?_
   refine s' (.bool (decide (a1 > ((rd l0 n8).f1)))) as' ?_
   refine na' ?_
   by_cases h14 : a1 > ((rd l0 n8).f1)
   ·replace H:=g_ift h14 H
    refine SA_condT rfl h14 ?_
    refine SA_region ?_
    refine s' (.int .u64 n8) mv' ?_
    refine s' (.int .u64 (IntKind.u64.wrap (n8 + 1))) (V_add rfl rfl) ?_
    obtain⟨n15,hn15,H⟩:=g_lt H
    refine s' (.int .u64 n15) (V_assign (v:=.int .u64 n15) (congrArg (Value.int .u64) hn15.symm)) ?_
    refine RA_nil (inb_normal (inb_normal ?_))
    exact at_normal ⟨k5,Nat.lt_succ_self _,_,_,H,sq' [0]⟩
   replace H:=g_iff h14 H
   refine SA_condF rfl h14 ?_
   refine qr' ?_
   refine s' (.bool true) as' ?_
   refine nt' (inb_ret (inb_ret (thn_ret (inb_ret (thn_ret (thn_ret ?_))))))
   have h_:=oi' H;subst h_
   have hb_:=el_ret Bt3
   have hr_:=Option.some.inj hb_
   clear hb_
   subst hr_
   exact b1' [] ⟨rfl,rfl⟩
  replace H:=g_iff h7 H
  refine SA_condF rfl h7 ?_
  refine SA_exit (thn_exit (thn_exit (inb_hit ?_)))
  have h_:=oi' H;subst h_
  exact at_normal ⟨(),rfl,sq' []⟩
 rintro e ds As ⟨s4,ht,hst16⟩
 clear H
 subst ht
 replace Bt3:=el_go Bt3
 have H:=Bt3
 clear Bt3
 refine at_normal ?_
 refine SA.of_St hst16 fun junk=>?_
 refine qr' ?_
 refine s' (.bool false) as' ?_
 refine nt' ?_
 have h_:=oi' H;subst h_
 exact b1' [] ⟨rfl,rfl⟩


def F117.f (k : Nat) (a0 : Int) : Option (Int):=(F148.f ).bind (fun r1=>(F149.f ).bind (fun r2=>(if a0 < 32 then (some true) else (if a0 ≥ 127 then (some (decide (a0 ≤ 159))) else (some false)) : Option Bool).bind (fun q7=>lt (q7 || (decide (a0 > 1114111))) fun q11=>(if q11 = true then (some true) else (if a0 ≥ 55296 then (some (decide (a0 ≤ 57343))) else (some false)) : Option Bool).bind (fun q14=>if q14 = true then (some ((-1))) else ((F150.f k (((rd r2 0)::(rd r2 1)::(rd r2 2)::(rd r2 3)::(rd r2 4)::(rd r2 5)::(rd r2 6)::(rd r2 7)::(rd r2 8)::(rd r2 9)::(rd r2 10)::(rd r2 11)::(rd r2 12)::(rd r2 13)::(rd r2 14)::(rd r2 15)::(rd r2 16)::(rd r2 17)::(rd r2 18)::(rd r2 19)::(rd r2 20)::(rd r2 21)::(rd r2 22)::(rd r2 23)::(rd r2 24)::(rd r2 25)::[]) : List S138) a0).bind (fun r20=>if r20 = true then (some (0)) else ((F150.f k (((rd r1 0)::(rd r1 1)::(rd r1 2)::(rd r1 3)::(rd r1 4)::(rd r1 5)::(rd r1 6)::(rd r1 7)::(rd r1 8)::(rd r1 9)::(rd r1 10)::(rd r1 11)::(rd r1 12)::(rd r1 13)::(rd r1 14)::(rd r1 15)::(rd r1 16)::(rd r1 17)::(rd r1 18)::(rd r1 19)::(rd r1 20)::(rd r1 21)::(rd r1 22)::(rd r1 23)::(rd r1 24)::(rd r1 25)::(rd r1 26)::(rd r1 27)::(rd r1 28)::(rd r1 29)::(rd r1 30)::(rd r1 31)::(rd r1 32)::(rd r1 33)::(rd r1 34)::(rd r1 35)::(rd r1 36)::[]) : List S138) a0).bind (fun r23=>if r23 = true then (some (2)) else (some (1))))))))))
theorem F117.ok {a0 : Int} {r : Int} (H : F117.f k a0 = some r) : SCA Tryz.prog 117 #[iw' a0] [] (fun v B=>v = il' r∧B = []):=by
 refine SCA_of_body Tryz.func117 rfl rfl ?_
 unfold F117.f at H
 refine qr' ?_
 refine s' (il' 0) as' ?_
 refine nr' ?_
 obtain⟨r1,C28,H⟩:=g_bind H
 refine o' (ca' [] [] (xf' []) (F148.ok C28) ?_)
 rintro _ _⟨rfl,rfl⟩
 obtain⟨r2,C27,H⟩:=g_bind H
 refine o' (ca' [] [] (xf' []) (F149.ok C27) ?_)
 rintro _ _⟨rfl,rfl⟩
 refine o' (al' fun b3=>?_)
 refine o' (al' fun b5=>?_)
 refine o' (OA_st (b:=b3) (m:=0) (k:=0) (vs:=(List.flatMap enc138 ((rd r1 0)::(rd r1 1)::(rd r1 2)::(rd r1 3)::(rd r1 4)::(rd r1 5)::(rd r1 6)::(rd r1 7)::(rd r1 8)::(rd r1 9)::(rd r1 10)::(rd r1 11)::(rd r1 12)::(rd r1 13)::(rd r1 14)::(rd r1 15)::(rd r1 16)::(rd r1 17)::(rd r1 18)::(rd r1 19)::(rd r1 20)::(rd r1 21)::(rd r1 22)::(rd r1 23)::(rd r1 24)::(rd r1 25)::(rd r1 26)::(rd r1 27)::(rd r1 28)::(rd r1 29)::(rd r1 30)::(rd r1 31)::(rd r1 32)::(rd r1 33)::(rd r1 34)::(rd r1 35)::(rd r1 36)::[]))) (cs':=(List.flatMap enc138 ((rd r1 0)::(rd r1 1)::(rd r1 2)::(rd r1 3)::(rd r1 4)::(rd r1 5)::(rd r1 6)::(rd r1 7)::(rd r1 8)::(rd r1 9)::(rd r1 10)::(rd r1 11)::(rd r1 12)::(rd r1 13)::(rd r1 14)::(rd r1 15)::(rd r1 16)::(rd r1 17)::(rd r1 18)::(rd r1 19)::(rd r1 20)::(rd r1 21)::(rd r1 22)::(rd r1 23)::(rd r1 24)::(rd r1 25)::(rd r1 26)::(rd r1 27)::(rd r1 28)::(rd r1 29)::(rd r1 30)::(rd r1 31)::(rd r1 32)::(rd r1 33)::(rd r1 34)::(rd r1 35)::(rd r1 36)::[]))) rfl rfl rfl rfl rfl (by kernel_rfl) sz139 rfl (by kernel_rfl) ?_)
 refine o' (OA_st (b:=b5) (m:=0) (k:=1) (vs:=(List.flatMap enc138 ((rd r2 0)::(rd r2 1)::(rd r2 2)::(rd r2 3)::(rd r2 4)::(rd r2 5)::(rd r2 6)::(rd r2 7)::(rd r2 8)::(rd r2 9)::(rd r2 10)::(rd r2 11)::(rd r2 12)::(rd r2 13)::(rd r2 14)::(rd r2 15)::(rd r2 16)::(rd r2 17)::(rd r2 18)::(rd r2 19)::(rd r2 20)::(rd r2 21)::(rd r2 22)::(rd r2 23)::(rd r2 24)::(rd r2 25)::[]))) (cs':=(List.flatMap enc138 ((rd r2 0)::(rd r2 1)::(rd r2 2)::(rd r2 3)::(rd r2 4)::(rd r2 5)::(rd r2 6)::(rd r2 7)::(rd r2 8)::(rd r2 9)::(rd r2 10)::(rd r2 11)::(rd r2 12)::(rd r2 13)::(rd r2 14)::(rd r2 15)::(rd r2 16)::(rd r2 17)::(rd r2 18)::(rd r2 19)::(rd r2 20)::(rd r2 21)::(rd r2 22)::(rd r2 23)::(rd r2 24)::(rd r2 25)::[]))) rfl rfl rfl rfl rfl (by kernel_rfl) sz141 rfl (by kernel_rfl) ?_)
 refine na' (SA_seq (SA_block (qr' ?_)))
 refine s' (iw' a0) mv' ?_
 refine s' (.bool (decide (a0 < 32))) (V_lss rfl rfl) ?_
 refine s' (.bool (decide (a0 < 32))) mv' ?_
 obtain⟨q7,H,Bq7⟩:=g_bind H
 refine cR' 7 [(0,iw' a0),(3,pt' b3),(4,pt' b5),(17,.bool q7)] [Blk b3 139 (List.flatMap enc138 ((rd r1 0)::(rd r1 1)::(rd r1 2)::(rd r1 3)::(rd r1 4)::(rd r1 5)::(rd r1 6)::(rd r1 7)::(rd r1 8)::(rd r1 9)::(rd r1 10)::(rd r1 11)::(rd r1 12)::(rd r1 13)::(rd r1 14)::(rd r1 15)::(rd r1 16)::(rd r1 17)::(rd r1 18)::(rd r1 19)::(rd r1 20)::(rd r1 21)::(rd r1 22)::(rd r1 23)::(rd r1 24)::(rd r1 25)::(rd r1 26)::(rd r1 27)::(rd r1 28)::(rd r1 29)::(rd r1 30)::(rd r1 31)::(rd r1 32)::(rd r1 33)::(rd r1 34)::(rd r1 35)::(rd r1 36)::[])),Blk b5 141 (List.flatMap enc138 ((rd r2 0)::(rd r2 1)::(rd r2 2)::(rd r2 3)::(rd r2 4)::(rd r2 5)::(rd r2 6)::(rd r2 7)::(rd r2 8)::(rd r2 9)::(rd r2 10)::(rd r2 11)::(rd r2 12)::(rd r2 13)::(rd r2 14)::(rd r2 15)::(rd r2 16)::(rd r2 17)::(rd r2 18)::(rd r2 19)::(rd r2 20)::(rd r2 21)::(rd r2 22)::(rd r2 23)::(rd r2 24)::(rd r2 25)::[]))] ?_ fun junk=>?_
 ·by_cases h8 : a0 < 32
  ·replace H:=g_ift h8 H
   refine no' 3 (dec_t h8) ?_
   refine nu' ?_
   refine nu' ?_
   refine no' 1 (dec_t h8) ?_
   refine pT' (dec_t h8) ?_
   have h_:=oi' H;subst h_
   exact rm' [0,1]
  replace H:=g_iff h8 H
  refine y' (dec_f h8) (iw' a0) mv' ?_
  refine y' (dec_f h8) (.bool (decide (a0 ≥ 127))) (V_geq rfl rfl) ?_
  refine y' (dec_f h8) (.bool (decide (a0 ≥ 127))) mv' ?_
  by_cases h9 : a0 ≥ 127
  ·replace H:=g_ift h9 H
   refine y' (dec_t h9) (iw' a0) mv' ?_
   refine y' (dec_t h9) (.bool (decide (a0 ≤ 159))) (V_leq rfl rfl) ?_
   refine yo' (dec_f h8) (OA_v rfl (V_pickT rfl (dec_t h9) rfl) ?_)
   refine pF' (dec_f h8) ?_
   have h_:=oi' H;subst h_
   exact rm' [0,1]
  replace H:=g_iff h9 H
  refine no' 2 (dec_f h9) ?_
  refine yo' (dec_f h8) (OA_v rfl (V_pickF rfl (dec_f h9) rfl) ?_)
  refine pF' (dec_f h8) ?_
  have h_:=oi' H;subst h_
  exact rm' [0,1]
 replace H:=Bq7
 refine s' (.bool q7) mv' ?_
 obtain⟨q11,hq11,H⟩:=g_lt H
 refine cR' 3 [(0,iw' a0),(3,pt' b3),(4,pt' b5),(21,.bool q11)] [Blk b3 139 (List.flatMap enc138 ((rd r1 0)::(rd r1 1)::(rd r1 2)::(rd r1 3)::(rd r1 4)::(rd r1 5)::(rd r1 6)::(rd r1 7)::(rd r1 8)::(rd r1 9)::(rd r1 10)::(rd r1 11)::(rd r1 12)::(rd r1 13)::(rd r1 14)::(rd r1 15)::(rd r1 16)::(rd r1 17)::(rd r1 18)::(rd r1 19)::(rd r1 20)::(rd r1 21)::(rd r1 22)::(rd r1 23)::(rd r1 24)::(rd r1 25)::(rd r1 26)::(rd r1 27)::(rd r1 28)::(rd r1 29)::(rd r1 30)::(rd r1 31)::(rd r1 32)::(rd r1 33)::(rd r1 34)::(rd r1 35)::(rd r1 36)::[])),Blk b5 141 (List.flatMap enc138 ((rd r2 0)::(rd r2 1)::(rd r2 2)::(rd r2 3)::(rd r2 4)::(rd r2 5)::(rd r2 6)::(rd r2 7)::(rd r2 8)::(rd r2 9)::(rd r2 10)::(rd r2 11)::(rd r2 12)::(rd r2 13)::(rd r2 14)::(rd r2 15)::(rd r2 16)::(rd r2 17)::(rd r2 18)::(rd r2 19)::(rd r2 20)::(rd r2 21)::(rd r2 22)::(rd r2 23)::(rd r2 24)::(rd r2 25)::[]))] ?_ fun junk=>?_
 ·by_cases h12 : q7 = true
  ·refine no' 2 h12 ?_
   refine pT' h12 ?_
   refine RA_nil ?_
   exact at_normal (St.mk1 (aeq rfl (aeq rfl (aeq rfl (aeq (congrArg Value.bool (or_t hq11 (h12))) aeq0)))) (gs' [0,1]))
  refine y' (bno h12) (iw' a0) mv' ?_
  refine y' (bno h12) (.bool (decide (a0 > 1114111))) (V_gtr rfl rfl) ?_
  refine pF' (bno h12) ?_
  refine RA_nil ?_
  exact at_normal (St.mk1 (aeq rfl (aeq rfl (aeq rfl (aeq (congrArg Value.bool (or_f hq11 (bno h12))) aeq0)))) (gs' [0,1]))
 refine s' (.bool q11) mv' ?_
 obtain⟨q14,H,Bq14⟩:=g_bind H
 refine cR' 7 [(0,iw' a0),(3,pt' b3),(4,pt' b5),(29,.bool q14)] [Blk b3 139 (List.flatMap enc138 ((rd r1 0)::(rd r1 1)::(rd r1 2)::(rd r1 3)::(rd r1 4)::(rd r1 5)::(rd r1 6)::(rd r1 7)::(rd r1 8)::(rd r1 9)::(rd r1 10)::(rd r1 11)::(rd r1 12)::(rd r1 13)::(rd r1 14)::(rd r1 15)::(rd r1 16)::(rd r1 17)::(rd r1 18)::(rd r1 19)::(rd r1 20)::(rd r1 21)::(rd r1 22)::(rd r1 23)::(rd r1 24)::(rd r1 25)::(rd r1 26)::(rd r1 27)::(rd r1 28)::(rd r1 29)::(rd r1 30)::(rd r1 31)::(rd r1 32)::(rd r1 33)::(rd r1 34)::(rd r1 35)::(rd r1 36)::[])),Blk b5 141 (List.flatMap enc138 ((rd r2 0)::(rd r2 1)::(rd r2 2)::(rd r2 3)::(rd r2 4)::(rd r2 5)::(rd r2 6)::(rd r2 7)::(rd r2 8)::(rd r2 9)::(rd r2 10)::(rd r2 11)::(rd r2 12)::(rd r2 13)::(rd r2 14)::(rd r2 15)::(rd r2 16)::(rd r2 17)::(rd r2 18)::(rd r2 19)::(rd r2 20)::(rd r2 21)::(rd r2 22)::(rd r2 23)::(rd r2 24)::(rd r2 25)::[]))] ?_ fun junk=>?_
 ·by_cases h15 : q11 = true
  ·replace H:=g_ift h15 H
   refine no' 3 h15 ?_
   refine nu' ?_
   refine nu' ?_
   refine no' 1 h15 ?_
   refine pT' h15 ?_
   have h_:=oi' H;subst h_
   exact rm' [0,1]
  replace H:=g_iff h15 H
  refine y' (bno h15) (iw' a0) mv' ?_
  refine y' (bno h15) (.bool (decide (a0 ≥ 55296))) (V_geq rfl rfl) ?_
  refine y' (bno h15) (.bool (decide (a0 ≥ 55296))) mv' ?_
  by_cases h16 : a0 ≥ 55296
  ·replace H:=g_ift h16 H
   refine y' (dec_t h16) (iw' a0) mv' ?_
   refine y' (dec_t h16) (.bool (decide (a0 ≤ 57343))) (V_leq rfl rfl) ?_
   refine yo' (bno h15) (OA_v rfl (V_pickT rfl (dec_t h16) rfl) ?_)
   refine pF' (bno h15) ?_
   have h_:=oi' H;subst h_
   exact rm' [0,1]
  replace H:=g_iff h16 H
  refine no' 2 (dec_f h16) ?_
  refine yo' (bno h15) (OA_v rfl (V_pickF rfl (dec_f h16) rfl) ?_)
  refine pF' (bno h15) ?_
  have h_:=oi' H;subst h_
  exact rm' [0,1]
 replace H:=Bq14
 refine s' (.bool q14) as' ?_
 refine na' ?_
 by_cases h18 : q14 = true
 ·replace H:=g_ift h18 H
  refine SA_condTb rfl h18 ?_
  refine qr' ?_
  refine s' (il' (-1)) as' ?_
  refine nt' (inb_ret (thn_ret ?_))
  have h_:=oi' H;subst h_
  exact b1' [] ⟨rfl,rfl⟩
 replace H:=g_iff h18 H
 refine SA_condFb rfl h18 ?_
 refine qr' ?_
 refine o' (OA.ghost (Gh.blkRo (kd:=k138) (k:=1) (xs:=(((rd r2 0)::(rd r2 1)::(rd r2 2)::(rd r2 3)::(rd r2 4)::(rd r2 5)::(rd r2 6)::(rd r2 7)::(rd r2 8)::(rd r2 9)::(rd r2 10)::(rd r2 11)::(rd r2 12)::(rd r2 13)::(rd r2 14)::(rd r2 15)::(rd r2 16)::(rd r2 17)::(rd r2 18)::(rd r2 19)::(rd r2 20)::(rd r2 21)::(rd r2 22)::(rd r2 23)::(rd r2 24)::(rd r2 25)::[]) : List S138)) rfl (RL_enc enc138 (fun _ _=>rfl) (by kernel_rfl)) rfl) (OA_v (v:=.slice (some ⟨b5,0,none⟩) 26 26) rfl (V_sliceArr Tryz.underlying141 sz138 rfl) ?_))
 refine s' (iw' a0) mv' ?_
 obtain⟨r20,C26,H⟩:=g_bind H
 refine o' (ca' [1] [0,1] (xf' [.slice (some ⟨b5,0,none⟩) (((rd r2 0)::(rd r2 1)::(rd r2 2)::(rd r2 3)::(rd r2 4)::(rd r2 5)::(rd r2 6)::(rd r2 7)::(rd r2 8)::(rd r2 9)::(rd r2 10)::(rd r2 11)::(rd r2 12)::(rd r2 13)::(rd r2 14)::(rd r2 15)::(rd r2 16)::(rd r2 17)::(rd r2 18)::(rd r2 19)::(rd r2 20)::(rd r2 21)::(rd r2 22)::(rd r2 23)::(rd r2 24)::(rd r2 25)::[]) : List S138).length 26,iw' a0]) (F150.ok (l0:=(((rd r2 0)::(rd r2 1)::(rd r2 2)::(rd r2 3)::(rd r2 4)::(rd r2 5)::(rd r2 6)::(rd r2 7)::(rd r2 8)::(rd r2 9)::(rd r2 10)::(rd r2 11)::(rd r2 12)::(rd r2 13)::(rd r2 14)::(rd r2 15)::(rd r2 16)::(rd r2 17)::(rd r2 18)::(rd r2 19)::(rd r2 20)::(rd r2 21)::(rd r2 22)::(rd r2 23)::(rd r2 24)::(rd r2 25)::[]) : List S138)) (A0:=some ⟨b5,0,none⟩) (c0:=26) (a1:=a0) C26) ?_)
 rintro _ _⟨rfl,rfl⟩
 refine s' (.bool r20) as' ?_
 refine na' ?_
 by_cases h21 : r20 = true
 ·replace H:=g_ift h21 H
  refine SA_condTb rfl h21 ?_
  refine qr' ?_
  refine s' (il' 0) as' ?_
  refine nt' (inb_ret (thn_ret ?_))
  have h_:=oi' H;subst h_
  exact b1' [] ⟨rfl,rfl⟩
 replace H:=g_iff h21 H
 refine SA_condFb rfl h21 ?_
 refine qr' ?_
 refine o' (OA.ghost (Gh.blkRo (kd:=k138) (k:=0) (xs:=(((rd r1 0)::(rd r1 1)::(rd r1 2)::(rd r1 3)::(rd r1 4)::(rd r1 5)::(rd r1 6)::(rd r1 7)::(rd r1 8)::(rd r1 9)::(rd r1 10)::(rd r1 11)::(rd r1 12)::(rd r1 13)::(rd r1 14)::(rd r1 15)::(rd r1 16)::(rd r1 17)::(rd r1 18)::(rd r1 19)::(rd r1 20)::(rd r1 21)::(rd r1 22)::(rd r1 23)::(rd r1 24)::(rd r1 25)::(rd r1 26)::(rd r1 27)::(rd r1 28)::(rd r1 29)::(rd r1 30)::(rd r1 31)::(rd r1 32)::(rd r1 33)::(rd r1 34)::(rd r1 35)::(rd r1 36)::[]) : List S138)) rfl (RL_enc enc138 (fun _ _=>rfl) (by kernel_rfl)) rfl) (OA_v (v:=.slice (some ⟨b3,0,none⟩) 37 37) rfl (V_sliceArr Tryz.underlying139 sz138 rfl) ?_))
 refine s' (iw' a0) mv' ?_
 obtain⟨r23,C25,H⟩:=g_bind H
 refine o' (ca' [0] [0,1] (xf' [.slice (some ⟨b3,0,none⟩) (((rd r1 0)::(rd r1 1)::(rd r1 2)::(rd r1 3)::(rd r1 4)::(rd r1 5)::(rd r1 6)::(rd r1 7)::(rd r1 8)::(rd r1 9)::(rd r1 10)::(rd r1 11)::(rd r1 12)::(rd r1 13)::(rd r1 14)::(rd r1 15)::(rd r1 16)::(rd r1 17)::(rd r1 18)::(rd r1 19)::(rd r1 20)::(rd r1 21)::(rd r1 22)::(rd r1 23)::(rd r1 24)::(rd r1 25)::(rd r1 26)::(rd r1 27)::(rd r1 28)::(rd r1 29)::(rd r1 30)::(rd r1 31)::(rd r1 32)::(rd r1 33)::(rd r1 34)::(rd r1 35)::(rd r1 36)::[]) : List S138).length 37,iw' a0]) (F150.ok (l0:=(((rd r1 0)::(rd r1 1)::(rd r1 2)::(rd r1 3)::(rd r1 4)::(rd r1 5)::(rd r1 6)::(rd r1 7)::(rd r1 8)::(rd r1 9)::(rd r1 10)::(rd r1 11)::(rd r1 12)::(rd r1 13)::(rd r1 14)::(rd r1 15)::(rd r1 16)::(rd r1 17)::(rd r1 18)::(rd r1 19)::(rd r1 20)::(rd r1 21)::(rd r1 22)::(rd r1 23)::(rd r1 24)::(rd r1 25)::(rd r1 26)::(rd r1 27)::(rd r1 28)::(rd r1 29)::(rd r1 30)::(rd r1 31)::(rd r1 32)::(rd r1 33)::(rd r1 34)::(rd r1 35)::(rd r1 36)::[]) : List S138)) (A0:=some ⟨b3,0,none⟩) (c0:=37) (a1:=a0) C25) ?_)
 rintro _ _⟨rfl,rfl⟩
 refine s' (.bool r23) as' ?_
 refine na' ?_
 by_cases h24 : r23 = true
 ·replace H:=g_ift h24 H
  refine SA_condTb rfl h24 ?_
  refine qr' ?_
  refine s' (il' 2) as' ?_
  refine nt' (inb_ret (thn_ret ?_))
  have h_:=oi' H;subst h_
  exact b1' [] ⟨rfl,rfl⟩
 replace H:=g_iff h24 H
 refine SA_condFb rfl h24 ?_
 refine SA_skip (inb_normal (at_normal (qr' ?_)))
 refine s' (il' 1) as' ?_
 refine nt' ?_
 have h_:=oi' H;subst h_
 exact b1' [] ⟨rfl,rfl⟩


def F112.l0 (a0 : S55) : Nat → Bool → Int → Option (Out (Bool) (Unit))
  | 0,_,_=>none
  | k + 1,x3_735,x36_735=>if x36_735 < 3 then (if 0 ≤ x36_735∧x36_735 < (3 : Int) then (lt (rd ([a0.f1.f0,a0.f1.f1,a0.f1.f2] : List Int) x36_735) fun n741=>if n741 = 0 then (F112.l0 a0 k true (IntKind.i64.wrap (x36_735 + 1))) else ((if x3_735 = true then (some true) else ((F117.f k n741).bind (fun r745=>some (decide (r745 ≠ 0)))) : Option Bool).bind (fun q743=>if q743 = true then (some (Out.ret (false))) else (F112.l0 a0 k x3_735 (IntKind.i64.wrap (x36_735 + 1)))))) else none) else (some (Out.go ()))
def F112.f (k : Nat) (a0 : S55) : Option (Bool):=(F58.f a0.f3).bind (fun r3=>if (!r3) = true then (some (false)) else (if a0.f2 = 0 then (lt ((decide (a0.f0 = 0)) && (decide (a0.f1 = (S53.mk 0 0 0)))) fun q6=>some (q6)) else ((if a0.f2 > 2 then (some true) else ((F117.f k a0.f0).bind (fun r370=>some (decide (r370 ≠ (IntKind.i64.wrap (a0.f2)))))) : Option (Bool)).bind (fun t9=>if t9 = true then (some (false)) else ((F112.l0 a0 k false 0 : Option (Out (Bool) (Unit))).bind (fun t734=>Out.el t734 (fun r_=>some r_) (fun s735=>some (true))))))))
theorem F112.ok {a0 : S55} {r : Bool} (H : F112.f k a0 = some r) : SCA Tryz.prog 112 #[.agg (c55' a0).toArray] [] (fun v B=>v = .bool r∧B = []):=by
 refine SCA_of_body Tryz.func112 rfl rfl ?_
 unfold F112.f at H
 refine qr' ?_
 refine o' (bx' fun b1=>?_)
 refine s' (.bool false) as' ?_
 refine nq' ?_
 refine s' (pa' b1 5) (fa' b1 0 5) ?_
 refine l' (lA' b1 5 0 (c28' a0.f3)) ?_
 obtain⟨r3,C750,H⟩:=g_bind H
 refine o' (ca' [] [0] (xf' [.agg (c28' a0.f3).toArray]) (F58.ok (a0:=a0.f3) C750) ?_)
 rintro _ _⟨rfl,rfl⟩
 refine s' (.bool (!r3)) (V_not rfl) ?_
 refine na' ?_
 by_cases h4 : (!r3) = true
 ·replace H:=g_ift h4 H
  refine SA_condTb rfl h4 ?_
  refine qr' ?_
  refine s' (.bool false) as' ?_
  refine ntt' ?_
  have h_:=oi' H;subst h_
  exact b1' [] ⟨rfl,rfl⟩
 replace H:=g_iff h4 H
 refine SA_condFb rfl h4 ?_
 refine SA_skip (at_normal (SA_seq (qr' ?_)))
 refine s' (pa' b1 4) (fa' b1 0 4) ?_
 refine l' (ld' b1 4 0) ?_
 refine s' (.bool (decide (a0.f2 = 0))) (V_eql rfl rfl) ?_
 refine na' ?_
 by_cases h5 : a0.f2 = 0
 ·replace H:=g_ift h5 H
  refine SA_condT rfl h5 ?_
  refine qr' ?_
  refine s' (pt' b1) (fa' b1 0 0) ?_
  refine l' (ld' b1 0 0) ?_
  refine s' (.bool (decide (a0.f0 = 0))) (V_eql rfl rfl) ?_
  refine s' (.bool (decide (a0.f0 = 0))) mv' ?_
  obtain⟨q6,hq6,H⟩:=g_lt H
  refine cR' 5 [(21,.bool q6)] [] ?_ fun junk=>?_
  ·by_cases h7 : a0.f0 = 0
   ·refine y' (dec_t h7) (pa' b1 1) (fa' b1 0 1) ?_
    refine z' (dec_t h7) (lA' b1 1 0 [iw' a0.f1.f0,iw' a0.f1.f1,iw' a0.f1.f2]) ?_
    refine y' (dec_t h7) (.agg #[iw' 0,iw' 0,iw' 0]) bA' ?_
    refine y' (dec_t h7) (.bool (decide (a0.f1 = (S53.mk 0 0 0)))) (V_eqlD (xs:=[iw' a0.f1.f0,iw' a0.f1.f1,iw' a0.f1.f2]) (ys:=[iw' 0,iw' 0,iw' 0]) (r:=((a0.f1.f0 == 0) && ((a0.f1.f1 == 0) && ((a0.f1.f2 == 0) && true)))) (p:=a0.f1 = (S53.mk 0 0 0)) eqg53 rfl rfl (by kernel_rfl) (eqv53 (x:=a0.f1) (y:=(S53.mk 0 0 0)))) ?_
    refine pT' (dec_t h7) ?_
    refine RA_nil ?_
    exact at_normal (St.mk1 (aeq (congrArg Value.bool (and_t hq6 (dec_t h7))) aeq0) (gs' []))
   refine no' 4 (dec_f h7) ?_
   refine pF' (dec_f h7) ?_
   refine RA_nil ?_
   exact at_normal (St.mk1 (aeq (congrArg Value.bool (and_f hq6 (dec_f h7))) aeq0) (gs' []))
  refine s' (.bool q6) as' ?_
  refine ntt' ?_
  have h_:=oi' H;subst h_
  exact b1' [] ⟨rfl,rfl⟩
 replace H:=g_iff h5 H
 refine SA_condF rfl h5 ?_
 refine SA_skip (at_normal (SA_seq (SA_seq ?_)))
 obtain⟨t9,H,Bt9⟩:=g_bind H
 refine SA_mid (fun e ds As=>St [(1,pt' b1),(33,.bool t9)] [Blk b1 55 (c55' a0)] e ds As) ?_ ?_
 ·refine SA_drawHq (rg' 0 12) #[[],[0],[0,1],[0,1,2],(rg' 0 4),(rg' 0 5),(rg' 0 6),(rg' 0 4),[0,1,2,3,7],[0,1,2,3,7,8],(rg' 0 10),(rg' 0 11)] [0] [] mixed rfl rfl rfl (PanOk.thn (PanOk.thn (PanOk.thn PanOk.body))) fun I0 hS h0 hh0 w0 sH dd pk=>?_
  refine t' (pa' b1 4) 0 rfl sH (fa' b1 0 4) ?_
  refine r' 1 rfl sH (ld' b1 4 0) ?_
  refine t' (.bool (decide (a0.f2 > 2))) 2 rfl sH (V_gtr rfl rfl) ?_
  refine t' (.bool (decide (a0.f2 > 2))) 3 rfl sH mv' ?_
  by_cases h731 : a0.f2 > 2
  ·replace H:=g_ift h731 H
   refine dn' 4 rfl (dec_t h731) ?_
   refine dn' 5 rfl (dec_t h731) ?_
   refine dn' 6 rfl (dec_t h731) ?_
   refine dn' 7 rfl (dec_t h731) ?_
   refine dn' 8 rfl (dec_t h731) ?_
   refine dn' 9 rfl (dec_t h731) ?_
   refine dn' 10 rfl (dec_t h731) ?_
   refine r' 11 rfl sH (VR.ofV (V_pickT rfl (dec_t h731) rfl)) ?_
   refine DH_open dd sH ?_
   refine DN_done (by kernel_rfl) ?_
   have h_:=oi' H;subst h_
   exact sm' [0]
  replace H:=g_iff h731 H
  refine ty' (pt' b1) 4 rfl (dec_f h731) sH (fa' b1 0 0) ?_
  refine ry' 5 rfl (dec_f h731) sH (ld' b1 0 0) ?_
  refine ty' (pa' b1 4) 7 rfl (dec_f h731) sH (fa' b1 0 4) ?_
  refine ry' 8 rfl (dec_f h731) sH (ld' b1 4 0) ?_
  refine ty' (il' (IntKind.i64.wrap (a0.f2))) 9 rfl (dec_f h731) sH (V_conv (T:=5) (by kernel_rfl) Tryz.underlying3 rfl) ?_
  obtain⟨r370,C371,H⟩:=g_bind H
  refine DH_one 6 dd (by kernel_rfl) rfl (.yes rfl rfl rfl rfl (dec_f h731)) (ca' [] [] (xf' [iw' a0.f0]) (F117.ok (a0:=a0.f0) C371) ?_)
  rintro _ _⟨rfl,rfl⟩
  refine ty' (.bool (decide (r370 ≠ (IntKind.i64.wrap (a0.f2))))) 10 rfl (dec_f h731) sH (V_neq rfl rfl) ?_
  refine r' 11 rfl sH (VR.ofV (V_pickF rfl (dec_f h731) rfl)) ?_
  refine DH_open dd sH ?_
  refine DN_done (by kernel_rfl) ?_
  have h_:=oi' H;subst h_
  exact sm' [0]
 rintro e ds As hst732
 clear H
 have H:=Bt9
 clear Bt9
 refine at_normal ?_
 refine SA.of_St hst732 fun junk=>?_
 by_cases h733 : t9 = true
 ·replace H:=g_ift h733 H
  refine SA_condTb rfl h733 ?_
  refine qr' ?_
  refine s' (.bool false) as' ?_
  refine ntt' ?_
  have h_:=oi' H;subst h_
  exact b1' [] ⟨rfl,rfl⟩
 replace H:=g_iff h733 H
 refine SA_condFb rfl h733 ?_
 refine SA_skip (at_normal (qr' ?_))
 refine s' (.bool false) as' ?_
 refine nq' ?_
 refine s' (pa' b1 1) (fa' b1 0 1) ?_
 refine l' (lA' b1 1 0 [iw' a0.f1.f0,iw' a0.f1.f1,iw' a0.f1.f2]) ?_
 refine s' (il' 0) mv' ?_
 refine na' ?_
 obtain⟨t734,H,Bt734⟩:=g_bind H
 refine SA_mid (fun e ds As=>∃ (s735 : Unit),t734 = Out.go s735∧St [] [] e ds As) ?_ ?_
 ·refine SA_block ?_
  refine SA_loop (fun k_ e ds As=>∃ (x3_735 : Bool) (x36_735 : Int),F112.l0 a0 k_ x3_735 x36_735 = some t734∧St [(3,.bool x3_735),(35,.agg #[iw' a0.f1.f0,iw' a0.f1.f1,iw' a0.f1.f2]),(36,il' x36_735)] [] e ds As) (k:=k) ⟨_,_,H,sq' []⟩ ?_
  clear H
  rintro k736 e ds As ⟨x3_735,x36_735,H,hst737⟩
  obtain _ | k736:=k736
  ·cases H
  rw [F112.l0] at H
  refine SA.of_St hst737 fun junk=>?_
  refine qr' ?_
  refine s' (.bool (decide (x36_735 < 3))) (V_lss rfl rfl) ?_
  refine na' (SA_seq ?_)
  by_cases h738 : x36_735 < 3
  ·replace H:=g_ift h738 H
   refine SA_condT rfl h738 ?_
   refine SA_skip (at_normal (SA_seq (SA_block (qr' ?_))))
   obtain⟨⟨g739,g740⟩,H⟩:=g_pos H
   refine s' (iw' (rd ([a0.f1.f0,a0.f1.f1,a0.f1.f2] : List Int) x36_735)) (V_indexV1 (kd:=(Kd.int .i32)) (i:=x36_735) (cs:=[iw' a0.f1.f0,iw' a0.f1.f1,iw' a0.f1.f2]) (xs:=([a0.f1.f0,a0.f1.f1,a0.f1.f2] : List Int)) (v:=iw' (rd ([a0.f1.f0,a0.f1.f1,a0.f1.f2] : List Int) x36_735)) Tryz.underlying53 sz21 Tryz.underlying21 rfl rfl rfl (RL_enc (fun x_ : Int=>[Value.int .i32 x_]) (fun _ _=>rfl) (by kernel_rfl) _) rfl rfl g739 g740 (fun _ h_=>by rw [h_]; rfl)) ?_
   obtain⟨n741,hn741,H⟩:=g_lt H
   refine s' (iw' n741) (V_assign (v:=iw' n741) (congrArg (Value.int .i32) hn741.symm)) ?_
   refine na' (SA_block (qr' ?_))
   refine s' (iw' n741) mv' ?_
   refine s' (.bool (decide (n741 = 0))) (V_eql rfl rfl) ?_
   refine s' (.bool (decide (n741 = 0))) as' ?_
   refine na' ?_
   by_cases h742 : n741 = 0
   ·replace H:=g_ift h742 H
    refine SA_condT rfl h742 ?_
    refine SA_region ?_
    refine s' (.bool true) as' ?_
    refine RA_nil (inb_normal (inb_normal (at_normal (SA_region ?_))))
    refine s' (il' (IntKind.i64.wrap (x36_735 + 1))) (V_add rfl rfl) ?_
    refine s' (il' (IntKind.i64.wrap (x36_735 + 1))) mv' ?_
    refine RA_nil ?_
    exact at_normal ⟨k736,Nat.lt_succ_self _,_,_,H,sq' []⟩
   replace H:=g_iff h742 H
   refine SA_condF rfl h742 ?_
   refine qr' ?_
   refine s' (.bool x3_735) mv' ?_
   refine s' (.bool x3_735) mv' ?_
   obtain⟨q743,H,Bq743⟩:=g_bind H
   refine cR' 4 [(3,.bool x3_735),(35,.agg #[iw' a0.f1.f0,iw' a0.f1.f1,iw' a0.f1.f2]),(36,il' x36_735),(48,.bool q743)] [] ?_ fun junk=>?_
   ·by_cases h744 : x3_735 = true
    ·replace H:=g_ift h744 H
     refine no' 3 h744 ?_
     refine pT' h744 ?_
     have h_:=oi' H;subst h_
     exact rm' []
    replace H:=g_iff h744 H
    refine y' (bno h744) (iw' n741) mv' ?_
    obtain⟨r745,C746,H⟩:=g_bind H
    refine yo' (bno h744) (ca' [] [] (xf' [iw' n741]) (F117.ok (a0:=n741) C746) ?_)
    rintro _ _⟨rfl,rfl⟩
    refine y' (bno h744) (.bool (decide (r745 ≠ 0))) (V_neq rfl rfl) ?_
    refine pF' (bno h744) ?_
    have h_:=oi' H;subst h_
    exact rm' []
   replace H:=Bq743
   refine s' (.bool q743) as' ?_
   refine na' ?_
   by_cases h748 : q743 = true
   ·replace H:=g_ift h748 H
    refine SA_condTb rfl h748 ?_
    refine qr' ?_
    refine s' (.bool false) as' ?_
    refine nt' (inb_ret (inb_ret (thn_ret (thn_ret (inb_ret (thn_ret (thn_ret ?_)))))))
    have h_:=oi' H;subst h_
    have hb_:=el_ret Bt734
    have hr_:=Option.some.inj hb_
    clear hb_
    subst hr_
    exact b1' [] ⟨rfl,rfl⟩
   replace H:=g_iff h748 H
   refine SA_condFb rfl h748 ?_
   refine SA_skip (inb_normal (inb_normal (at_normal (SA_region ?_))))
   refine s' (il' (IntKind.i64.wrap (x36_735 + 1))) (V_add rfl rfl) ?_
   refine s' (il' (IntKind.i64.wrap (x36_735 + 1))) mv' ?_
   refine RA_nil ?_
   exact at_normal ⟨k736,Nat.lt_succ_self _,_,_,H,sq' []⟩
  replace H:=g_iff h738 H
  refine SA_condF rfl h738 ?_
  refine SA_exit (thn_exit (thn_exit (inb_hit ?_)))
  have h_:=oi' H;subst h_
  exact at_normal ⟨(),rfl,sq' []⟩
 rintro e ds As ⟨s735,ht,hst749⟩
 clear H
 subst ht
 replace Bt734:=el_go Bt734
 have H:=Bt734
 clear Bt734
 refine at_normal ?_
 refine SA.of_St hst749 fun junk=>?_
 refine qr' ?_
 refine s' (.bool true) as' ?_
 refine nt' ?_
 have h_:=oi' H;subst h_
 exact b1' [] ⟨rfl,rfl⟩


def F57b0.l0 (a0 : S26) : Nat → S55 → Int → Option (Out (Bool) (S55))
  | 0,_,_=>none
  | k + 1,x3_13,x28_13=>if x28_13 < (a0.f2.length : Int) then (if 0 ≤ x28_13∧x28_13 < (a0.f2.length : Int) then (if a0.f0 ≠ 0 then (lt ((decide ((x28_13.tmod a0.f0) = 0)) && (decide (x3_13.f2 = 2))) fun q23=>if q23 = true then (some (Out.ret (false))) else (lt ((decide (((rd a0.f2 x28_13).f2) = 0)) && (decide (((rd a0.f2 x28_13).f3) = x3_13.f3))) fun q27=>(if q27 = true then (if a0.f0 ≠ 0 then (some (decide ((x28_13.tmod a0.f0) > 0))) else none) else (some false) : Option Bool).bind (fun q30=>(F112.f k (S55.mk ((rd a0.f2 x28_13).f0) ((rd a0.f2 x28_13).f1) ((rd a0.f2 x28_13).f2) ((rd a0.f2 x28_13).f3))).bind (fun r34=>lt ((!r34) || (decide ((decide (x3_13.f2 = 2)) ≠ q30))) fun q35=>(if q35 = true then (some true) else (if ((rd a0.f2 x28_13).f2) = 0 then (some (!q30)) else (some false)) : Option Bool).bind (fun q38=>if q38 = true then (some (Out.ret (false))) else (F57b0.l0 a0 k (S55.mk ((rd a0.f2 x28_13).f0) ((rd a0.f2 x28_13).f1) ((rd a0.f2 x28_13).f2) ((rd a0.f2 x28_13).f3)) (IntKind.i64.wrap (x28_13 + 1)))))))) else none) else none) else (some (Out.go x3_13))
def F57b0.f (k : Nat) (a0 : S26) : Option (Bool):=(F68.f a0.f0 a0.f1).bind (fun r4=>lt ((!r4) || (decide ((a0.f2.length : Int) ≠ (IntKind.i64.wrap (a0.f0 * a0.f1))))) fun q5=>if q5 = true then (some (false)) else ((F57b0.l0 a0 k (S55.mk 0 (S53.mk 0 0 0) 1 (S28.mk 0 0 false false false false false false false false)) 0 : Option (Out (Bool) (S55))).bind (fun t11=>Out.el t11 (fun r_=>some r_) (fun s12=>some (decide (s12.f2 ≠ 2))))))
theorem F57b0.ok {a0 : S26} {r : Bool} (H : F57b0.f k a0 = some r) : SCA Tryz.prog 57 #[.agg #[il' a0.f0,il' a0.f1,.slice A0_0 a0.f2.length c0_0]] [Buf k55 55 A0_0 c0_0 a0.f2] (fun v B=>v = .bool r∧B = [Buf k55 55 A0_0 c0_0 a0.f2]):=by
 refine SCA_of_body Tryz.func57 rfl rfl ?_
 unfold F57b0.f at H
 refine qr' ?_
 refine o' (bx' fun b2=>?_)
 refine s' (.bool false) as' ?_
 refine nq' ?_
 refine s' (pt' b2) (fa' b2 0 0) ?_
 refine l' (ld' b2 0 1) ?_
 refine s' (pa' b2 1) (fa' b2 0 1) ?_
 refine l' (ld' b2 1 1) ?_
 obtain⟨r4,C45,H⟩:=g_bind H
 refine o' (ca' [] [0,1] (xf' [il' a0.f0,il' a0.f1]) (F68.ok (a0:=a0.f0) (a1:=a0.f1) C45) ?_)
 rintro _ _⟨rfl,rfl⟩
 refine s' (.bool (!r4)) (V_not rfl) ?_
 refine s' (.bool (!r4)) mv' ?_
 obtain⟨q5,hq5,H⟩:=g_lt H
 refine RA_cut 10 (fun e ds As=>St [(1,pt' b2),(23,.bool q5)] [Buf k55 55 A0_0 c0_0 a0.f2,Blk b2 26 [il' a0.f0,il' a0.f1,.slice A0_0 a0.f2.length c0_0]] e ds As) ?_ ?_
 ·by_cases h6 : (!r4) = true
  ·refine no' 9 h6 ?_
   refine pT' h6 ?_
   refine RA_nil ?_
   exact at_normal (St.mk1 (aeq rfl (aeq (congrArg Value.bool (or_t hq5 (h6))) aeq0)) (gs' [0,1]))
  refine y' (bno h6) (pa' b2 2) (fa' b2 0 2) ?_
  refine z' (bno h6) (ld' b2 2 1) ?_
  refine y' (bno h6) (il' (a0.f2.length : Int)) (V_len Tryz.underlying24 rfl) ?_
  refine y' (bno h6) (pt' b2) (fa' b2 0 0) ?_
  refine z' (bno h6) (ld' b2 0 1) ?_
  refine y' (bno h6) (pa' b2 1) (fa' b2 0 1) ?_
  refine z' (bno h6) (ld' b2 1 1) ?_
  refine y' (bno h6) (il' (IntKind.i64.wrap (a0.f0 * a0.f1))) (V_mul rfl rfl) ?_
  refine y' (bno h6) (.bool (decide ((a0.f2.length : Int) ≠ (IntKind.i64.wrap (a0.f0 * a0.f1))))) (V_neq rfl rfl) ?_
  refine pF' (bno h6) ?_
  refine RA_nil ?_
  exact at_normal (St.mk1 (aeq rfl (aeq (congrArg Value.bool (or_f hq5 (bno h6))) aeq0)) (gs' [0,1]))
 rintro e ds As hst7
 refine na' ?_
 refine SA.of_St hst7 fun junk=>?_
 by_cases h8 : q5 = true
 ·replace H:=g_ift h8 H
  refine SA_condTb rfl h8 ?_
  refine qr' ?_
  refine s' (.bool false) as' ?_
  refine ntt' ?_
  have h_:=oi' H;subst h_
  exact b1' [0] ⟨rfl,rfl⟩
 replace H:=g_iff h8 H
 refine SA_condFb rfl h8 ?_
 refine SA_skip (at_normal (qr' ?_))
 refine s' (.agg (c55' (S55.mk 0 (S53.mk 0 0 0) 1 z28')).toArray) bd' ?_
 refine o' (al' fun b9=>?_)
 refine o' (su' b9 0 2 (c55' (S55.mk 0 (S53.mk 0 0 0) 1 z28')) ?_)
 refine nq' ?_
 refine s' (pa' b2 2) (fa' b2 0 2) ?_
 refine l' (ld' b2 2 1) ?_
 refine s' (il' (a0.f2.length : Int)) (V_len Tryz.underlying24 rfl) ?_
 refine s' (il' 0) mv' ?_
 refine na' ?_
 obtain⟨t11,H,Bt11⟩:=g_bind H
 refine SA_mid (fun e ds As=>∃ (s12 : S55),t11 = Out.go s12∧∃ (b13 : Nat),St [(3,pt' b13)] [Blk b13 55 (c55' s12),Buf k55 55 A0_0 c0_0 a0.f2] e ds As) ?_ ?_
 ·refine SA_block ?_
  refine SA_loop (fun k_ e ds As=>∃ (x3_13 : S55) (x28_13 : Int),∃ (b14 : Nat),F57b0.l0 a0 k_ x3_13 x28_13 = some t11∧St [(1,pt' b2),(3,pt' b14),(26,.slice A0_0 a0.f2.length c0_0),(27,il' (a0.f2.length : Int)),(28,il' x28_13)] [Buf k55 55 A0_0 c0_0 a0.f2,Blk b2 26 [il' a0.f0,il' a0.f1,.slice A0_0 a0.f2.length c0_0],Blk b14 55 (c55' x3_13)] e ds As) (k:=k) ⟨_,_,b9,H,sq' [0,1,2]⟩ ?_
  clear H
  rintro k15 e ds As ⟨x3_13,x28_13,b14,H,hst16⟩
  obtain _ | k15:=k15
  ·cases H
  rw [F57b0.l0] at H
  refine SA.of_St hst16 fun junk=>?_
  refine qr' ?_
  refine s' (.bool (decide (x28_13 < (a0.f2.length : Int)))) (V_lss rfl rfl) ?_
  refine na' (SA_seq ?_)
  by_cases h17 : x28_13 < (a0.f2.length : Int)
  ·replace H:=g_ift h17 H
   refine SA_condT rfl h17 ?_
   refine SA_skip (at_normal (SA_seq (SA_block (qr' ?_))))
   refine s' (il' x28_13) mv' ?_
   obtain⟨⟨g18,g19⟩,H⟩:=g_pos H
   refine l' (VR_index (i:=x28_13) Tryz.underlying24 sz55 rfl rfl (Src.buf (k:=0) rfl) g18 g19) ?_
   refine l' (VR_loadA_el (enc:=enc55) (i:=x28_13) (j:=x28_13.toNat * 15) (m:=0) (sz:=15) (vs:=(c55' (S55.mk ((rd a0.f2 x28_13).f0) ((rd a0.f2 x28_13).f1) ((rd a0.f2 x28_13).f2) ((rd a0.f2 x28_13).f3)))) Tryz.underlying55 rfl sz55 rfl rfl rfl (Src.buf (k:=0) rfl) g18 g19 (fun _ _ h=>h) rfl) ?_
   refine o' (al' fun b20=>?_)
   refine s' (il' x28_13) as' ?_
   refine o' (su' b20 0 3 (c55' (S55.mk ((rd a0.f2 x28_13).f0) ((rd a0.f2 x28_13).f1) ((rd a0.f2 x28_13).f2) ((rd a0.f2 x28_13).f3))) ?_)
   refine nq' ?_
   refine s' (il' x28_13) mv' ?_
   refine s' (pt' b2) (fa' b2 0 0) ?_
   refine l' (ld' b2 0 1) ?_
   obtain⟨g22,H⟩:=g_pos H
   refine s' (il' (x28_13.tmod a0.f0)) (V_rem rfl rfl g22) ?_
   refine s' (.bool (decide ((x28_13.tmod a0.f0) = 0))) (V_eql rfl rfl) ?_
   refine s' (.bool (decide ((x28_13.tmod a0.f0) = 0))) mv' ?_
   obtain⟨q23,hq23,H⟩:=g_lt H
   refine RA_cut 4 (fun e ds As=>St [(1,pt' b2),(3,pt' b14),(4,il' x28_13),(5,pt' b20),(26,.slice A0_0 a0.f2.length c0_0),(27,il' (a0.f2.length : Int)),(28,il' x28_13),(42,.bool q23)] [Buf k55 55 A0_0 c0_0 a0.f2,Blk b2 26 [il' a0.f0,il' a0.f1,.slice A0_0 a0.f2.length c0_0],Blk b14 55 (c55' x3_13),Blk b20 55 (c55' (S55.mk ((rd a0.f2 x28_13).f0) ((rd a0.f2 x28_13).f1) ((rd a0.f2 x28_13).f2) ((rd a0.f2 x28_13).f3)))] e ds As) ?_ ?_
   ·by_cases h24 : (x28_13.tmod a0.f0) = 0
    ·refine y' (dec_t h24) (pa' b14 4) (fa' b14 0 4) ?_
     refine z' (dec_t h24) (ld' b14 4 2) ?_
     refine y' (dec_t h24) (.bool (decide (x3_13.f2 = 2))) (V_eql rfl rfl) ?_
     refine pT' (dec_t h24) ?_
     refine RA_nil ?_
     exact at_normal (St.mk1 (aeq rfl (aeq rfl (aeq rfl (aeq rfl (aeq rfl (aeq rfl (aeq rfl (aeq (congrArg Value.bool (and_t hq23 (dec_t h24))) aeq0)))))))) (gs' [0,1,2,3]))
    refine no' 3 (dec_f h24) ?_
    refine pF' (dec_f h24) ?_
    refine RA_nil ?_
    exact at_normal (St.mk1 (aeq rfl (aeq rfl (aeq rfl (aeq rfl (aeq rfl (aeq rfl (aeq rfl (aeq (congrArg Value.bool (and_f hq23 (dec_f h24))) aeq0)))))))) (gs' [0,1,2,3]))
   rintro e ds As hst25
   refine na' ?_
   refine SA.of_St hst25 fun junk=>?_
   by_cases h26 : q23 = true
   ·replace H:=g_ift h26 H
    refine SA_condTb rfl h26 ?_
    refine qr' ?_
    refine s' (.bool false) as' ?_
    refine ntt' (inb_ret (thn_ret (thn_ret (inb_ret (thn_ret (thn_ret ?_))))))
    have h_:=oi' H;subst h_
    have hb_:=el_ret Bt11
    have hr_:=Option.some.inj hb_
    clear hb_
    subst hr_
    exact b1' [0] ⟨rfl,rfl⟩
   replace H:=g_iff h26 H
   refine SA_condFb rfl h26 ?_
   refine SA_skip (at_normal (qr' ?_))
   refine s' (pa' b20 4) (fa' b20 0 4) ?_
   refine l' (ld' b20 4 3) ?_
   refine s' (.bool (decide (((rd a0.f2 x28_13).f2) = 0))) (V_eql rfl rfl) ?_
   refine s' (.bool (decide (((rd a0.f2 x28_13).f2) = 0))) mv' ?_
   obtain⟨q27,hq27,H⟩:=g_lt H
   refine cR' 6 [(1,pt' b2),(3,pt' b14),(4,il' x28_13),(5,pt' b20),(26,.slice A0_0 a0.f2.length c0_0),(27,il' (a0.f2.length : Int)),(28,il' x28_13),(52,.bool q27)] [Buf k55 55 A0_0 c0_0 a0.f2,Blk b2 26 [il' a0.f0,il' a0.f1,.slice A0_0 a0.f2.length c0_0],Blk b14 55 (c55' x3_13),Blk b20 55 (c55' (S55.mk ((rd a0.f2 x28_13).f0) ((rd a0.f2 x28_13).f1) ((rd a0.f2 x28_13).f2) ((rd a0.f2 x28_13).f3)))] ?_ fun junk=>?_
   ·by_cases h28 : ((rd a0.f2 x28_13).f2) = 0
    ·refine y' (dec_t h28) (pa' b20 5) (fa' b20 0 5) ?_
     refine z' (dec_t h28) (lA' b20 5 3 (c28' ((rd a0.f2 x28_13).f3))) ?_
     refine y' (dec_t h28) (pa' b14 5) (fa' b14 0 5) ?_
     refine z' (dec_t h28) (lA' b14 5 2 (c28' x3_13.f3)) ?_
     refine y' (dec_t h28) (.bool (decide (((rd a0.f2 x28_13).f3) = x3_13.f3))) (V_eqlD (xs:=(c28' ((rd a0.f2 x28_13).f3))) (ys:=(c28' x3_13.f3)) (r:=(((((rd a0.f2 x28_13).f3).f0) == x3_13.f3.f0) && (((((rd a0.f2 x28_13).f3).f1) == x3_13.f3.f1) && (((((rd a0.f2 x28_13).f3).f2) == x3_13.f3.f2) && (((((rd a0.f2 x28_13).f3).f3) == x3_13.f3.f3) && (((((rd a0.f2 x28_13).f3).f4) == x3_13.f3.f4) && (((((rd a0.f2 x28_13).f3).f5) == x3_13.f3.f5) && (((((rd a0.f2 x28_13).f3).f6) == x3_13.f3.f6) && (((((rd a0.f2 x28_13).f3).f7) == x3_13.f3.f7) && (((((rd a0.f2 x28_13).f3).f8) == x3_13.f3.f8) && (((((rd a0.f2 x28_13).f3).f9) == x3_13.f3.f9) && true))))))))))) (p:=((rd a0.f2 x28_13).f3) = x3_13.f3) eqg28 rfl rfl (by kernel_rfl) (eqv28 (x:=((rd a0.f2 x28_13).f3)) (y:=x3_13.f3))) ?_
     refine pT' (dec_t h28) ?_
     refine RA_nil ?_
     exact at_normal (St.mk1 (aeq rfl (aeq rfl (aeq rfl (aeq rfl (aeq rfl (aeq rfl (aeq rfl (aeq (congrArg Value.bool (and_t hq27 (dec_t h28))) aeq0)))))))) (gs' [0,1,2,3]))
    refine no' 5 (dec_f h28) ?_
    refine pF' (dec_f h28) ?_
    refine RA_nil ?_
    exact at_normal (St.mk1 (aeq rfl (aeq rfl (aeq rfl (aeq rfl (aeq rfl (aeq rfl (aeq rfl (aeq (congrArg Value.bool (and_f hq27 (dec_f h28))) aeq0)))))))) (gs' [0,1,2,3]))
   refine s' (.bool q27) mv' ?_
   obtain⟨q30,H,Bq30⟩:=g_bind H
   refine cR' 6 [(1,pt' b2),(3,pt' b14),(5,pt' b20),(26,.slice A0_0 a0.f2.length c0_0),(27,il' (a0.f2.length : Int)),(28,il' x28_13),(59,.bool q30)] [Buf k55 55 A0_0 c0_0 a0.f2,Blk b2 26 [il' a0.f0,il' a0.f1,.slice A0_0 a0.f2.length c0_0],Blk b14 55 (c55' x3_13),Blk b20 55 (c55' (S55.mk ((rd a0.f2 x28_13).f0) ((rd a0.f2 x28_13).f1) ((rd a0.f2 x28_13).f2) ((rd a0.f2 x28_13).f3)))] ?_ fun junk=>?_
   ·by_cases h31 : q27 = true
    ·replace H:=g_ift h31 H
     refine y' h31 (il' x28_13) mv' ?_
     refine y' h31 (pt' b2) (fa' b2 0 0) ?_
     refine z' h31 (ld' b2 0 1) ?_
     obtain⟨g32,H⟩:=g_pos H
     refine y' h31 (il' (x28_13.tmod a0.f0)) (V_rem rfl rfl g32) ?_
     refine y' h31 (.bool (decide ((x28_13.tmod a0.f0) > 0))) (V_gtr rfl rfl) ?_
     refine pT' h31 ?_
     have h_:=oi' H;subst h_
     exact rm' [0,1,2,3]
    replace H:=g_iff h31 H
    refine no' 5 (bno h31) ?_
    refine pF' (bno h31) ?_
    have h_:=oi' H;subst h_
    exact rm' [0,1,2,3]
   replace H:=Bq30
   refine s' (.bool q30) as' ?_
   refine nq' ?_
   refine l' (lA' b20 0 3 (c55' (S55.mk ((rd a0.f2 x28_13).f0) ((rd a0.f2 x28_13).f1) ((rd a0.f2 x28_13).f2) ((rd a0.f2 x28_13).f3)))) ?_
   obtain⟨r34,C43,H⟩:=g_bind H
   refine o' (ca' [] [0,1,2,3] (xf' [.agg (c55' (S55.mk ((rd a0.f2 x28_13).f0) ((rd a0.f2 x28_13).f1) ((rd a0.f2 x28_13).f2) ((rd a0.f2 x28_13).f3))).toArray]) (F112.ok (a0:=(S55.mk ((rd a0.f2 x28_13).f0) ((rd a0.f2 x28_13).f1) ((rd a0.f2 x28_13).f2) ((rd a0.f2 x28_13).f3))) C43) ?_)
   rintro _ _⟨rfl,rfl⟩
   refine s' (.bool (!r34)) (V_not rfl) ?_
   refine s' (.bool (!r34)) mv' ?_
   obtain⟨q35,hq35,H⟩:=g_lt H
   refine cR' 6 [(1,pt' b2),(3,pt' b14),(5,pt' b20),(6,.bool q30),(26,.slice A0_0 a0.f2.length c0_0),(27,il' (a0.f2.length : Int)),(28,il' x28_13),(69,.bool q35)] [Buf k55 55 A0_0 c0_0 a0.f2,Blk b2 26 [il' a0.f0,il' a0.f1,.slice A0_0 a0.f2.length c0_0],Blk b14 55 (c55' x3_13),Blk b20 55 (c55' (S55.mk ((rd a0.f2 x28_13).f0) ((rd a0.f2 x28_13).f1) ((rd a0.f2 x28_13).f2) ((rd a0.f2 x28_13).f3)))] ?_ fun junk=>?_
   ·by_cases h36 : (!r34) = true
    ·refine no' 5 h36 ?_
     refine pT' h36 ?_
     refine RA_nil ?_
     exact at_normal (St.mk1 (aeq rfl (aeq rfl (aeq rfl (aeq rfl (aeq rfl (aeq rfl (aeq rfl (aeq (congrArg Value.bool (or_t hq35 (h36))) aeq0)))))))) (gs' [0,1,2,3]))
    refine y' (bno h36) (pa' b14 4) (fa' b14 0 4) ?_
    refine z' (bno h36) (ld' b14 4 2) ?_
    refine y' (bno h36) (.bool (decide (x3_13.f2 = 2))) (V_eql rfl rfl) ?_
    refine y' (bno h36) (.bool q30) mv' ?_
    refine y' (bno h36) (.bool (decide ((decide (x3_13.f2 = 2)) ≠ q30))) (V_neqB Tryz.underlying4 rfl rfl) ?_
    refine pF' (bno h36) ?_
    refine RA_nil ?_
    exact at_normal (St.mk1 (aeq rfl (aeq rfl (aeq rfl (aeq rfl (aeq rfl (aeq rfl (aeq rfl (aeq (congrArg Value.bool (or_f hq35 (bno h36))) aeq0)))))))) (gs' [0,1,2,3]))
   refine s' (.bool q35) mv' ?_
   obtain⟨q38,H,Bq38⟩:=g_bind H
   refine RA_cut 8 (fun e ds As=>St [(1,pt' b2),(3,pt' b14),(5,pt' b20),(26,.slice A0_0 a0.f2.length c0_0),(27,il' (a0.f2.length : Int)),(28,il' x28_13),(78,.bool q38)] [Buf k55 55 A0_0 c0_0 a0.f2,Blk b2 26 [il' a0.f0,il' a0.f1,.slice A0_0 a0.f2.length c0_0],Blk b14 55 (c55' x3_13),Blk b20 55 (c55' (S55.mk ((rd a0.f2 x28_13).f0) ((rd a0.f2 x28_13).f1) ((rd a0.f2 x28_13).f2) ((rd a0.f2 x28_13).f3)))] e ds As) ?_ ?_
   ·by_cases h39 : q35 = true
    ·replace H:=g_ift h39 H
     refine no' 4 h39 ?_
     refine nu' ?_
     refine nu' ?_
     refine no' 1 h39 ?_
     refine pT' h39 ?_
     have h_:=oi' H;subst h_
     exact rm' [0,1,2,3]
    replace H:=g_iff h39 H
    refine y' (bno h39) (pa' b20 4) (fa' b20 0 4) ?_
    refine z' (bno h39) (ld' b20 4 3) ?_
    refine y' (bno h39) (.bool (decide (((rd a0.f2 x28_13).f2) = 0))) (V_eql rfl rfl) ?_
    refine y' (bno h39) (.bool (decide (((rd a0.f2 x28_13).f2) = 0))) mv' ?_
    by_cases h40 : ((rd a0.f2 x28_13).f2) = 0
    ·replace H:=g_ift h40 H
     refine y' (dec_t h40) (.bool q30) mv' ?_
     refine y' (dec_t h40) (.bool (!q30)) (V_not rfl) ?_
     refine yo' (bno h39) (OA_v rfl (V_pickT rfl (dec_t h40) rfl) ?_)
     refine pF' (bno h39) ?_
     have h_:=oi' H;subst h_
     exact rm' [0,1,2,3]
    replace H:=g_iff h40 H
    refine no' 2 (dec_f h40) ?_
    refine yo' (bno h39) (OA_v rfl (V_pickF rfl (dec_f h40) rfl) ?_)
    refine pF' (bno h39) ?_
    have h_:=oi' H;subst h_
    exact rm' [0,1,2,3]
   rintro e ds As hst41
   clear H
   have H:=Bq38
   clear Bq38
   refine na' ?_
   refine SA.of_St hst41 fun junk=>?_
   by_cases h42 : q38 = true
   ·replace H:=g_ift h42 H
    refine SA_condTb rfl h42 ?_
    refine qr' ?_
    refine s' (.bool false) as' ?_
    refine ntt' (inb_ret (thn_ret (thn_ret (inb_ret (thn_ret (thn_ret ?_))))))
    have h_:=oi' H;subst h_
    have hb_:=el_ret Bt11
    have hr_:=Option.some.inj hb_
    clear hb_
    subst hr_
    exact b1' [0] ⟨rfl,rfl⟩
   replace H:=g_iff h42 H
   refine SA_condFb rfl h42 ?_
   refine SA_skip (at_normal (SA_region ?_))
   refine l' (lA' b20 0 3 (c55' (S55.mk ((rd a0.f2 x28_13).f0) ((rd a0.f2 x28_13).f1) ((rd a0.f2 x28_13).f2) ((rd a0.f2 x28_13).f3)))) ?_
   refine o' (su' b14 0 2 (c55' (S55.mk ((rd a0.f2 x28_13).f0) ((rd a0.f2 x28_13).f1) ((rd a0.f2 x28_13).f2) ((rd a0.f2 x28_13).f3))) ?_)
   refine RA_nil (inb_normal (at_normal (SA_region ?_)))
   refine s' (il' (IntKind.i64.wrap (x28_13 + 1))) (V_add rfl rfl) ?_
   refine s' (il' (IntKind.i64.wrap (x28_13 + 1))) mv' ?_
   refine RA_nil ?_
   exact at_normal ⟨k15,Nat.lt_succ_self _,_,_,b14,H,sq' [0,1,2]⟩
  replace H:=g_iff h17 H
  refine SA_condF rfl h17 ?_
  refine SA_exit (thn_exit (thn_exit (inb_hit ?_)))
  have h_:=oi' H;subst h_
  exact at_normal ⟨x3_13,rfl,b14,sq' [2,0]⟩
 rintro e ds As ⟨s12,ht,b13,hst44⟩
 clear H
 subst ht
 replace Bt11:=el_go Bt11
 have H:=Bt11
 clear Bt11
 refine at_normal ?_
 refine SA.of_St hst44 fun junk=>?_
 refine qr' ?_
 refine s' (pa' b13 4) (fa' b13 0 4) ?_
 refine l' (ld' b13 4 0) ?_
 refine s' (.bool (decide (s12.f2 ≠ 2))) (V_neq rfl rfl) ?_
 refine s' (.bool (decide (s12.f2 ≠ 2))) as' ?_
 refine nt' ?_
 have h_:=oi' H;subst h_
 exact b1' [1] ⟨rfl,rfl⟩


def F114b0.l0 (l0 : (List S55)) (l1 : (List S55)) : Nat → Int → Option (Out (Bool) (Unit))
  | 0,_=>none
  | k + 1,x13_5=>if x13_5 < (l0.length : Int) then (if 0 ≤ x13_5∧x13_5 < (l0.length : Int) then (if 0 ≤ x13_5∧x13_5 < (l1.length : Int) then (if (rd l0 x13_5) ≠ (rd l1 x13_5) then (some (Out.ret (false))) else (F114b0.l0 l0 l1 k (IntKind.i64.wrap (x13_5 + 1)))) else none) else none) else (some (Out.go ()))
def F114b0.f (k : Nat) (l0 : (List S55)) (l1 : (List S55)) : Option (Bool):=if (l0.length : Int) ≠ (l1.length : Int) then (some (false)) else ((F114b0.l0 l0 l1 k 0 : Option (Out (Bool) (Unit))).bind (fun t4=>Out.el t4 (fun r_=>some r_) (fun s5=>some (true))))

def F59b0.f (k : Nat) (a0 : S26) (a1 : S26) : Option (Bool):=lt ((decide (a0.f0 = a1.f0)) && (decide (a0.f1 = a1.f1))) fun q8=>(if q8 = true then ((F114b0.f k a0.f2 a1.f2).bind (fun r13=>some r13)) else (some false) : Option Bool).bind (fun q11=>some (q11))

def F115b0.l0 (l0 : (List Int)) (g1 : Int → Option (Bool)) : Nat → Int → Option (Out (Int) (Unit))
  | 0,_=>none
  | k + 1,x8_4=>if x8_4 < (l0.length : Int) then (if 0 ≤ x8_4∧x8_4 < (l0.length : Int) then ((g1 (rd l0 x8_4)).bind (fun r10=>if r10 = true then (some (Out.ret (x8_4))) else (F115b0.l0 l0 g1 k (IntKind.i64.wrap (x8_4 + 1))))) else none) else (some (Out.go ()))
def F115b0.f (k : Nat) (l0 : (List Int)) (g1 : Int → Option (Bool)) : Option (Int):=(F115b0.l0 l0 g1 k 0 : Option (Out (Int) (Unit))).bind (fun t3=>Out.el t3 (fun r_=>some r_) (fun s4=>some ((-1))))

def F60b0.f (k : Nat) (l0 : (List Int)) (g1 : Int → Option (Bool)) : Option (Bool):=(F115b0.f k l0 g1).bind (fun r4=>some (decide (r4 ≥ 0)))

def F61.f (a0 : Int) : Option (Bool):=some (decide (a0 < 0))
theorem F61.ok {a0 : Int} {r : Bool} (H : F61.f a0 = some r) : SCA Tryz.prog 61 #[iw' a0] [] (fun v B=>v = .bool r∧B = []):=by
 refine SCA_of_body Tryz.func61 rfl rfl ?_
 unfold F61.f at H
 refine qr' ?_
 refine s' (.bool false) as' ?_
 refine nr' ?_
 refine s' (iw' a0) mv' ?_
 refine s' (.bool (decide (a0 < 0))) (V_lss rfl rfl) ?_
 refine s' (.bool (decide (a0 < 0))) as' ?_
 refine nt' ?_
 have h_:=oi' H;subst h_
 exact b1' [] ⟨rfl,rfl⟩


def F16b0.l1 (a0 : S34) : Nat → Int → Int → Option (Out (Bool) (Unit))
  | 0,_,_=>none
  | k + 1,x6_59,x97_59=>if x97_59 < (a0.f7.length : Int) then (if 0 ≤ x97_59∧x97_59 < (a0.f7.length : Int) then (lt (rd a0.f7 x97_59) fun n65=>lt ((decide (n65 ≤ x6_59)) || (decide (n65 ≥ a0.f0.f0))) fun q66=>if q66 = true then (some (Out.ret (false))) else (F16b0.l1 a0 k n65 (IntKind.i64.wrap (x97_59 + 1)))) else none) else (some (Out.go ()))
def F16b0.l0 (a0 : S34) : Nat → Int → Option (Out (Bool) (Unit))
  | 0,_=>none
  | k + 1,x56_35=>if x56_35 < 2 then (if 0 ≤ x56_35∧x56_35 < (2 : Int) then (lt ((decide (((rd ([(S31.mk a0.f1 a0.f2 a0.f3 false (S28.mk 0 0 false false false false false false false false)),a0.f14] : List S31) x56_35).f0) < 0)) || (decide (((rd ([(S31.mk a0.f1 a0.f2 a0.f3 false (S28.mk 0 0 false false false false false false false false)),a0.f14] : List S31) x56_35).f0) ≥ a0.f0.f1))) fun q43=>lt (q43 || (decide (((rd ([(S31.mk a0.f1 a0.f2 a0.f3 false (S28.mk 0 0 false false false false false false false false)),a0.f14] : List S31) x56_35).f1) < 0))) fun q46=>lt (q46 || (decide (((rd ([(S31.mk a0.f1 a0.f2 a0.f3 false (S28.mk 0 0 false false false false false false false false)),a0.f14] : List S31) x56_35).f1) ≥ a0.f0.f0))) fun q49=>(if q49 = true then (some true) else (if ((rd ([(S31.mk a0.f1 a0.f2 a0.f3 false (S28.mk 0 0 false false false false false false false false)),a0.f14] : List S31) x56_35).f2) = true then (some (decide (((rd ([(S31.mk a0.f1 a0.f2 a0.f3 false (S28.mk 0 0 false false false false false false false false)),a0.f14] : List S31) x56_35).f1) ≠ (IntKind.i64.wrap (a0.f0.f0 - 1))))) else (some false)) : Option Bool).bind (fun q52=>if q52 = true then (some (Out.ret (false))) else (F16b0.l0 a0 k (IntKind.i64.wrap (x56_35 + 1))))) else none) else (some (Out.go ()))
def F16b0.f (k : Nat) (a0 : S34) : Option (Bool):=(F57b0.f k a0.f0).bind (fun r13=>(if (!r13) = true then (some true) else ((F58.f a0.f4).bind (fun r16=>some (!r16))) : Option Bool).bind (fun q14=>(if q14 = true then (some true) else ((F58.f a0.f14.f4).bind (fun r21=>some (!r21))) : Option Bool).bind (fun q19=>lt (q19 || (decide (a0.f5 < 0))) fun q24=>lt (q24 || (decide (a0.f5 > a0.f6))) fun q27=>lt (q27 || (decide (a0.f6 ≥ a0.f0.f1))) fun q30=>if q30 = true then (some (false)) else ((F16b0.l0 a0 k 0 : Option (Out (Bool) (Unit))).bind (fun t34=>Out.el t34 (fun r_=>some r_) (fun s35=>(F16b0.l1 a0 k (-1) 0 : Option (Out (Bool) (Unit))).bind (fun t58=>Out.el t58 (fun r_=>some r_) (fun s59=>(if a0.f15 = true then ((F57b0.f k a0.f16).bind (fun r73=>if (!r73) = true then (some true) else (if a0.f16.f0 ≠ a0.f0.f0 then (some true) else (some (decide (a0.f16.f1 ≠ a0.f0.f1)))))) else (some false) : Option Bool).bind (fun q71=>(if q71 = true then (some true) else (if (!a0.f15) = true then ((F59b0.f k a0.f16 (S26.mk 0 0 ([] : (List S55)))).bind (fun r82=>some (!r82))) else (some false)) : Option Bool).bind (fun q78=>if q78 = true then (some (false)) else ((if (a0.f17.length : Int) ≤ 256 then ((F60b0.f k a0.f17 (fun (x0_ : Int)=>F61.f x0_)).bind (fun r88=>some (!r88))) else (some false) : Option Bool).bind (fun q86=>some (q86)))))))))))))

def F158.f (l0 : (List S55)) : Option ((List S55)):=if ([] : (List S55)).length + l0.length ≤ 2932031007402 then lt (([] : (List S55)) ++ l0) fun n9=>(some (n9)) else none
theorem F158.ok {l0 : (List S55)} {A0 : Option Addr} {c0 : Nat} {r : (List S55)} (H : F158.f l0 = some r) : SCA Tryz.prog 158 #[.slice A0 l0.length c0] [Ro k55 A0 c0 l0] (fun v B=>∃ A0_0_ c0_0_,v = .slice A0_0_ r.length c0_0_∧B = [Buf k55 55 A0_0_ c0_0_ r]):=by
 refine SCA_of_body Tryz.func158 rfl rfl ?_
 unfold F158.f at H
 refine qr' ?_
 refine s' (.slice none 0 0) as' ?_
 refine nq' ?_
 refine s' (.slice A0 l0.length c0) mv' ?_
 refine s' (.bool A0.isNone) (V_eqlNil Tryz.underlying24 rfl rfl) ?_
 refine na' ?_
 by_cases h2 : A0 = none
 ·subst h2
  refine SA_nilRo (k:=0) rfl fun e_=>?_
  subst e_
  replace H:=g_nil (x:=some (([] : (List S55)))) H (by simp [lt])
  refine SA_condTb rfl rfl ?_
  refine qr' ?_
  refine s' (.slice none 0 0) as' ?_
  refine ntt' ?_
  have h_:=oi' H;subst h_
  exact BQ_R1 [Buf k55 55 none 0 ([] : (List S55))] rfl rfl ((Gh.nilBuf k55 55).trans (gs' [1])) ⟨none,0,rfl,rfl⟩
 obtain⟨a_,rfl⟩:=Option.ne_none_iff_exists'.1 h2
 refine SA_condFb rfl (by first | decide | simp) ?_
 refine SA_skip (at_normal (qr' ?_))
 refine o' (OA_bs (kd:=k55) (zv:=(.agg (c55' z55').toArray)) (sz:=15) (cells:=[]) (xs:=([] : (List S55))) rfl Tryz.underlying24 zero55 sz55 rfl rfl rfl (by kernel_rfl) rfl rfl (RL_enc enc55 (fun _ _=>rfl) (by kernel_rfl)) fun b3=>?_)
 refine s' (.slice (some a_) l0.length c0) mv' ?_
 obtain⟨g6,H⟩:=g_pos H
 obtain⟨n9,hn9,H⟩:=g_lt H
 refine o' (OA_app (k:=1) (A:=some ⟨b3,0,none⟩) (c:=0) (xs:=([] : (List S55))) (ys:=l0) n9 hn9 rfl Tryz.underlying24 inf55 rfl rfl rfl rfl rfl (Yld.slice Tryz.underlying24 (Src.ro (k:=0) rfl)) (by omega) (by omega) fun A7 c8=>?_)
 refine s' (.slice A7 n9.length c8) as' ?_
 refine nt' ?_
 have h_:=oi' H;subst h_
 exact b1' [1] ⟨A7,c8,rfl,rfl⟩


def F137.f (a0 : S26) : Option (S26):=(F158.f a0.f2).bind (fun r6=>some ((S26.mk a0.f0 a0.f1 r6)))
theorem F137.ok {a0 : S26} {r : S26} (H : F137.f a0 = some r) : SCA Tryz.prog 137 #[.agg #[il' a0.f0,il' a0.f1,.slice A0_0 a0.f2.length c0_0]] [Ro k55 A0_0 c0_0 a0.f2] (fun v B=>∃ A0_0_ c0_0_,v = .agg #[il' r.f0,il' r.f1,.slice A0_0_ r.f2.length c0_0_]∧B = [Buf k55 55 A0_0_ c0_0_ r.f2]):=by
 refine SCA_of_body Tryz.func137 rfl rfl ?_
 unfold F137.f at H
 refine qr' ?_
 refine o' (bx' fun b2=>?_)
 refine o' (al' fun b4=>?_)
 refine nr' ?_
 refine s' (pa' b2 2) (fa' b2 0 2) ?_
 refine l' (ld' b2 2 1) ?_
 obtain⟨r6,C10,H⟩:=g_bind H
 refine o' (ca' [0] [0,1,2] (xf' [.slice A0_0 a0.f2.length c0_0]) (F158.ok (l0:=a0.f2) (A0:=A0_0) (c0:=c0_0) C10) ?_)
 rintro _ _⟨A7,c8,rfl,rfl⟩
 refine s' (pa' b2 2) (fa' b2 0 2) ?_
 refine o' (st' b2 2 2 [.slice A7 r6.length c8] [il' a0.f0,il' a0.f1,.slice A7 r6.length c8] ?_)
 refine nr' ?_
 refine l' (lA' b2 0 2 [il' a0.f0,il' a0.f1,.slice A7 r6.length c8]) ?_
 refine o' (su' b4 0 3 [il' a0.f0,il' a0.f1,.slice A7 r6.length c8] ?_)
 refine nt' ?_
 have h_:=oi' H;subst h_
 exact BQ_RL (rs:=[.cell 2 26]) (vs:=[.agg #[il' a0.f0,il' a0.f1,.slice A7 r6.length c8]]) [Buf k55 55 A7 c8 r6] rfl ⟨RV.cell (k:=3) rfl rfl Tryz.underlying26 rfl sz26,trivial⟩ rfl (gs' [0]) ⟨A7,c8,rfl,rfl⟩

end Go.Proofs.YtckilbegmbaeeaaGreat.Z5

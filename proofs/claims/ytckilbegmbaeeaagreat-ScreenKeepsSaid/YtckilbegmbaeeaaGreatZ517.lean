/- What functions compute, and that they do: 15, 18b0. -/
import Derived.Test.YtckilbegmbaeeaaGreatZ50
import Derived.Test.YtckilbegmbaeeaaGreatZ51
import Derived.Test.YtckilbegmbaeeaaGreatZ515
import Derived.Test.YtckilbegmbaeeaaGreatZ516
namespace Go.Proofs.YtckilbegmbaeeaaGreat.Z5
open Go Go.RowKit Go.Proofs.YtckilbegmbaeeaaGreat.SL
set_option linter.unusedVariables false
set_option maxHeartbeats 20000000
set_option maxRecDepth 100000
set_option linter.unusedSimpArgs false
attribute [local irreducible] IntKind.wrap minI maxI shrI shlI andI orI xorI andNotI cplI rd sub bytesOf strOf slA
variable {c0_0 c0_1 c0_2 c0_3 c1_0 k : Nat}
variable {A0_0 A0_1 A0_2 A0_3 A1_0 : Option Addr}
theorem F15.ok {a0 : S34} {r : Bool} (H : F15b0.f k a0 = some r) : SCA Tryz.prog 15 #[.agg (c34' a0 A0_0 c0_0 A0_1 c0_1 A0_2 c0_2 A0_3 c0_3).toArray] [Ro k55 A0_0 c0_0 a0.f0.f2,rl' A0_1 c0_1 a0.f7,Ro k55 A0_2 c0_2 a0.f16.f2,rw' A0_3 c0_3 a0.f17] (fun v B=>v = .bool r∧B = []):=by
 refine SCA_of_body Tryz.func15 rfl rfl ?_
 unfold F15b0.f at H
 refine qr' ?_
 refine o' (bx' fun b5=>?_)
 refine s' (.bool false) as' ?_
 refine nr' ?_
 refine s' (pt' b5) (fa' b5 0 0) ?_
 refine l' (lA' b5 0 4 [il' a0.f0.f0,il' a0.f0.f1,.slice A0_0 a0.f0.f2.length c0_0]) ?_
 refine o' (al' fun b7=>?_)
 refine o' (su' b7 0 5 [il' a0.f0.f0,il' a0.f0.f1,.slice A0_0 a0.f0.f2.length c0_0] ?_)
 refine nq' ?_
 refine l' (lA' b7 0 5 [il' a0.f0.f0,il' a0.f0.f1,.slice A0_0 a0.f0.f2.length c0_0]) ?_
 obtain⟨r9,C2120,H⟩:=g_bind H
 refine o' (ca' [0] [0,1,2,3,4,5] (xf' [.agg #[il' a0.f0.f0,il' a0.f0.f1,.slice A0_0 a0.f0.f2.length c0_0]]) (F54.ok (a0:=a0.f0) C2120) ?_)
 rintro _ _⟨rfl,rfl⟩
 refine s' (.bool (!r9)) (V_not rfl) ?_
 refine s' (.bool (!r9)) mv' ?_
 obtain⟨q10,H,Bq10⟩:=g_bind H
 refine cR' 10 [(1,pt' b5),(3,pt' b7),(21,.bool q10)] [Blk b5 34 (c34' a0 A0_0 c0_0 A0_1 c0_1 A0_2 c0_2 A0_3 c0_3),Ro k55 A0_0 c0_0 a0.f0.f2,rl' A0_1 c0_1 a0.f7,Ro k55 A0_2 c0_2 a0.f16.f2,rw' A0_3 c0_3 a0.f17,Blk b7 26 [il' a0.f0.f0,il' a0.f0.f1,.slice A0_0 a0.f0.f2.length c0_0]] ?_ fun junk=>?_
 ·by_cases h11 : (!r9) = true
  ·replace H:=g_ift h11 H
   refine no' 9 h11 ?_
   refine pT' h11 ?_
   have h_:=oi' H;subst h_
   exact rm' [4,0,1,2,3,5]
  replace H:=g_iff h11 H
  refine z' (bno h11) (lA' b7 0 5 [il' a0.f0.f0,il' a0.f0.f1,.slice A0_0 a0.f0.f2.length c0_0]) ?_
  refine y' (bno h11) (pa' b5 3) (fa' b5 0 3) ?_
  refine z' (bno h11) (ld' b5 3 4) ?_
  refine y' (bno h11) (pa' b5 4) (fa' b5 0 4) ?_
  refine z' (bno h11) (ld' b5 4 4) ?_
  refine y' (bno h11) (pa' b5 5) (fa' b5 0 5) ?_
  refine z' (bno h11) (ld' b5 5 4) ?_
  obtain⟨r12,C13,H⟩:=g_bind H
  refine yo' (bno h11) (ca' [0] [0,1,2,3,4,5] (xf' [.agg #[il' a0.f0.f0,il' a0.f0.f1,.slice A0_0 a0.f0.f2.length c0_0],il' a0.f1,il' a0.f2,.bool a0.f3]) (F55.ok (a0:=a0.f0) (a1:=a0.f1) (a2:=a0.f2) (a3:=a0.f3) C13) ?_)
  rintro _ _⟨rfl,rfl⟩
  refine y' (bno h11) (.bool (!r12)) (V_not rfl) ?_
  refine pF' (bno h11) ?_
  have h_:=oi' H;subst h_
  exact rm' [4,0,1,2,3,5]
 replace H:=Bq10
 refine s' (.bool q10) mv' ?_
 obtain⟨q15,H,Bq15⟩:=g_bind H
 refine cR' 13 [(1,pt' b5),(3,pt' b7),(35,.bool q15)] [Blk b5 34 (c34' a0 A0_0 c0_0 A0_1 c0_1 A0_2 c0_2 A0_3 c0_3),Ro k55 A0_0 c0_0 a0.f0.f2,rl' A0_1 c0_1 a0.f7,Ro k55 A0_2 c0_2 a0.f16.f2,rw' A0_3 c0_3 a0.f17,Blk b7 26 [il' a0.f0.f0,il' a0.f0.f1,.slice A0_0 a0.f0.f2.length c0_0]] ?_ fun junk=>?_
 ·by_cases h16 : q10 = true
  ·replace H:=g_ift h16 H
   refine no' 12 h16 ?_
   refine pT' h16 ?_
   have h_:=oi' H;subst h_
   exact rm' [0,1,2,3,4,5]
  replace H:=g_iff h16 H
  refine z' (bno h16) (lA' b7 0 5 [il' a0.f0.f0,il' a0.f0.f1,.slice A0_0 a0.f0.f2.length c0_0]) ?_
  refine y' (bno h16) (pa' b5 25) (fa' b5 0 25) ?_
  refine y' (bno h16) (pa' b5 25) (fa' b5 25 25) ?_
  refine z' (bno h16) (ld' b5 25 0) ?_
  refine y' (bno h16) (pa' b5 25) (fa' b5 0 25) ?_
  refine y' (bno h16) (pa' b5 26) (fa' b5 25 26) ?_
  refine z' (bno h16) (ld' b5 26 0) ?_
  refine y' (bno h16) (pa' b5 25) (fa' b5 0 25) ?_
  refine y' (bno h16) (pa' b5 27) (fa' b5 25 27) ?_
  refine z' (bno h16) (ld' b5 27 0) ?_
  obtain⟨r17,C18,H⟩:=g_bind H
  refine yo' (bno h16) (ca' [1] [0,1,2,3,4,5] (xf' [.agg #[il' a0.f0.f0,il' a0.f0.f1,.slice A0_0 a0.f0.f2.length c0_0],il' a0.f14.f0,il' a0.f14.f1,.bool a0.f14.f2]) (F55.ok (a0:=a0.f0) (a1:=a0.f14.f0) (a2:=a0.f14.f1) (a3:=a0.f14.f2) C18) ?_)
  rintro _ _⟨rfl,rfl⟩
  refine y' (bno h16) (.bool (!r17)) (V_not rfl) ?_
  refine pF' (bno h16) ?_
  have h_:=oi' H;subst h_
  exact rm' [0,1,2,3,4,5]
 replace H:=Bq15
 refine s' (.bool q15) mv' ?_
 obtain⟨q20,hq20,H⟩:=g_lt H
 refine cR' 4 [(1,pt' b5),(3,pt' b7),(40,.bool q20)] [Blk b5 34 (c34' a0 A0_0 c0_0 A0_1 c0_1 A0_2 c0_2 A0_3 c0_3),Ro k55 A0_0 c0_0 a0.f0.f2,rl' A0_1 c0_1 a0.f7,Ro k55 A0_2 c0_2 a0.f16.f2,rw' A0_3 c0_3 a0.f17,Blk b7 26 [il' a0.f0.f0,il' a0.f0.f1,.slice A0_0 a0.f0.f2.length c0_0]] ?_ fun junk=>?_
 ·by_cases h21 : q15 = true
  ·refine no' 3 h21 ?_
   refine pT' h21 ?_
   refine RA_nil ?_
   exact at_normal (St.mk1 (aeq rfl (aeq rfl (aeq (congrArg Value.bool (or_t hq20 (h21))) aeq0))) (gs' [0,1,2,3,4,5]))
  refine y' (bno h21) (pa' b5 16) (fa' b5 0 16) ?_
  refine z' (bno h21) (ld' b5 16 0) ?_
  refine y' (bno h21) (.bool (decide (a0.f5 < 0))) (V_lss rfl rfl) ?_
  refine pF' (bno h21) ?_
  refine RA_nil ?_
  exact at_normal (St.mk1 (aeq rfl (aeq rfl (aeq (congrArg Value.bool (or_f hq20 (bno h21))) aeq0))) (gs' [0,1,2,3,4,5]))
 refine s' (.bool q20) mv' ?_
 obtain⟨q23,hq23,H⟩:=g_lt H
 refine cR' 6 [(1,pt' b5),(3,pt' b7),(47,.bool q23)] [Blk b5 34 (c34' a0 A0_0 c0_0 A0_1 c0_1 A0_2 c0_2 A0_3 c0_3),Ro k55 A0_0 c0_0 a0.f0.f2,rl' A0_1 c0_1 a0.f7,Ro k55 A0_2 c0_2 a0.f16.f2,rw' A0_3 c0_3 a0.f17,Blk b7 26 [il' a0.f0.f0,il' a0.f0.f1,.slice A0_0 a0.f0.f2.length c0_0]] ?_ fun junk=>?_
 ·by_cases h24 : q20 = true
  ·refine no' 5 h24 ?_
   refine pT' h24 ?_
   refine RA_nil ?_
   exact at_normal (St.mk1 (aeq rfl (aeq rfl (aeq (congrArg Value.bool (or_t hq23 (h24))) aeq0))) (gs' [0,1,2,3,4,5]))
  refine y' (bno h24) (pa' b5 16) (fa' b5 0 16) ?_
  refine z' (bno h24) (ld' b5 16 0) ?_
  refine y' (bno h24) (pa' b5 17) (fa' b5 0 17) ?_
  refine z' (bno h24) (ld' b5 17 0) ?_
  refine y' (bno h24) (.bool (decide (a0.f5 > a0.f6))) (V_gtr rfl rfl) ?_
  refine pF' (bno h24) ?_
  refine RA_nil ?_
  exact at_normal (St.mk1 (aeq rfl (aeq rfl (aeq (congrArg Value.bool (or_f hq23 (bno h24))) aeq0))) (gs' [0,1,2,3,4,5]))
 refine s' (.bool q23) mv' ?_
 obtain⟨q26,hq26,H⟩:=g_lt H
 refine cR' 6 [(1,pt' b5),(3,pt' b7),(54,.bool q26)] [Blk b5 34 (c34' a0 A0_0 c0_0 A0_1 c0_1 A0_2 c0_2 A0_3 c0_3),Ro k55 A0_0 c0_0 a0.f0.f2,rl' A0_1 c0_1 a0.f7,Ro k55 A0_2 c0_2 a0.f16.f2,rw' A0_3 c0_3 a0.f17,Blk b7 26 [il' a0.f0.f0,il' a0.f0.f1,.slice A0_0 a0.f0.f2.length c0_0]] ?_ fun junk=>?_
 ·by_cases h27 : q23 = true
  ·refine no' 5 h27 ?_
   refine pT' h27 ?_
   refine RA_nil ?_
   exact at_normal (St.mk1 (aeq rfl (aeq rfl (aeq (congrArg Value.bool (or_t hq26 (h27))) aeq0))) (gs' [0,1,2,3,4,5]))
  refine y' (bno h27) (pa' b5 17) (fa' b5 0 17) ?_
  refine z' (bno h27) (ld' b5 17 0) ?_
  refine y' (bno h27) (pa' b7 1) (fa' b7 0 1) ?_
  refine z' (bno h27) (ld' b7 1 5) ?_
  refine y' (bno h27) (.bool (decide (a0.f6 ≥ a0.f0.f1))) (V_geq rfl rfl) ?_
  refine pF' (bno h27) ?_
  refine RA_nil ?_
  exact at_normal (St.mk1 (aeq rfl (aeq rfl (aeq (congrArg Value.bool (or_f hq26 (bno h27))) aeq0))) (gs' [0,1,2,3,4,5]))
 refine s' (.bool q26) mv' ?_
 obtain⟨q29,H,Bq29⟩:=g_bind H
 refine cR' 5 [(1,pt' b5),(3,pt' b7),(60,.bool q29)] [Blk b5 34 (c34' a0 A0_0 c0_0 A0_1 c0_1 A0_2 c0_2 A0_3 c0_3),Ro k55 A0_0 c0_0 a0.f0.f2,rl' A0_1 c0_1 a0.f7,Ro k55 A0_2 c0_2 a0.f16.f2,rw' A0_3 c0_3 a0.f17,Blk b7 26 [il' a0.f0.f0,il' a0.f0.f1,.slice A0_0 a0.f0.f2.length c0_0]] ?_ fun junk=>?_
 ·by_cases h30 : q26 = true
  ·replace H:=g_ift h30 H
   refine no' 4 h30 ?_
   refine pT' h30 ?_
   have h_:=oi' H;subst h_
   exact rm' [0,1,2,3,4,5]
  replace H:=g_iff h30 H
  refine y' (bno h30) (pa' b5 6) (fa' b5 0 6) ?_
  refine z' (bno h30) (lA' b5 6 0 (c28' a0.f4)) ?_
  obtain⟨r31,C32,H⟩:=g_bind H
  refine yo' (bno h30) (ca' [] [0,1,2,3,4,5] (xf' [.agg (c28' a0.f4).toArray]) (F56.ok (a0:=a0.f4) C32) ?_)
  rintro _ _⟨rfl,rfl⟩
  refine y' (bno h30) (.bool (!r31)) (V_not rfl) ?_
  refine pF' (bno h30) ?_
  have h_:=oi' H;subst h_
  exact rm' [0,1,2,3,4,5]
 replace H:=Bq29
 refine s' (.bool q29) mv' ?_
 obtain⟨q34,H,Bq34⟩:=g_bind H
 refine RA_cut 6 (fun e ds As=>St [(1,pt' b5),(3,pt' b7),(67,.bool q34)] [Blk b5 34 (c34' a0 A0_0 c0_0 A0_1 c0_1 A0_2 c0_2 A0_3 c0_3),Ro k55 A0_0 c0_0 a0.f0.f2,rl' A0_1 c0_1 a0.f7,Ro k55 A0_2 c0_2 a0.f16.f2,rw' A0_3 c0_3 a0.f17,Blk b7 26 [il' a0.f0.f0,il' a0.f0.f1,.slice A0_0 a0.f0.f2.length c0_0]] e ds As) ?_ ?_
 ·by_cases h35 : q29 = true
  ·replace H:=g_ift h35 H
   refine no' 5 h35 ?_
   refine pT' h35 ?_
   have h_:=oi' H;subst h_
   exact rm' [0,1,2,3,4,5]
  replace H:=g_iff h35 H
  refine y' (bno h35) (pa' b5 25) (fa' b5 0 25) ?_
  refine y' (bno h35) (pa' b5 29) (fa' b5 25 29) ?_
  refine z' (bno h35) (lA' b5 29 0 (c28' a0.f14.f4)) ?_
  obtain⟨r36,C37,H⟩:=g_bind H
  refine yo' (bno h35) (ca' [] [0,1,2,3,4,5] (xf' [.agg (c28' a0.f14.f4).toArray]) (F56.ok (a0:=a0.f14.f4) C37) ?_)
  rintro _ _⟨rfl,rfl⟩
  refine y' (bno h35) (.bool (!r36)) (V_not rfl) ?_
  refine pF' (bno h35) ?_
  have h_:=oi' H;subst h_
  exact rm' [0,1,2,3,4,5]
 rintro e ds As hst38
 clear H
 have H:=Bq34
 clear Bq34
 refine na' ?_
 refine SA.of_St hst38 fun junk=>?_
 by_cases h39 : q34 = true
 ·replace H:=g_ift h39 H
  refine SA_condTb rfl h39 ?_
  refine qr' ?_
  refine s' (.bool false) as' ?_
  refine ntt' ?_
  have h_:=oi' H;subst h_
  exact b1' [] ⟨rfl,rfl⟩
 replace H:=g_iff h39 H
 refine SA_condFb rfl h39 ?_
 refine SA_skip (at_normal (SA_seq (qr' ?_)))
 refine s' (il' 0) as' ?_
 refine na' ?_
 obtain⟨t40,H,Bt40⟩:=g_bind H
 refine SA_mid (fun e ds As=>∃ (s41 : Unit),t40 = Out.go s41∧St [(1,pt' b5),(3,pt' b7)] [Blk b5 34 (c34' a0 A0_0 c0_0 A0_1 c0_1 A0_2 c0_2 A0_3 c0_3),Ro k55 A0_0 c0_0 a0.f0.f2,rl' A0_1 c0_1 a0.f7,Ro k55 A0_2 c0_2 a0.f16.f2,rw' A0_3 c0_3 a0.f17,Blk b7 26 [il' a0.f0.f0,il' a0.f0.f1,.slice A0_0 a0.f0.f2.length c0_0]] e ds As) ?_ ?_
 ·refine SA_block ?_
  refine SA_loop (fun k_ e ds As=>∃ (x4_41 : Int),F15b0.l0 a0 k_ x4_41 = some t40∧St [(1,pt' b5),(3,pt' b7),(4,il' x4_41)] [Blk b5 34 (c34' a0 A0_0 c0_0 A0_1 c0_1 A0_2 c0_2 A0_3 c0_3),Ro k55 A0_0 c0_0 a0.f0.f2,rl' A0_1 c0_1 a0.f7,Ro k55 A0_2 c0_2 a0.f16.f2,rw' A0_3 c0_3 a0.f17,Blk b7 26 [il' a0.f0.f0,il' a0.f0.f1,.slice A0_0 a0.f0.f2.length c0_0]] e ds As) (k:=k) ⟨_,H,sq' [0,1,2,3,4,5]⟩ ?_
  clear H
  rintro k42 e ds As ⟨x4_41,H,hst43⟩
  obtain _ | k42:=k42
  ·cases H
  rw [F15b0.l0] at H
  refine SA.of_St hst43 fun junk=>?_
  refine SA_seq (qr' ?_)
  refine s' (il' x4_41) mv' ?_
  refine s' (pa' b5 18) (fa' b5 0 18) ?_
  refine l' (ld' b5 18 0) ?_
  refine s' (il' (a0.f7.length : Int)) (V_len Tryz.underlying29 rfl) ?_
  refine s' (.bool (decide (x4_41 < (a0.f7.length : Int)))) (V_lss rfl rfl) ?_
  refine na' ?_
  by_cases h44 : x4_41 < (a0.f7.length : Int)
  ·replace H:=g_ift h44 H
   refine SA_condT rfl h44 ?_
   refine SA_skip (at_normal (SA_seq (SA_block (SA_seq ?_))))
   obtain⟨t45,H,Bt45⟩:=g_bind H
   refine SA_mid (fun e ds As=>St [(1,pt' b5),(3,pt' b7),(4,il' x4_41),(108,.bool t45)] [Blk b5 34 (c34' a0 A0_0 c0_0 A0_1 c0_1 A0_2 c0_2 A0_3 c0_3),Ro k55 A0_0 c0_0 a0.f0.f2,rl' A0_1 c0_1 a0.f7,Ro k55 A0_2 c0_2 a0.f16.f2,rw' A0_3 c0_3 a0.f17,Blk b7 26 [il' a0.f0.f0,il' a0.f0.f1,.slice A0_0 a0.f0.f2.length c0_0]] e ds As) ?_ ?_
   ·refine SA_drawHq (rg' 0 34) (List.toArray ([]::[0]::[]::[0,1,2]::(rg' 0 4)::(rg' 0 5)::(rg' 0 6)::(rg' 0 7)::(rg' 0 8)::(rg' 0 7)::(rg' 0 10)::(rg' 0 11)::(rg' 0 7)::[0,1,2,3,4,5,6,12]::(rg' 0 14)::(rg' 0 15)::(rg' 0 16)::(rg' 0 17)::(rg' 0 18)::(rg' 0 19)::(rg' 0 20)::(rg' 0 21)::(rg' 0 20)::(rg' 0 23)::(rg' 0 24)::(rg' 0 20)::(0::1::2::3::4::5::6::7::8::9::10::11::12::13::14::15::16::17::18::19::25::[])::(rg' 0 20)::(0::1::2::3::4::5::6::7::8::9::10::11::12::13::14::15::16::17::18::19::27::[])::(0::1::2::3::4::5::6::7::8::9::10::11::12::13::14::15::16::17::18::19::25::26::27::28::[])::(0::1::2::3::4::5::6::7::8::9::10::11::12::13::14::15::16::17::18::19::25::26::27::28::29::[])::(rg' 0 31)::(rg' 0 32)::(rg' 0 33)::[])) (rg' 0 6) (rg' 1 4) mixed rfl rfl rfl (PanOk.thn (PanOk.thn (PanOk.inb (PanOk.thn (PanOk.thn (PanOk.inb (PanOk.thn (PanOk.thn PanOk.body)))))))) fun I0 hS h0 hh0 w0 sH dd pk=>?_
    refine t' (pa' b5 18) 0 rfl sH (fa' b5 0 18) ?_
    refine r' 1 rfl sH (ld' b5 18 0) ?_
    refine t' (il' x4_41) 2 rfl sH mv' ?_
    obtain⟨⟨g226,g227⟩,H⟩:=g_pos H
    refine r' 3 rfl sH (VR_index (i:=x4_41) Tryz.underlying29 sz3 rfl rfl (Src.ro (k:=2) rfl) g226 g227) ?_
    refine r' 4 rfl sH (VR_load_el (enc:=(fun x_ : Int=>[Value.int .i64 x_])) (i:=x4_41) (j:=x4_41.toNat * 1) (m:=0) (sz:=1) Tryz.underlying3 rfl rfl rfl rfl (Src.ro (k:=2) rfl) g226 g227 (fun _ _ h=>h) rfl) ?_
    refine t' (.bool (decide ((rd a0.f7 x4_41) < 0))) 5 rfl sH (V_lss rfl rfl) ?_
    refine t' (.bool (decide ((rd a0.f7 x4_41) < 0))) 6 rfl sH mv' ?_
    by_cases h2087 : (rd a0.f7 x4_41) < 0
    ·replace H:=g_ift h2087 H
     refine dn' 7 rfl (dec_t h2087) ?_
     refine dn' 8 rfl (dec_t h2087) ?_
     refine dn' 9 rfl (dec_t h2087) ?_
     refine dn' 10 rfl (dec_t h2087) ?_
     refine dn' 11 rfl (dec_t h2087) ?_
     refine dn' 12 rfl (dec_t h2087) ?_
     refine dn' 13 rfl (dec_t h2087) ?_
     refine dn' 14 rfl (dec_t h2087) ?_
     refine r' 15 rfl sH (VR.ofV (V_pickT rfl (dec_t h2087) rfl)) ?_
     refine t' (.bool true) 16 rfl sH mv' ?_
     refine dn' 17 rfl rfl ?_
     refine dn' 18 rfl rfl ?_
     refine dn' 19 rfl rfl ?_
     refine du' 20 rfl ?_
     refine du' 21 rfl ?_
     refine du' 22 rfl ?_
     refine du' 23 rfl ?_
     refine du' 24 rfl ?_
     refine du' 25 rfl ?_
     refine du' 26 rfl ?_
     refine du' 27 rfl ?_
     refine du' 28 rfl ?_
     refine du' 29 rfl ?_
     refine du' 30 rfl ?_
     refine du' 31 rfl ?_
     refine dn' 32 rfl rfl ?_
     refine r' 33 rfl sH (VR.ofV (V_pickT rfl (rfl) rfl)) ?_
     refine DH_open dd sH ?_
     refine DN_done (by kernel_rfl) ?_
     have h_:=oi' H;subst h_
     exact sm' [0,1,2,3,4,5]
    replace H:=g_iff h2087 H
    refine ty' (pa' b5 18) 7 rfl (dec_f h2087) sH (fa' b5 0 18) ?_
    refine ry' 8 rfl (dec_f h2087) sH (ld' b5 18 0) ?_
    refine ty' (il' x4_41) 9 rfl (dec_f h2087) sH mv' ?_
    obtain⟨⟨g646,g647⟩,H⟩:=g_pos H
    refine ry' 10 rfl (dec_f h2087) sH (VR_index (i:=x4_41) Tryz.underlying29 sz3 rfl rfl (Src.ro (k:=2) rfl) g646 g647) ?_
    refine ry' 11 rfl (dec_f h2087) sH (VR_load_el (enc:=(fun x_ : Int=>[Value.int .i64 x_])) (i:=x4_41) (j:=x4_41.toNat * 1) (m:=0) (sz:=1) Tryz.underlying3 rfl rfl rfl rfl (Src.ro (k:=2) rfl) g646 g647 (fun _ _ h=>h) rfl) ?_
    refine ty' (pt' b7) 12 rfl (dec_f h2087) sH (fa' b7 0 0) ?_
    refine ry' 13 rfl (dec_f h2087) sH (ld' b7 0 5) ?_
    refine ty' (.bool (decide ((rd a0.f7 x4_41) ≥ a0.f0.f0))) 14 rfl (dec_f h2087) sH (V_geq rfl rfl) ?_
    refine r' 15 rfl sH (VR.ofV (V_pickF rfl (dec_f h2087) rfl)) ?_
    refine t' (.bool (decide ((rd a0.f7 x4_41) ≥ a0.f0.f0))) 16 rfl sH mv' ?_
    by_cases h2088 : (rd a0.f7 x4_41) ≥ a0.f0.f0
    ·replace H:=g_ift h2088 H
     refine dn' 17 rfl (dec_t h2088) ?_
     refine dn' 18 rfl (dec_t h2088) ?_
     refine dn' 19 rfl (dec_t h2088) ?_
     refine du' 20 rfl ?_
     refine du' 21 rfl ?_
     refine du' 22 rfl ?_
     refine du' 23 rfl ?_
     refine du' 24 rfl ?_
     refine du' 25 rfl ?_
     refine du' 26 rfl ?_
     refine du' 27 rfl ?_
     refine du' 28 rfl ?_
     refine du' 29 rfl ?_
     refine du' 30 rfl ?_
     refine du' 31 rfl ?_
     refine dn' 32 rfl (dec_t h2088) ?_
     refine r' 33 rfl sH (VR.ofV (V_pickT rfl (dec_t h2088) rfl)) ?_
     refine DH_open dd sH ?_
     refine DN_done (by kernel_rfl) ?_
     have h_:=oi' H;subst h_
     exact sm' [0,1,2,3,4,5]
    replace H:=g_iff h2088 H
    refine ty' (il' x4_41) 17 rfl (dec_f h2088) sH mv' ?_
    refine ty' (.bool (decide (x4_41 > 0))) 18 rfl (dec_f h2088) sH (V_gtr rfl rfl) ?_
    refine ty' (.bool (decide (x4_41 > 0))) 19 rfl (dec_f h2088) sH mv' ?_
    by_cases h2089 : x4_41 > 0
    ·replace H:=g_ift h2089 H
     refine ty' (pa' b5 18) 20 rfl (dec_t h2089) sH (fa' b5 0 18) ?_
     refine ry' 21 rfl (dec_t h2089) sH (ld' b5 18 0) ?_
     refine ty' (il' x4_41) 22 rfl (dec_t h2089) sH mv' ?_
     obtain⟨⟨g1426,g1427⟩,H⟩:=g_pos H
     refine ry' 23 rfl (dec_t h2089) sH (VR_index (i:=x4_41) Tryz.underlying29 sz3 rfl rfl (Src.ro (k:=2) rfl) g1426 g1427) ?_
     refine ry' 24 rfl (dec_t h2089) sH (VR_load_el (enc:=(fun x_ : Int=>[Value.int .i64 x_])) (i:=x4_41) (j:=x4_41.toNat * 1) (m:=0) (sz:=1) Tryz.underlying3 rfl rfl rfl rfl (Src.ro (k:=2) rfl) g1426 g1427 (fun _ _ h=>h) rfl) ?_
     refine ty' (pa' b5 18) 25 rfl (dec_t h2089) sH (fa' b5 0 18) ?_
     refine ry' 26 rfl (dec_t h2089) sH (ld' b5 18 0) ?_
     refine ty' (il' x4_41) 27 rfl (dec_t h2089) sH mv' ?_
     refine ty' (il' (IntKind.i64.wrap (x4_41 - 1))) 28 rfl (dec_t h2089) sH (V_sub rfl rfl) ?_
     obtain⟨⟨g1786,g1787⟩,H⟩:=g_pos H
     refine ry' 29 rfl (dec_t h2089) sH (VR_index (i:=IntKind.i64.wrap (x4_41 - 1)) Tryz.underlying29 sz3 rfl rfl (Src.ro (k:=2) rfl) g1786 g1787) ?_
     refine ry' 30 rfl (dec_t h2089) sH (VR_load_el (enc:=(fun x_ : Int=>[Value.int .i64 x_])) (i:=IntKind.i64.wrap (x4_41 - 1)) (j:=(IntKind.i64.wrap (x4_41 - 1)).toNat * 1) (m:=0) (sz:=1) Tryz.underlying3 rfl rfl rfl rfl (Src.ro (k:=2) rfl) g1786 g1787 (fun _ _ h=>h) rfl) ?_
     refine ty' (.bool (decide ((rd a0.f7 x4_41) ≤ (rd a0.f7 (IntKind.i64.wrap (x4_41 - 1)))))) 31 rfl (dec_t h2089) sH (V_leq rfl rfl) ?_
     refine ry' 32 rfl (dec_f h2088) sH (VR.ofV (V_pickT rfl (dec_t h2089) rfl)) ?_
     refine r' 33 rfl sH (VR.ofV (V_pickF rfl (dec_f h2088) rfl)) ?_
     refine DH_open dd sH ?_
     refine DN_done (by kernel_rfl) ?_
     have h_:=oi' H;subst h_
     exact sm' [0,1,2,3,4,5]
    replace H:=g_iff h2089 H
    refine dn' 20 rfl (dec_f h2089) ?_
    refine dn' 21 rfl (dec_f h2089) ?_
    refine dn' 22 rfl (dec_f h2089) ?_
    refine dn' 23 rfl (dec_f h2089) ?_
    refine dn' 24 rfl (dec_f h2089) ?_
    refine dn' 25 rfl (dec_f h2089) ?_
    refine dn' 26 rfl (dec_f h2089) ?_
    refine dn' 27 rfl (dec_f h2089) ?_
    refine dn' 28 rfl (dec_f h2089) ?_
    refine dn' 29 rfl (dec_f h2089) ?_
    refine dn' 30 rfl (dec_f h2089) ?_
    refine dn' 31 rfl (dec_f h2089) ?_
    refine ry' 32 rfl (dec_f h2088) sH (VR.ofV (V_pickF rfl (dec_f h2089) rfl)) ?_
    refine r' 33 rfl sH (VR.ofV (V_pickF rfl (dec_f h2088) rfl)) ?_
    refine DH_open dd sH ?_
    refine DN_done (by kernel_rfl) ?_
    have h_:=oi' H;subst h_
    exact sm' [0,1,2,3,4,5]
   rintro e ds As hst2090
   clear H
   have H:=Bt45
   clear Bt45
   refine at_normal ?_
   refine SA.of_St hst2090 fun junk=>?_
   by_cases h2091 : t45 = true
   ·replace H:=g_ift h2091 H
    refine SA_condTb rfl h2091 ?_
    refine qr' ?_
    refine s' (.bool false) as' ?_
    refine nt' (inb_ret (thn_ret (thn_ret (inb_ret (thn_ret (thn_ret ?_))))))
    have h_:=oi' H;subst h_
    have hb_:=el_ret Bt40
    have hr_:=Option.some.inj hb_
    clear hb_
    subst hr_
    exact b1' [] ⟨rfl,rfl⟩
   replace H:=g_iff h2091 H
   refine SA_condFb rfl h2091 ?_
   refine SA_skip (inb_normal (at_normal (SA_region ?_)))
   refine s' (il' x4_41) mv' ?_
   refine s' (il' (IntKind.i64.wrap (x4_41 + 1))) (V_add rfl rfl) ?_
   obtain⟨n2092,hn2092,H⟩:=g_lt H
   refine s' (il' n2092) (V_assign (v:=il' n2092) (congrArg (Value.int .i64) hn2092.symm)) ?_
   refine RA_nil ?_
   exact at_normal ⟨k42,Nat.lt_succ_self _,_,H,sq' [0,1,2,3,4,5]⟩
  replace H:=g_iff h44 H
  refine SA_condF rfl h44 ?_
  refine SA_exit (thn_exit (thn_exit (inb_hit ?_)))
  have h_:=oi' H;subst h_
  exact at_normal ⟨(),rfl,sq' [0,1,2,3,4,5]⟩
 rintro e ds As ⟨s41,ht,hst2093⟩
 clear H
 subst ht
 replace Bt40:=el_go Bt40
 have H:=Bt40
 clear Bt40
 refine at_normal ?_
 refine SA.of_St hst2093 fun junk=>?_
 refine SA_seq (qr' ?_)
 refine s' (pa' b5 43) (fa' b5 0 43) ?_
 refine l' (ld' b5 43 0) ?_
 refine s' (il' (a0.f17.length : Int)) (V_len Tryz.underlying32 rfl) ?_
 refine s' (.bool (decide ((a0.f17.length : Int) > 256))) (V_gtr rfl rfl) ?_
 refine na' ?_
 by_cases h2094 : (a0.f17.length : Int) > 256
 ·replace H:=g_ift h2094 H
  refine SA_condT rfl h2094 ?_
  refine qr' ?_
  refine s' (.bool false) as' ?_
  refine ntt' ?_
  have h_:=oi' H;subst h_
  exact b1' [] ⟨rfl,rfl⟩
 replace H:=g_iff h2094 H
 refine SA_condF rfl h2094 ?_
 refine SA_skip (at_normal (SA_seq (qr' ?_)))
 refine s' (il' 0) as' ?_
 refine na' ?_
 obtain⟨t2095,H,Bt2095⟩:=g_bind H
 refine SA_mid (fun e ds As=>∃ (s2096 : Unit),t2095 = Out.go s2096∧St [(1,pt' b5),(3,pt' b7)] [Blk b5 34 (c34' a0 A0_0 c0_0 A0_1 c0_1 A0_2 c0_2 A0_3 c0_3),Ro k55 A0_0 c0_0 a0.f0.f2,rl' A0_1 c0_1 a0.f7,Ro k55 A0_2 c0_2 a0.f16.f2,rw' A0_3 c0_3 a0.f17,Blk b7 26 [il' a0.f0.f0,il' a0.f0.f1,.slice A0_0 a0.f0.f2.length c0_0]] e ds As) ?_ ?_
 ·refine SA_block ?_
  refine SA_loop (fun k_ e ds As=>∃ (x5_2096 : Int),F15b0.l1 a0 k_ x5_2096 = some t2095∧St [(1,pt' b5),(3,pt' b7),(5,il' x5_2096)] [Blk b5 34 (c34' a0 A0_0 c0_0 A0_1 c0_1 A0_2 c0_2 A0_3 c0_3),Ro k55 A0_0 c0_0 a0.f0.f2,rl' A0_1 c0_1 a0.f7,Ro k55 A0_2 c0_2 a0.f16.f2,rw' A0_3 c0_3 a0.f17,Blk b7 26 [il' a0.f0.f0,il' a0.f0.f1,.slice A0_0 a0.f0.f2.length c0_0]] e ds As) (k:=k) ⟨_,H,sq' [0,1,2,3,4,5]⟩ ?_
  clear H
  rintro k2097 e ds As ⟨x5_2096,H,hst2098⟩
  obtain _ | k2097:=k2097
  ·cases H
  rw [F15b0.l1] at H
  refine SA.of_St hst2098 fun junk=>?_
  refine SA_seq (qr' ?_)
  refine s' (il' x5_2096) mv' ?_
  refine s' (pa' b5 43) (fa' b5 0 43) ?_
  refine l' (ld' b5 43 0) ?_
  refine s' (il' (a0.f17.length : Int)) (V_len Tryz.underlying32 rfl) ?_
  refine s' (.bool (decide (x5_2096 < (a0.f17.length : Int)))) (V_lss rfl rfl) ?_
  refine na' ?_
  by_cases h2099 : x5_2096 < (a0.f17.length : Int)
  ·replace H:=g_ift h2099 H
   refine SA_condT rfl h2099 ?_
   refine SA_skip (at_normal (SA_seq (SA_block (qr' ?_))))
   refine s' (pa' b5 43) (fa' b5 0 43) ?_
   refine l' (ld' b5 43 0) ?_
   refine s' (il' x5_2096) mv' ?_
   obtain⟨⟨g2100,g2101⟩,H⟩:=g_pos H
   refine l' (VR_index (i:=x5_2096) Tryz.underlying32 sz21 rfl rfl (Src.ro (k:=4) rfl) g2100 g2101) ?_
   refine l' (VR_load_el (enc:=(fun x_ : Int=>[Value.int .i32 x_])) (i:=x5_2096) (j:=x5_2096.toNat * 1) (m:=0) (sz:=1) Tryz.underlying21 rfl rfl rfl rfl (Src.ro (k:=4) rfl) g2100 g2101 (fun _ _ h=>h) rfl) ?_
   refine s' (.bool (decide ((rd a0.f17 x5_2096) < 0))) (V_lss rfl rfl) ?_
   refine na' ?_
   by_cases h2102 : (rd a0.f17 x5_2096) < 0
   ·replace H:=g_ift h2102 H
    refine SA_condT rfl h2102 ?_
    refine qr' ?_
    refine s' (.bool false) as' ?_
    refine nt' (inb_ret (thn_ret (thn_ret (inb_ret (thn_ret (thn_ret ?_))))))
    have h_:=oi' H;subst h_
    have hb_:=el_ret Bt2095
    have hr_:=Option.some.inj hb_
    clear hb_
    subst hr_
    exact b1' [] ⟨rfl,rfl⟩
   replace H:=g_iff h2102 H
   refine SA_condF rfl h2102 ?_
   refine SA_skip (inb_normal (at_normal (SA_region ?_)))
   refine s' (il' x5_2096) mv' ?_
   refine s' (il' (IntKind.i64.wrap (x5_2096 + 1))) (V_add rfl rfl) ?_
   obtain⟨n2103,hn2103,H⟩:=g_lt H
   refine s' (il' n2103) (V_assign (v:=il' n2103) (congrArg (Value.int .i64) hn2103.symm)) ?_
   refine RA_nil ?_
   exact at_normal ⟨k2097,Nat.lt_succ_self _,_,H,sq' [0,1,2,3,4,5]⟩
  replace H:=g_iff h2099 H
  refine SA_condF rfl h2099 ?_
  refine SA_exit (thn_exit (thn_exit (inb_hit ?_)))
  have h_:=oi' H;subst h_
  exact at_normal ⟨(),rfl,sq' [0,1,2,3,4,5]⟩
 rintro e ds As ⟨s2096,ht,hst2104⟩
 clear H
 subst ht
 replace Bt2095:=el_go Bt2095
 have H:=Bt2095
 clear Bt2095
 refine at_normal ?_
 refine SA.of_St hst2104 fun junk=>?_
 refine SA_seq (qr' ?_)
 refine s' (pa' b5 39) (fa' b5 0 39) ?_
 refine l' (ld' b5 39 0) ?_
 refine na' ?_
 by_cases h2105 : a0.f15 = true
 ·replace H:=g_ift h2105 H
  refine SA_condTb rfl h2105 ?_
  refine qr' ?_
  refine s' (pa' b5 40) (fa' b5 0 40) ?_
  refine l' (lA' b5 40 0 [il' a0.f16.f0,il' a0.f16.f1,.slice A0_2 a0.f16.f2.length c0_2]) ?_
  obtain⟨r2106,C2113,H⟩:=g_bind H
  refine o' (ca' [3] [0,1,2,3,4,5] (xf' [.agg #[il' a0.f16.f0,il' a0.f16.f1,.slice A0_2 a0.f16.f2.length c0_2]]) (F54.ok (a0:=a0.f16) C2113) ?_)
  rintro _ _⟨rfl,rfl⟩
  refine s' (.bool r2106) mv' ?_
  obtain⟨q2107,hq2107,H⟩:=g_lt H
  refine cR' 7 [(1,pt' b5),(3,pt' b7),(138,.bool q2107)] [Blk b5 34 (c34' a0 A0_0 c0_0 A0_1 c0_1 A0_2 c0_2 A0_3 c0_3),Ro k55 A0_0 c0_0 a0.f0.f2,rl' A0_1 c0_1 a0.f7,Ro k55 A0_2 c0_2 a0.f16.f2,rw' A0_3 c0_3 a0.f17,Blk b7 26 [il' a0.f0.f0,il' a0.f0.f1,.slice A0_0 a0.f0.f2.length c0_0]] ?_ fun junk=>?_
  ·by_cases h2108 : r2106 = true
   ·refine y' h2108 (pa' b5 40) (fa' b5 0 40) ?_
    refine y' h2108 (pa' b5 40) (fa' b5 40 40) ?_
    refine z' h2108 (ld' b5 40 0) ?_
    refine y' h2108 (pt' b7) (fa' b7 0 0) ?_
    refine z' h2108 (ld' b7 0 5) ?_
    refine y' h2108 (.bool (decide (a0.f16.f0 = a0.f0.f0))) (V_eql rfl rfl) ?_
    refine pT' h2108 ?_
    refine RA_nil ?_
    exact at_normal (St.mk1 (aeq rfl (aeq rfl (aeq (congrArg Value.bool (and_t hq2107 (h2108))) aeq0))) (gs' [0,1,2,3,4,5]))
   refine no' 6 (bno h2108) ?_
   refine pF' (bno h2108) ?_
   refine RA_nil ?_
   exact at_normal (St.mk1 (aeq rfl (aeq rfl (aeq (congrArg Value.bool (and_f hq2107 (bno h2108))) aeq0))) (gs' [0,1,2,3,4,5]))
  refine s' (.bool q2107) mv' ?_
  obtain⟨q2110,hq2110,H⟩:=g_lt H
  refine cR' 7 [(146,.bool q2110)] [] ?_ fun junk=>?_
  ·by_cases h2111 : q2107 = true
   ·refine y' h2111 (pa' b5 40) (fa' b5 0 40) ?_
    refine y' h2111 (pa' b5 41) (fa' b5 40 41) ?_
    refine z' h2111 (ld' b5 41 0) ?_
    refine y' h2111 (pa' b7 1) (fa' b7 0 1) ?_
    refine z' h2111 (ld' b7 1 5) ?_
    refine y' h2111 (.bool (decide (a0.f16.f1 = a0.f0.f1))) (V_eql rfl rfl) ?_
    refine pT' h2111 ?_
    refine RA_nil ?_
    exact at_normal (St.mk1 (aeq (congrArg Value.bool (and_t hq2110 (h2111))) aeq0) (gs' []))
   refine no' 6 (bno h2111) ?_
   refine pF' (bno h2111) ?_
   refine RA_nil ?_
   exact at_normal (St.mk1 (aeq (congrArg Value.bool (and_f hq2110 (bno h2111))) aeq0) (gs' []))
  refine s' (.bool q2110) as' ?_
  refine ntt' ?_
  have h_:=oi' H;subst h_
  exact b1' [] ⟨rfl,rfl⟩
 replace H:=g_iff h2105 H
 refine SA_condFb rfl h2105 ?_
 refine SA_skip (at_normal (qr' ?_))
 refine s' (pa' b5 40) (fa' b5 0 40) ?_
 refine s' (pa' b5 40) (fa' b5 40 40) ?_
 refine l' (ld' b5 40 0) ?_
 refine s' (.bool (decide (a0.f16.f0 = 0))) (V_eql rfl rfl) ?_
 refine s' (.bool (decide (a0.f16.f0 = 0))) mv' ?_
 obtain⟨q2114,hq2114,H⟩:=g_lt H
 refine cR' 5 [(1,pt' b5),(156,.bool q2114)] [Blk b5 34 (c34' a0 A0_0 c0_0 A0_1 c0_1 A0_2 c0_2 A0_3 c0_3),Ro k55 A0_0 c0_0 a0.f0.f2,rl' A0_1 c0_1 a0.f7,Ro k55 A0_2 c0_2 a0.f16.f2,rw' A0_3 c0_3 a0.f17] ?_ fun junk=>?_
 ·by_cases h2115 : a0.f16.f0 = 0
  ·refine y' (dec_t h2115) (pa' b5 40) (fa' b5 0 40) ?_
   refine y' (dec_t h2115) (pa' b5 41) (fa' b5 40 41) ?_
   refine z' (dec_t h2115) (ld' b5 41 0) ?_
   refine y' (dec_t h2115) (.bool (decide (a0.f16.f1 = 0))) (V_eql rfl rfl) ?_
   refine pT' (dec_t h2115) ?_
   refine RA_nil ?_
   exact at_normal (St.mk1 (aeq rfl (aeq (congrArg Value.bool (and_t hq2114 (dec_t h2115))) aeq0)) (gs' [0,1,2,3,4]))
  refine no' 4 (dec_f h2115) ?_
  refine pF' (dec_f h2115) ?_
  refine RA_nil ?_
  exact at_normal (St.mk1 (aeq rfl (aeq (congrArg Value.bool (and_f hq2114 (dec_f h2115))) aeq0)) (gs' [0,1,2,3,4]))
 refine s' (.bool q2114) mv' ?_
 obtain⟨q2117,hq2117,H⟩:=g_lt H
 refine cR' 6 [(163,.bool q2117)] [] ?_ fun junk=>?_
 ·by_cases h2118 : q2114 = true
  ·refine y' h2118 (pa' b5 40) (fa' b5 0 40) ?_
   refine y' h2118 (pa' b5 42) (fa' b5 40 42) ?_
   refine z' h2118 (ld' b5 42 0) ?_
   refine y' h2118 (il' (a0.f16.f2.length : Int)) (V_len Tryz.underlying24 rfl) ?_
   refine y' h2118 (.bool (decide ((a0.f16.f2.length : Int) = 0))) (V_eql rfl rfl) ?_
   refine pT' h2118 ?_
   refine RA_nil ?_
   exact at_normal (St.mk1 (aeq (congrArg Value.bool (and_t hq2117 (h2118))) aeq0) (gs' []))
  refine no' 5 (bno h2118) ?_
  refine pF' (bno h2118) ?_
  refine RA_nil ?_
  exact at_normal (St.mk1 (aeq (congrArg Value.bool (and_f hq2117 (bno h2118))) aeq0) (gs' []))
 refine s' (.bool q2117) as' ?_
 refine nt' ?_
 have h_:=oi' H;subst h_
 exact b1' [] ⟨rfl,rfl⟩


theorem F18b0.ok {a0 : S26} {a1 : S26} {r : Bool} (H : F18b0b1.f k a0 a1 = some r) : SCA Tryz.prog 18 #[.agg #[il' a0.f0,il' a0.f1,.slice A0_0 a0.f2.length c0_0],.agg #[il' a1.f0,il' a1.f1,.slice A1_0 a1.f2.length c1_0]] [Buf k55 55 A0_0 c0_0 a0.f2,Ro k55 A1_0 c1_0 a1.f2] (fun v B=>v = .bool r∧B = [Buf k55 55 A0_0 c0_0 a0.f2]):=by
 refine SCA_of_body Tryz.func18 rfl rfl ?_
 unfold F18b0b1.f at H
 refine qr' ?_
 refine o' (bx' fun b3=>?_)
 refine o' (bx' fun b5=>?_)
 refine s' (.bool false) as' ?_
 refine nq' ?_
 refine s' (pt' b3) (fa' b3 0 0) ?_
 refine l' (ld' b3 0 2) ?_
 refine s' (pt' b5) (fa' b5 0 0) ?_
 refine l' (ld' b5 0 3) ?_
 refine s' (.bool (decide (a0.f0 ≠ a1.f0))) (V_neq rfl rfl) ?_
 refine s' (.bool (decide (a0.f0 ≠ a1.f0))) mv' ?_
 obtain⟨q7,hq7,H⟩:=g_lt H
 refine cR' 6 [(2,pt' b3),(3,pt' b5),(17,.bool q7)] [Buf k55 55 A0_0 c0_0 a0.f2,Blk b3 26 [il' a0.f0,il' a0.f1,.slice A0_0 a0.f2.length c0_0],Blk b5 26 [il' a1.f0,il' a1.f1,.slice A1_0 a1.f2.length c1_0],Ro k55 A1_0 c1_0 a1.f2] ?_ fun junk=>?_
 ·by_cases h8 : a0.f0 ≠ a1.f0
  ·refine no' 5 (dec_t h8) ?_
   refine pT' (dec_t h8) ?_
   refine RA_nil ?_
   exact at_normal (St.mk1 (aeq rfl (aeq rfl (aeq (congrArg Value.bool (or_t hq7 (dec_t h8))) aeq0))) (gs' [0,2,3,1]))
  refine y' (dec_f h8) (pa' b3 1) (fa' b3 0 1) ?_
  refine z' (dec_f h8) (ld' b3 1 2) ?_
  refine y' (dec_f h8) (pa' b5 1) (fa' b5 0 1) ?_
  refine z' (dec_f h8) (ld' b5 1 3) ?_
  refine y' (dec_f h8) (.bool (decide (a0.f1 ≠ a1.f1))) (V_neq rfl rfl) ?_
  refine pF' (dec_f h8) ?_
  refine RA_nil ?_
  exact at_normal (St.mk1 (aeq rfl (aeq rfl (aeq (congrArg Value.bool (or_f hq7 (dec_f h8))) aeq0))) (gs' [0,2,3,1]))
 refine s' (.bool q7) mv' ?_
 obtain⟨q10,hq10,H⟩:=g_lt H
 refine RA_cut 8 (fun e ds As=>St [(2,pt' b3),(3,pt' b5),(26,.bool q10)] [Buf k55 55 A0_0 c0_0 a0.f2,Blk b3 26 [il' a0.f0,il' a0.f1,.slice A0_0 a0.f2.length c0_0],Blk b5 26 [il' a1.f0,il' a1.f1,.slice A1_0 a1.f2.length c1_0],Ro k55 A1_0 c1_0 a1.f2] e ds As) ?_ ?_
 ·by_cases h11 : q7 = true
  ·refine no' 7 h11 ?_
   refine pT' h11 ?_
   refine RA_nil ?_
   exact at_normal (St.mk1 (aeq rfl (aeq rfl (aeq (congrArg Value.bool (or_t hq10 (h11))) aeq0))) (gs' [0,1,2,3]))
  refine y' (bno h11) (pa' b3 2) (fa' b3 0 2) ?_
  refine z' (bno h11) (ld' b3 2 1) ?_
  refine y' (bno h11) (il' (a0.f2.length : Int)) (V_len Tryz.underlying24 rfl) ?_
  refine y' (bno h11) (pa' b5 2) (fa' b5 0 2) ?_
  refine z' (bno h11) (ld' b5 2 2) ?_
  refine y' (bno h11) (il' (a1.f2.length : Int)) (V_len Tryz.underlying24 rfl) ?_
  refine y' (bno h11) (.bool (decide ((a0.f2.length : Int) ≠ (a1.f2.length : Int)))) (V_neq rfl rfl) ?_
  refine pF' (bno h11) ?_
  refine RA_nil ?_
  exact at_normal (St.mk1 (aeq rfl (aeq rfl (aeq (congrArg Value.bool (or_f hq10 (bno h11))) aeq0))) (gs' [0,1,2,3]))
 rintro e ds As hst12
 refine na' ?_
 refine SA.of_St hst12 fun junk=>?_
 by_cases h13 : q10 = true
 ·replace H:=g_ift h13 H
  refine SA_condTb rfl h13 ?_
  refine qr' ?_
  refine s' (.bool false) as' ?_
  refine ntt' ?_
  have h_:=oi' H;subst h_
  exact b1' [0] ⟨rfl,rfl⟩
 replace H:=g_iff h13 H
 refine SA_condFb rfl h13 ?_
 refine SA_skip (at_normal (SA_seq (qr' ?_)))
 refine s' (il' 0) as' ?_
 refine na' ?_
 obtain⟨t14,H,Bt14⟩:=g_bind H
 refine SA_mid (fun e ds As=>∃ (s15 : Unit),t14 = Out.go s15∧St [] [Buf k55 55 A0_0 c0_0 a0.f2] e ds As) ?_ ?_
 ·refine SA_block ?_
  refine SA_loop (fun k_ e ds As=>∃ (x5_15 : Int),F18b0b1.l0 a0 a1 k_ x5_15 = some t14∧St [(2,pt' b3),(3,pt' b5),(5,il' x5_15)] [Buf k55 55 A0_0 c0_0 a0.f2,Blk b3 26 [il' a0.f0,il' a0.f1,.slice A0_0 a0.f2.length c0_0],Blk b5 26 [il' a1.f0,il' a1.f1,.slice A1_0 a1.f2.length c1_0],Ro k55 A1_0 c1_0 a1.f2] e ds As) (k:=k) ⟨_,H,sq' [0,1,2,3]⟩ ?_
  clear H
  rintro k16 e ds As ⟨x5_15,H,hst17⟩
  obtain _ | k16:=k16
  ·cases H
  rw [F18b0b1.l0] at H
  refine SA.of_St hst17 fun junk=>?_
  refine SA_seq (qr' ?_)
  refine s' (il' x5_15) mv' ?_
  refine s' (pa' b3 2) (fa' b3 0 2) ?_
  refine l' (ld' b3 2 1) ?_
  refine s' (il' (a0.f2.length : Int)) (V_len Tryz.underlying24 rfl) ?_
  refine s' (.bool (decide (x5_15 < (a0.f2.length : Int)))) (V_lss rfl rfl) ?_
  refine na' ?_
  by_cases h18 : x5_15 < (a0.f2.length : Int)
  ·replace H:=g_ift h18 H
   refine SA_condT rfl h18 ?_
   refine SA_skip (at_normal (SA_seq (SA_block (SA_seq ?_))))
   refine SA_drawHq (rg' 0 11) #[[],[0],[],[0,1,2],(rg' 0 4),[],[5],[],[5,6,7],(rg' 5 4),(rg' 0 10)] (rg' 0 4) [3] mixed rfl rfl rfl (PanOk.thn (PanOk.inb (PanOk.thn (PanOk.thn (PanOk.inb (PanOk.thn (PanOk.thn PanOk.body))))))) fun I0 hS h0 hh0 w0 sH dd pk=>?_
   refine t' (pa' b3 2) 0 rfl sH (fa' b3 0 2) ?_
   refine r' 1 rfl sH (ld' b3 2 1) ?_
   refine t' (il' x5_15) 2 rfl sH mv' ?_
   obtain⟨⟨g199,g200⟩,H⟩:=g_pos H
   refine r' 3 rfl sH (VR_index (i:=x5_15) Tryz.underlying24 sz55 rfl rfl (Src.buf (k:=0) rfl) g199 g200) ?_
   refine r' 4 rfl sH (VR_loadA_el (enc:=enc55) (i:=x5_15) (j:=x5_15.toNat * 15) (m:=0) (sz:=15) (vs:=(c55' (S55.mk ((rd a0.f2 x5_15).f0) ((rd a0.f2 x5_15).f1) ((rd a0.f2 x5_15).f2) ((rd a0.f2 x5_15).f3)))) Tryz.underlying55 rfl sz55 rfl rfl rfl (Src.buf (k:=0) rfl) g199 g200 (fun _ _ h=>h) rfl) ?_
   refine t' (pa' b5 2) 5 rfl sH (fa' b5 0 2) ?_
   refine r' 6 rfl sH (ld' b5 2 2) ?_
   refine t' (il' x5_15) 7 rfl sH mv' ?_
   obtain⟨⟨g499,g500⟩,H⟩:=g_pos H
   refine r' 8 rfl sH (VR_index (i:=x5_15) Tryz.underlying24 sz55 rfl rfl (Src.ro (k:=3) rfl) g499 g500) ?_
   refine r' 9 rfl sH (VR_loadA_el (enc:=enc55) (i:=x5_15) (j:=x5_15.toNat * 15) (m:=0) (sz:=15) (vs:=(c55' (S55.mk ((rd a1.f2 x5_15).f0) ((rd a1.f2 x5_15).f1) ((rd a1.f2 x5_15).f2) ((rd a1.f2 x5_15).f3)))) Tryz.underlying55 rfl sz55 rfl rfl rfl (Src.ro (k:=3) rfl) g499 g500 (fun _ _ h=>h) rfl) ?_
   refine t' (.bool (decide ((rd a0.f2 x5_15) ≠ (rd a1.f2 x5_15)))) 10 rfl sH (V_neqD (xs:=(c55' (S55.mk ((rd a0.f2 x5_15).f0) ((rd a0.f2 x5_15).f1) ((rd a0.f2 x5_15).f2) ((rd a0.f2 x5_15).f3)))) (ys:=(c55' (S55.mk ((rd a1.f2 x5_15).f0) ((rd a1.f2 x5_15).f1) ((rd a1.f2 x5_15).f2) ((rd a1.f2 x5_15).f3)))) (r:=((((rd a0.f2 x5_15).f0) == ((rd a1.f2 x5_15).f0)) && ((((((rd a0.f2 x5_15).f1).f0) == (((rd a1.f2 x5_15).f1).f0)) && (((((rd a0.f2 x5_15).f1).f1) == (((rd a1.f2 x5_15).f1).f1)) && (((((rd a0.f2 x5_15).f1).f2) == (((rd a1.f2 x5_15).f1).f2)) && true))) && ((((rd a0.f2 x5_15).f2) == ((rd a1.f2 x5_15).f2)) && ((((((rd a0.f2 x5_15).f3).f0) == (((rd a1.f2 x5_15).f3).f0)) && (((((rd a0.f2 x5_15).f3).f1) == (((rd a1.f2 x5_15).f3).f1)) && (((((rd a0.f2 x5_15).f3).f2) == (((rd a1.f2 x5_15).f3).f2)) && (((((rd a0.f2 x5_15).f3).f3) == (((rd a1.f2 x5_15).f3).f3)) && (((((rd a0.f2 x5_15).f3).f4) == (((rd a1.f2 x5_15).f3).f4)) && (((((rd a0.f2 x5_15).f3).f5) == (((rd a1.f2 x5_15).f3).f5)) && (((((rd a0.f2 x5_15).f3).f6) == (((rd a1.f2 x5_15).f3).f6)) && (((((rd a0.f2 x5_15).f3).f7) == (((rd a1.f2 x5_15).f3).f7)) && (((((rd a0.f2 x5_15).f3).f8) == (((rd a1.f2 x5_15).f3).f8)) && (((((rd a0.f2 x5_15).f3).f9) == (((rd a1.f2 x5_15).f3).f9)) && true)))))))))) && true))))) (p:=(rd a0.f2 x5_15) = (rd a1.f2 x5_15)) eqg55 rfl rfl (by kernel_rfl) (eqv55 (x:=rd a0.f2 x5_15) (y:=rd a1.f2 x5_15))) ?_
   refine DH_open dd sH ?_
   refine DN_done (by kernel_rfl) ?_
   refine at_normal ?_
   by_cases h680 : (rd a0.f2 x5_15) ≠ (rd a1.f2 x5_15)
   ·replace H:=g_ift h680 H
    refine SA_condT rfl h680 ?_
    refine qr' ?_
    refine s' (.bool false) as' ?_
    refine nt' (inb_ret (thn_ret (thn_ret (inb_ret (thn_ret (thn_ret ?_))))))
    have h_:=oi' H;subst h_
    have hb_:=el_ret Bt14
    have hr_:=Option.some.inj hb_
    clear hb_
    subst hr_
    exact b1' [0] ⟨rfl,rfl⟩
   replace H:=g_iff h680 H
   refine SA_condF rfl h680 ?_
   refine SA_skip (inb_normal (at_normal (SA_region ?_)))
   refine s' (il' x5_15) mv' ?_
   refine s' (il' (IntKind.i64.wrap (x5_15 + 1))) (V_add rfl rfl) ?_
   obtain⟨n681,hn681,H⟩:=g_lt H
   refine s' (il' n681) (V_assign (v:=il' n681) (congrArg (Value.int .i64) hn681.symm)) ?_
   refine RA_nil ?_
   exact at_normal ⟨k16,Nat.lt_succ_self _,_,H,sq' [0,1,2,3]⟩
  replace H:=g_iff h18 H
  refine SA_condF rfl h18 ?_
  refine SA_exit (thn_exit (thn_exit (inb_hit ?_)))
  have h_:=oi' H;subst h_
  exact at_normal ⟨(),rfl,sq' [0]⟩
 rintro e ds As ⟨s15,ht,hst682⟩
 clear H
 subst ht
 replace Bt14:=el_go Bt14
 have H:=Bt14
 clear Bt14
 refine at_normal ?_
 refine SA.of_St hst682 fun junk=>?_
 refine qr' ?_
 refine s' (.bool true) as' ?_
 refine nt' ?_
 have h_:=oi' H;subst h_
 exact b1' [0] ⟨rfl,rfl⟩

end Go.Proofs.YtckilbegmbaeeaaGreat.Z5

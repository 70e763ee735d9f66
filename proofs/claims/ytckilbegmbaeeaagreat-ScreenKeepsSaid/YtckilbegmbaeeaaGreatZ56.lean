/- What functions compute, and that they do: 115, 153, 154, 159, 16, 27, 60, 62f72x_1_. -/
import Derived.Test.YtckilbegmbaeeaaGreatZ50
import Derived.Test.YtckilbegmbaeeaaGreatZ51
import Derived.Test.YtckilbegmbaeeaaGreatZ52
import Derived.Test.YtckilbegmbaeeaaGreatZ53
import Derived.Test.YtckilbegmbaeeaaGreatZ55
namespace Go.Proofs.YtckilbegmbaeeaaGreat.Z5
open Go Go.RowKit Go.Proofs.YtckilbegmbaeeaaGreat.SL
set_option linter.unusedVariables false
set_option maxHeartbeats 20000000
set_option maxRecDepth 100000
set_option linter.unusedSimpArgs false
attribute [local irreducible] IntKind.wrap minI maxI shrI shlI andI orI xorI andNotI cplI rd sub bytesOf strOf slA
variable {b2000_ c0_0 c0_1 c0_2 c0_3 k : Nat}
variable {A0_0 A0_1 A0_2 A0_3 : Option Addr}
theorem F115.ok {l0 : (List Int)} {g1 : Int → Option (Bool)} {A0 : Option Addr} {c0 : Nat} {fv1 : Value} {Fr1 : Asrt} (hg1 : ∀ {x0_ : Int} {r_ : Bool},g1 x0_ = some r_ → FC Tryz.prog fv1 [iw' x0_] [Fr1] (fun v B=>∃ B0,(v = .bool r_∧B0 = [])∧B = B0 ++ [Fr1])) {r : Int} (H : F115b0.f k l0 g1 = some r) : SCA Tryz.prog 115 #[.slice A0 l0.length c0,fv1] [rw' A0 c0 l0,Fr1] (fun v B=>v = il' r∧B = [Fr1]):=by
 refine SCA_of_body Tryz.func115 rfl rfl ?_
 unfold F115b0.f at H
 refine qr' ?_
 refine s' (il' 0) as' ?_
 refine nq' ?_
 refine s' (.slice A0 l0.length c0) mv' ?_
 refine s' (il' (l0.length : Int)) (V_len Tryz.underlying32 rfl) ?_
 refine s' (il' 0) mv' ?_
 refine na' ?_
 obtain⟨t3,H,Bt3⟩:=g_bind H
 refine SA_mid (fun e ds As=>∃ (s4 : Unit),t3 = Out.go s4∧St [] [Fr1] e ds As) ?_ ?_
 ·refine SA_block ?_
  refine SA_loop (fun k_ e ds As=>∃ (x8_4 : Int),F115b0.l0 l0 g1 k_ x8_4 = some t3∧St [(0,.slice A0 l0.length c0),(1,fv1),(7,il' (l0.length : Int)),(8,il' x8_4)] [Fr1,rw' A0 c0 l0] e ds As) (k:=k) ⟨_,H,sq' [1,0]⟩ ?_
  clear H
  rintro k5 e ds As ⟨x8_4,H,hst6⟩
  obtain _ | k5:=k5
  ·cases H
  rw [F115b0.l0] at H
  refine SA.of_St hst6 fun junk=>?_
  refine qr' ?_
  refine s' (.bool (decide (x8_4 < (l0.length : Int)))) (V_lss rfl rfl) ?_
  refine na' (SA_seq ?_)
  by_cases h7 : x8_4 < (l0.length : Int)
  ·replace H:=g_ift h7 H
   refine SA_condT rfl h7 ?_
   refine SA_skip (at_normal (SA_seq (SA_block (qr' ?_))))
   refine s' (il' x8_4) mv' ?_
   refine s' (il' x8_4) as' ?_
   refine nr' ?_
   refine s' fv1 mv' ?_
   refine s' (.slice A0 l0.length c0) mv' ?_
   refine s' (il' x8_4) mv' ?_
   obtain⟨⟨g8,g9⟩,H⟩:=g_pos H
   refine l' (VR_index (i:=x8_4) Tryz.underlying32 sz21 rfl rfl (Src.ro (k:=1) rfl) g8 g9) ?_
   refine l' (VR_load_el (enc:=(fun x_ : Int=>[Value.int .i32 x_])) (i:=x8_4) (j:=x8_4.toNat * 1) (m:=0) (sz:=1) Tryz.underlying21 rfl rfl rfl rfl (Src.ro (k:=1) rfl) g8 g9 (fun _ _ h=>h) rfl) ?_
   obtain⟨r10,C12,H⟩:=g_bind H
   refine o' (OA_callF (vs:=[iw' (rd l0 x8_4)]) [0] [1] rfl rfl rfl rfl (hg1 (x0_:=rd l0 x8_4) C12) rfl ?_)
   rintro _ _⟨_,⟨rfl,rfl⟩,rfl⟩
   refine na' ?_
   by_cases h11 : r10 = true
   ·replace H:=g_ift h11 H
    refine SA_condTb rfl h11 ?_
    refine qr' ?_
    refine s' (il' x8_4) mv' ?_
    refine s' (il' x8_4) as' ?_
    refine nt' (inb_ret (thn_ret (thn_ret (inb_ret (thn_ret (thn_ret ?_))))))
    have h_:=oi' H;subst h_
    have hb_:=el_ret Bt3
    have hr_:=Option.some.inj hb_
    clear hb_
    subst hr_
    exact b1' [0] ⟨rfl,rfl⟩
   replace H:=g_iff h11 H
   refine SA_condFb rfl h11 ?_
   refine SA_skip (inb_normal (at_normal (SA_region ?_)))
   refine s' (il' (IntKind.i64.wrap (x8_4 + 1))) (V_add rfl rfl) ?_
   refine s' (il' (IntKind.i64.wrap (x8_4 + 1))) mv' ?_
   refine RA_nil ?_
   exact at_normal ⟨k5,Nat.lt_succ_self _,_,H,sq' [0,1]⟩
  replace H:=g_iff h7 H
  refine SA_condF rfl h7 ?_
  refine SA_exit (thn_exit (thn_exit (inb_hit ?_)))
  have h_:=oi' H;subst h_
  exact at_normal ⟨(),rfl,sq' [0]⟩
 rintro e ds As ⟨s4,ht,hst13⟩
 clear H
 subst ht
 replace Bt3:=el_go Bt3
 have H:=Bt3
 clear Bt3
 refine at_normal ?_
 refine SA.of_St hst13 fun junk=>?_
 refine qr' ?_
 refine s' (il' (-1)) as' ?_
 refine nt' ?_
 have h_:=oi' H;subst h_
 exact b1' [0] ⟨rfl,rfl⟩


theorem F60.ok {l0 : (List Int)} {g1 : Int → Option (Bool)} {A0 : Option Addr} {c0 : Nat} {fv1 : Value} {Fr1 : Asrt} (hg1 : ∀ {x0_ : Int} {r_ : Bool},g1 x0_ = some r_ → FC Tryz.prog fv1 [iw' x0_] [Fr1] (fun v B=>∃ B0,(v = .bool r_∧B0 = [])∧B = B0 ++ [Fr1])) {r : Bool} (H : F60b0.f k l0 g1 = some r) : SCA Tryz.prog 60 #[.slice A0 l0.length c0,fv1] [rw' A0 c0 l0,Fr1] (fun v B=>v = .bool r∧B = [Fr1]):=by
 refine SCA_of_body Tryz.func60 rfl rfl ?_
 unfold F60b0.f at H
 refine qr' ?_
 refine s' (.bool false) as' ?_
 refine nr' ?_
 refine s' (.slice A0 l0.length c0) mv' ?_
 refine s' fv1 mv' ?_
 obtain⟨r3,C4,H⟩:=g_bind H
 refine o' (ca' [0,1] [0] (xf' [.slice A0 l0.length c0,fv1]) (F115.ok (l0:=l0) (A0:=A0) (c0:=c0) (g1:=g1) (fv1:=fv1) (Fr1:=Fr1) (hg1:=hg1) C4) ?_)
 rintro _ _⟨rfl,rfl⟩
 refine s' (.bool (decide (r3 ≥ 0))) (V_geq rfl rfl) ?_
 refine s' (.bool (decide (r3 ≥ 0))) as' ?_
 refine nt' ?_
 have h_:=oi' H;subst h_
 exact b1' [0] ⟨rfl,rfl⟩


theorem F16.ok {a0 : S34} {r : Bool} (H : F16b0.f k a0 = some r) : SCA Tryz.prog 16 #[.agg (c34' a0 A0_0 c0_0 A0_1 c0_1 A0_2 c0_2 A0_3 c0_3).toArray] [Ro k55 A0_0 c0_0 a0.f0.f2,rl' A0_1 c0_1 a0.f7,Ro k55 A0_2 c0_2 a0.f16.f2,rw' A0_3 c0_3 a0.f17] (fun v B=>v = .bool r∧B = []):=by
 refine SCA_of_body Tryz.func16 rfl rfl ?_
 unfold F16b0.f at H
 refine qr' ?_
 refine o' (bx' fun b5=>?_)
 refine s' (.bool false) as' ?_
 refine nr' ?_
 refine s' (pt' b5) (fa' b5 0 0) ?_
 refine l' (lA' b5 0 4 [il' a0.f0.f0,il' a0.f0.f1,.slice A0_0 a0.f0.f2.length c0_0]) ?_
 refine o' (al' fun b7=>?_)
 refine o' (su' b7 0 5 [il' a0.f0.f0,il' a0.f0.f1,.slice A0_0 a0.f0.f2.length c0_0] ?_)
 refine nq' ?_
 refine l' (lA' b7 0 5 [il' a0.f0.f0,il' a0.f0.f1,.slice A0_0 a0.f0.f2.length c0_0]) ?_
 obtain⟨r9,C87,H⟩:=g_bind H
 refine o' (ca' [0] [0,1,2,3,4,5] (xf' [.agg #[il' a0.f0.f0,il' a0.f0.f1,.slice A0_0 a0.f0.f2.length c0_0]]) (F57.ok (a0:=a0.f0) C87) ?_)
 rintro _ _⟨rfl,rfl⟩
 refine s' (.bool (!r9)) (V_not rfl) ?_
 refine s' (.bool (!r9)) mv' ?_
 obtain⟨q10,H,Bq10⟩:=g_bind H
 refine cR' 5 [(1,pt' b5),(3,pt' b7),(19,.bool q10)] [Blk b5 34 (c34' a0 A0_0 c0_0 A0_1 c0_1 A0_2 c0_2 A0_3 c0_3),Ro k55 A0_0 c0_0 a0.f0.f2,rl' A0_1 c0_1 a0.f7,Ro k55 A0_2 c0_2 a0.f16.f2,rw' A0_3 c0_3 a0.f17,Blk b7 26 [il' a0.f0.f0,il' a0.f0.f1,.slice A0_0 a0.f0.f2.length c0_0]] ?_ fun junk=>?_
 ·by_cases h11 : (!r9) = true
  ·replace H:=g_ift h11 H
   refine no' 4 h11 ?_
   refine pT' h11 ?_
   have h_:=oi' H;subst h_
   exact rm' [4,0,1,2,3,5]
  replace H:=g_iff h11 H
  refine y' (bno h11) (pa' b5 6) (fa' b5 0 6) ?_
  refine z' (bno h11) (lA' b5 6 4 (c28' a0.f4)) ?_
  obtain⟨r12,C13,H⟩:=g_bind H
  refine yo' (bno h11) (ca' [] [0,1,2,3,4,5] (xf' [.agg (c28' a0.f4).toArray]) (F58.ok (a0:=a0.f4) C13) ?_)
  rintro _ _⟨rfl,rfl⟩
  refine y' (bno h11) (.bool (!r12)) (V_not rfl) ?_
  refine pF' (bno h11) ?_
  have h_:=oi' H;subst h_
  exact rm' [4,0,1,2,3,5]
 replace H:=Bq10
 refine s' (.bool q10) mv' ?_
 obtain⟨q15,H,Bq15⟩:=g_bind H
 refine cR' 6 [(1,pt' b5),(3,pt' b7),(26,.bool q15)] [Blk b5 34 (c34' a0 A0_0 c0_0 A0_1 c0_1 A0_2 c0_2 A0_3 c0_3),Ro k55 A0_0 c0_0 a0.f0.f2,rl' A0_1 c0_1 a0.f7,Ro k55 A0_2 c0_2 a0.f16.f2,rw' A0_3 c0_3 a0.f17,Blk b7 26 [il' a0.f0.f0,il' a0.f0.f1,.slice A0_0 a0.f0.f2.length c0_0]] ?_ fun junk=>?_
 ·by_cases h16 : q10 = true
  ·replace H:=g_ift h16 H
   refine no' 5 h16 ?_
   refine pT' h16 ?_
   have h_:=oi' H;subst h_
   exact rm' [0,1,2,3,4,5]
  replace H:=g_iff h16 H
  refine y' (bno h16) (pa' b5 25) (fa' b5 0 25) ?_
  refine y' (bno h16) (pa' b5 29) (fa' b5 25 29) ?_
  refine z' (bno h16) (lA' b5 29 0 (c28' a0.f14.f4)) ?_
  obtain⟨r17,C18,H⟩:=g_bind H
  refine yo' (bno h16) (ca' [] [0,1,2,3,4,5] (xf' [.agg (c28' a0.f14.f4).toArray]) (F58.ok (a0:=a0.f14.f4) C18) ?_)
  rintro _ _⟨rfl,rfl⟩
  refine y' (bno h16) (.bool (!r17)) (V_not rfl) ?_
  refine pF' (bno h16) ?_
  have h_:=oi' H;subst h_
  exact rm' [0,1,2,3,4,5]
 replace H:=Bq15
 refine s' (.bool q15) mv' ?_
 obtain⟨q20,hq20,H⟩:=g_lt H
 refine cR' 4 [(1,pt' b5),(3,pt' b7),(31,.bool q20)] [Blk b5 34 (c34' a0 A0_0 c0_0 A0_1 c0_1 A0_2 c0_2 A0_3 c0_3),Ro k55 A0_0 c0_0 a0.f0.f2,rl' A0_1 c0_1 a0.f7,Ro k55 A0_2 c0_2 a0.f16.f2,rw' A0_3 c0_3 a0.f17,Blk b7 26 [il' a0.f0.f0,il' a0.f0.f1,.slice A0_0 a0.f0.f2.length c0_0]] ?_ fun junk=>?_
 ·by_cases h21 : q15 = true
  ·refine no' 3 h21 ?_
   refine pT' h21 ?_
   refine RA_nil ?_
   exact at_normal (St.mk1 (aeq rfl (aeq rfl (aeq (congrArg Value.bool (or_t hq20 (h21))) aeq0))) (gs' [0,1,2,3,4,5]))
  refine y' (bno h21) (pa' b5 16) (fa' b5 0 16) ?_
  refine z' (bno h21) (ld' b5 16 0) ?_
  refine y' (bno h21) (.bool (decide (a0.f5 < 0))) (V_lss rfl rfl) ?_
  refine pF' (bno h21) ?_
  refine RA_nil ?_
  exact at_normal (St.mk1 (aeq rfl (aeq rfl (aeq (congrArg Value.bool (or_f hq20 (bno h21))) aeq0))) (gs' [0,1,2,3,4,5]))
 refine s' (.bool q20) mv' ?_
 obtain⟨q23,hq23,H⟩:=g_lt H
 refine cR' 6 [(1,pt' b5),(3,pt' b7),(38,.bool q23)] [Blk b5 34 (c34' a0 A0_0 c0_0 A0_1 c0_1 A0_2 c0_2 A0_3 c0_3),Ro k55 A0_0 c0_0 a0.f0.f2,rl' A0_1 c0_1 a0.f7,Ro k55 A0_2 c0_2 a0.f16.f2,rw' A0_3 c0_3 a0.f17,Blk b7 26 [il' a0.f0.f0,il' a0.f0.f1,.slice A0_0 a0.f0.f2.length c0_0]] ?_ fun junk=>?_
 ·by_cases h24 : q20 = true
  ·refine no' 5 h24 ?_
   refine pT' h24 ?_
   refine RA_nil ?_
   exact at_normal (St.mk1 (aeq rfl (aeq rfl (aeq (congrArg Value.bool (or_t hq23 (h24))) aeq0))) (gs' [0,1,2,3,4,5]))
  refine y' (bno h24) (pa' b5 16) (fa' b5 0 16) ?_
  refine z' (bno h24) (ld' b5 16 0) ?_
  refine y' (bno h24) (pa' b5 17) (fa' b5 0 17) ?_
  refine z' (bno h24) (ld' b5 17 0) ?_
  refine y' (bno h24) (.bool (decide (a0.f5 > a0.f6))) (V_gtr rfl rfl) ?_
  refine pF' (bno h24) ?_
  refine RA_nil ?_
  exact at_normal (St.mk1 (aeq rfl (aeq rfl (aeq (congrArg Value.bool (or_f hq23 (bno h24))) aeq0))) (gs' [0,1,2,3,4,5]))
 refine s' (.bool q23) mv' ?_
 obtain⟨q26,hq26,H⟩:=g_lt H
 refine RA_cut 6 (fun e ds As=>St [(1,pt' b5),(3,pt' b7),(45,.bool q26)] [Blk b5 34 (c34' a0 A0_0 c0_0 A0_1 c0_1 A0_2 c0_2 A0_3 c0_3),Ro k55 A0_0 c0_0 a0.f0.f2,rl' A0_1 c0_1 a0.f7,Ro k55 A0_2 c0_2 a0.f16.f2,rw' A0_3 c0_3 a0.f17,Blk b7 26 [il' a0.f0.f0,il' a0.f0.f1,.slice A0_0 a0.f0.f2.length c0_0]] e ds As) ?_ ?_
 ·by_cases h27 : q23 = true
  ·refine no' 5 h27 ?_
   refine pT' h27 ?_
   refine RA_nil ?_
   exact at_normal (St.mk1 (aeq rfl (aeq rfl (aeq (congrArg Value.bool (or_t hq26 (h27))) aeq0))) (gs' [0,1,2,3,4,5]))
  refine y' (bno h27) (pa' b5 17) (fa' b5 0 17) ?_
  refine z' (bno h27) (ld' b5 17 0) ?_
  refine y' (bno h27) (pa' b7 1) (fa' b7 0 1) ?_
  refine z' (bno h27) (ld' b7 1 5) ?_
  refine y' (bno h27) (.bool (decide (a0.f6 ≥ a0.f0.f1))) (V_geq rfl rfl) ?_
  refine pF' (bno h27) ?_
  refine RA_nil ?_
  exact at_normal (St.mk1 (aeq rfl (aeq rfl (aeq (congrArg Value.bool (or_f hq26 (bno h27))) aeq0))) (gs' [0,1,2,3,4,5]))
 rintro e ds As hst28
 refine na' ?_
 refine SA.of_St hst28 fun junk=>?_
 by_cases h29 : q26 = true
 ·replace H:=g_ift h29 H
  refine SA_condTb rfl h29 ?_
  refine qr' ?_
  refine s' (.bool false) as' ?_
  refine ntt' ?_
  have h_:=oi' H;subst h_
  exact b1' [] ⟨rfl,rfl⟩
 replace H:=g_iff h29 H
 refine SA_condFb rfl h29 ?_
 refine SA_skip (at_normal (SA_seq (qr' ?_)))
 refine s' (pa' b5 3) (fa' b5 0 3) ?_
 refine l' (ld' b5 3 0) ?_
 refine s' (pa' b5 4) (fa' b5 0 4) ?_
 refine l' (ld' b5 4 0) ?_
 refine s' (pa' b5 5) (fa' b5 0 5) ?_
 refine l' (ld' b5 5 0) ?_
 refine s' (.agg (c31' (S31.mk a0.f1 a0.f2 a0.f3 false z28')).toArray) bd' ?_
 refine s' (pa' b5 25) (fa' b5 0 25) ?_
 refine l' (lA' b5 25 0 (c31' a0.f14)) ?_
 refine s' (.agg (List.toArray (il' a0.f1::il' a0.f2::.bool a0.f3::.bool false::il' 0::il' 0::.bool false::.bool false::.bool false::.bool false::.bool false::.bool false::.bool false::.bool false::il' a0.f14.f0::il' a0.f14.f1::.bool a0.f14.f2::.bool a0.f14.f3::il' a0.f14.f4.f0::il' a0.f14.f4.f1::.bool a0.f14.f4.f2::.bool a0.f14.f4.f3::.bool a0.f14.f4.f4::.bool a0.f14.f4.f5::.bool a0.f14.f4.f6::.bool a0.f14.f4.f7::.bool a0.f14.f4.f8::.bool a0.f14.f4.f9::[]))) bA' ?_
 refine s' (il' 0) mv' ?_
 refine na' ?_
 obtain⟨t30,H,Bt30⟩:=g_bind H
 refine SA_mid (fun e ds As=>∃ (s31 : Unit),t30 = Out.go s31∧St [(1,pt' b5),(3,pt' b7)] [Blk b5 34 (c34' a0 A0_0 c0_0 A0_1 c0_1 A0_2 c0_2 A0_3 c0_3),Ro k55 A0_0 c0_0 a0.f0.f2,rl' A0_1 c0_1 a0.f7,Ro k55 A0_2 c0_2 a0.f16.f2,rw' A0_3 c0_3 a0.f17,Blk b7 26 [il' a0.f0.f0,il' a0.f0.f1,.slice A0_0 a0.f0.f2.length c0_0]] e ds As) ?_ ?_
 ·refine SA_block ?_
  refine SA_loop (fun k_ e ds As=>∃ (x56_31 : Int),F16b0.l0 a0 k_ x56_31 = some t30∧St [(1,pt' b5),(3,pt' b7),(55,.agg (List.toArray (il' a0.f1::il' a0.f2::.bool a0.f3::.bool false::il' 0::il' 0::.bool false::.bool false::.bool false::.bool false::.bool false::.bool false::.bool false::.bool false::il' a0.f14.f0::il' a0.f14.f1::.bool a0.f14.f2::.bool a0.f14.f3::il' a0.f14.f4.f0::il' a0.f14.f4.f1::.bool a0.f14.f4.f2::.bool a0.f14.f4.f3::.bool a0.f14.f4.f4::.bool a0.f14.f4.f5::.bool a0.f14.f4.f6::.bool a0.f14.f4.f7::.bool a0.f14.f4.f8::.bool a0.f14.f4.f9::[]))),(56,il' x56_31)] [Blk b5 34 (c34' a0 A0_0 c0_0 A0_1 c0_1 A0_2 c0_2 A0_3 c0_3),Ro k55 A0_0 c0_0 a0.f0.f2,rl' A0_1 c0_1 a0.f7,Ro k55 A0_2 c0_2 a0.f16.f2,rw' A0_3 c0_3 a0.f17,Blk b7 26 [il' a0.f0.f0,il' a0.f0.f1,.slice A0_0 a0.f0.f2.length c0_0]] e ds As) (k:=k) ⟨_,H,sq' [0,1,2,3,4,5]⟩ ?_
  clear H
  rintro k32 e ds As ⟨x56_31,H,hst33⟩
  obtain _ | k32:=k32
  ·cases H
  rw [F16b0.l0] at H
  refine SA.of_St hst33 fun junk=>?_
  refine qr' ?_
  refine s' (.bool (decide (x56_31 < 2))) (V_lss rfl rfl) ?_
  refine na' (SA_seq ?_)
  by_cases h34 : x56_31 < 2
  ·replace H:=g_ift h34 H
   refine SA_condT rfl h34 ?_
   refine SA_skip (at_normal (SA_seq (SA_block (qr' ?_))))
   obtain⟨⟨g35,g36⟩,H⟩:=g_pos H
   refine s' (.agg (c31' (S31.mk ((rd ([(S31.mk a0.f1 a0.f2 a0.f3 false z28'),a0.f14] : List S31) x56_31).f0) ((rd ([(S31.mk a0.f1 a0.f2 a0.f3 false z28'),a0.f14] : List S31) x56_31).f1) ((rd ([(S31.mk a0.f1 a0.f2 a0.f3 false z28'),a0.f14] : List S31) x56_31).f2) ((rd ([(S31.mk a0.f1 a0.f2 a0.f3 false z28'),a0.f14] : List S31) x56_31).f3) ((rd ([(S31.mk a0.f1 a0.f2 a0.f3 false z28'),a0.f14] : List S31) x56_31).f4))).toArray) (V_indexVA (kd:=k31) (i:=x56_31) (cs:=(il' a0.f1::il' a0.f2::.bool a0.f3::.bool false::il' 0::il' 0::.bool false::.bool false::.bool false::.bool false::.bool false::.bool false::.bool false::.bool false::il' a0.f14.f0::il' a0.f14.f1::.bool a0.f14.f2::.bool a0.f14.f3::il' a0.f14.f4.f0::il' a0.f14.f4.f1::.bool a0.f14.f4.f2::.bool a0.f14.f4.f3::.bool a0.f14.f4.f4::.bool a0.f14.f4.f5::.bool a0.f14.f4.f6::.bool a0.f14.f4.f7::.bool a0.f14.f4.f8::.bool a0.f14.f4.f9::[])) (xs:=([(S31.mk a0.f1 a0.f2 a0.f3 false z28'),a0.f14] : List S31)) (vs:=(c31' (S31.mk ((rd ([(S31.mk a0.f1 a0.f2 a0.f3 false z28'),a0.f14] : List S31) x56_31).f0) ((rd ([(S31.mk a0.f1 a0.f2 a0.f3 false z28'),a0.f14] : List S31) x56_31).f1) ((rd ([(S31.mk a0.f1 a0.f2 a0.f3 false z28'),a0.f14] : List S31) x56_31).f2) ((rd ([(S31.mk a0.f1 a0.f2 a0.f3 false z28'),a0.f14] : List S31) x56_31).f3) ((rd ([(S31.mk a0.f1 a0.f2 a0.f3 false z28'),a0.f14] : List S31) x56_31).f4)))) Tryz.underlying78 sz31 Tryz.underlying31 rfl rfl rfl (RL_enc enc31 (fun _ _=>rfl) (by kernel_rfl) _) rfl rfl g35 g36 (fun _ h_=>by rw [h_]; rfl)) ?_
   refine o' (al' fun b37=>?_)
   refine o' (su' b37 0 6 (c31' (S31.mk ((rd ([(S31.mk a0.f1 a0.f2 a0.f3 false z28'),a0.f14] : List S31) x56_31).f0) ((rd ([(S31.mk a0.f1 a0.f2 a0.f3 false z28'),a0.f14] : List S31) x56_31).f1) ((rd ([(S31.mk a0.f1 a0.f2 a0.f3 false z28'),a0.f14] : List S31) x56_31).f2) ((rd ([(S31.mk a0.f1 a0.f2 a0.f3 false z28'),a0.f14] : List S31) x56_31).f3) ((rd ([(S31.mk a0.f1 a0.f2 a0.f3 false z28'),a0.f14] : List S31) x56_31).f4))) ?_)
   refine nr' ?_
   refine s' (pt' b37) (fa' b37 0 0) ?_
   refine l' (ld' b37 0 6) ?_
   refine s' (.bool (decide (((rd ([(S31.mk a0.f1 a0.f2 a0.f3 false z28'),a0.f14] : List S31) x56_31).f0) < 0))) (V_lss rfl rfl) ?_
   refine s' (.bool (decide (((rd ([(S31.mk a0.f1 a0.f2 a0.f3 false z28'),a0.f14] : List S31) x56_31).f0) < 0))) mv' ?_
   obtain⟨q39,hq39,H⟩:=g_lt H
   refine cR' 6 [(1,pt' b5),(3,pt' b7),(5,pt' b37),(55,.agg (List.toArray (il' a0.f1::il' a0.f2::.bool a0.f3::.bool false::il' 0::il' 0::.bool false::.bool false::.bool false::.bool false::.bool false::.bool false::.bool false::.bool false::il' a0.f14.f0::il' a0.f14.f1::.bool a0.f14.f2::.bool a0.f14.f3::il' a0.f14.f4.f0::il' a0.f14.f4.f1::.bool a0.f14.f4.f2::.bool a0.f14.f4.f3::.bool a0.f14.f4.f4::.bool a0.f14.f4.f5::.bool a0.f14.f4.f6::.bool a0.f14.f4.f7::.bool a0.f14.f4.f8::.bool a0.f14.f4.f9::[]))),(56,il' x56_31),(68,.bool q39)] [Blk b5 34 (c34' a0 A0_0 c0_0 A0_1 c0_1 A0_2 c0_2 A0_3 c0_3),Ro k55 A0_0 c0_0 a0.f0.f2,rl' A0_1 c0_1 a0.f7,Ro k55 A0_2 c0_2 a0.f16.f2,rw' A0_3 c0_3 a0.f17,Blk b7 26 [il' a0.f0.f0,il' a0.f0.f1,.slice A0_0 a0.f0.f2.length c0_0],Blk b37 31 (c31' (S31.mk ((rd ([(S31.mk a0.f1 a0.f2 a0.f3 false z28'),a0.f14] : List S31) x56_31).f0) ((rd ([(S31.mk a0.f1 a0.f2 a0.f3 false z28'),a0.f14] : List S31) x56_31).f1) ((rd ([(S31.mk a0.f1 a0.f2 a0.f3 false z28'),a0.f14] : List S31) x56_31).f2) ((rd ([(S31.mk a0.f1 a0.f2 a0.f3 false z28'),a0.f14] : List S31) x56_31).f3) ((rd ([(S31.mk a0.f1 a0.f2 a0.f3 false z28'),a0.f14] : List S31) x56_31).f4)))] ?_ fun junk=>?_
   ·by_cases h40 : ((rd ([(S31.mk a0.f1 a0.f2 a0.f3 false z28'),a0.f14] : List S31) x56_31).f0) < 0
    ·refine no' 5 (dec_t h40) ?_
     refine pT' (dec_t h40) ?_
     refine RA_nil ?_
     exact at_normal (St.mk1 (aeq rfl (aeq rfl (aeq rfl (aeq rfl (aeq rfl (aeq (congrArg Value.bool (or_t hq39 (dec_t h40))) aeq0)))))) (gs' [0,1,2,3,4,5,6]))
    refine y' (dec_f h40) (pt' b37) (fa' b37 0 0) ?_
    refine z' (dec_f h40) (ld' b37 0 6) ?_
    refine y' (dec_f h40) (pa' b7 1) (fa' b7 0 1) ?_
    refine z' (dec_f h40) (ld' b7 1 5) ?_
    refine y' (dec_f h40) (.bool (decide (((rd ([(S31.mk a0.f1 a0.f2 a0.f3 false z28'),a0.f14] : List S31) x56_31).f0) ≥ a0.f0.f1))) (V_geq rfl rfl) ?_
    refine pF' (dec_f h40) ?_
    refine RA_nil ?_
    exact at_normal (St.mk1 (aeq rfl (aeq rfl (aeq rfl (aeq rfl (aeq rfl (aeq (congrArg Value.bool (or_f hq39 (dec_f h40))) aeq0)))))) (gs' [0,1,2,3,4,5,6]))
   refine s' (.bool q39) mv' ?_
   obtain⟨q42,hq42,H⟩:=g_lt H
   refine cR' 4 [(1,pt' b5),(3,pt' b7),(5,pt' b37),(55,.agg (List.toArray (il' a0.f1::il' a0.f2::.bool a0.f3::.bool false::il' 0::il' 0::.bool false::.bool false::.bool false::.bool false::.bool false::.bool false::.bool false::.bool false::il' a0.f14.f0::il' a0.f14.f1::.bool a0.f14.f2::.bool a0.f14.f3::il' a0.f14.f4.f0::il' a0.f14.f4.f1::.bool a0.f14.f4.f2::.bool a0.f14.f4.f3::.bool a0.f14.f4.f4::.bool a0.f14.f4.f5::.bool a0.f14.f4.f6::.bool a0.f14.f4.f7::.bool a0.f14.f4.f8::.bool a0.f14.f4.f9::[]))),(56,il' x56_31),(73,.bool q42)] [Blk b5 34 (c34' a0 A0_0 c0_0 A0_1 c0_1 A0_2 c0_2 A0_3 c0_3),Ro k55 A0_0 c0_0 a0.f0.f2,rl' A0_1 c0_1 a0.f7,Ro k55 A0_2 c0_2 a0.f16.f2,rw' A0_3 c0_3 a0.f17,Blk b7 26 [il' a0.f0.f0,il' a0.f0.f1,.slice A0_0 a0.f0.f2.length c0_0],Blk b37 31 (c31' (S31.mk ((rd ([(S31.mk a0.f1 a0.f2 a0.f3 false z28'),a0.f14] : List S31) x56_31).f0) ((rd ([(S31.mk a0.f1 a0.f2 a0.f3 false z28'),a0.f14] : List S31) x56_31).f1) ((rd ([(S31.mk a0.f1 a0.f2 a0.f3 false z28'),a0.f14] : List S31) x56_31).f2) ((rd ([(S31.mk a0.f1 a0.f2 a0.f3 false z28'),a0.f14] : List S31) x56_31).f3) ((rd ([(S31.mk a0.f1 a0.f2 a0.f3 false z28'),a0.f14] : List S31) x56_31).f4)))] ?_ fun junk=>?_
   ·by_cases h43 : q39 = true
    ·refine no' 3 h43 ?_
     refine pT' h43 ?_
     refine RA_nil ?_
     exact at_normal (St.mk1 (aeq rfl (aeq rfl (aeq rfl (aeq rfl (aeq rfl (aeq (congrArg Value.bool (or_t hq42 (h43))) aeq0)))))) (gs' [0,1,2,3,4,5,6]))
    refine y' (bno h43) (pa' b37 1) (fa' b37 0 1) ?_
    refine z' (bno h43) (ld' b37 1 6) ?_
    refine y' (bno h43) (.bool (decide (((rd ([(S31.mk a0.f1 a0.f2 a0.f3 false z28'),a0.f14] : List S31) x56_31).f1) < 0))) (V_lss rfl rfl) ?_
    refine pF' (bno h43) ?_
    refine RA_nil ?_
    exact at_normal (St.mk1 (aeq rfl (aeq rfl (aeq rfl (aeq rfl (aeq rfl (aeq (congrArg Value.bool (or_f hq42 (bno h43))) aeq0)))))) (gs' [0,1,2,3,4,5,6]))
   refine s' (.bool q42) mv' ?_
   obtain⟨q45,hq45,H⟩:=g_lt H
   refine cR' 6 [(1,pt' b5),(3,pt' b7),(5,pt' b37),(55,.agg (List.toArray (il' a0.f1::il' a0.f2::.bool a0.f3::.bool false::il' 0::il' 0::.bool false::.bool false::.bool false::.bool false::.bool false::.bool false::.bool false::.bool false::il' a0.f14.f0::il' a0.f14.f1::.bool a0.f14.f2::.bool a0.f14.f3::il' a0.f14.f4.f0::il' a0.f14.f4.f1::.bool a0.f14.f4.f2::.bool a0.f14.f4.f3::.bool a0.f14.f4.f4::.bool a0.f14.f4.f5::.bool a0.f14.f4.f6::.bool a0.f14.f4.f7::.bool a0.f14.f4.f8::.bool a0.f14.f4.f9::[]))),(56,il' x56_31),(80,.bool q45)] [Blk b5 34 (c34' a0 A0_0 c0_0 A0_1 c0_1 A0_2 c0_2 A0_3 c0_3),Ro k55 A0_0 c0_0 a0.f0.f2,rl' A0_1 c0_1 a0.f7,Ro k55 A0_2 c0_2 a0.f16.f2,rw' A0_3 c0_3 a0.f17,Blk b7 26 [il' a0.f0.f0,il' a0.f0.f1,.slice A0_0 a0.f0.f2.length c0_0],Blk b37 31 (c31' (S31.mk ((rd ([(S31.mk a0.f1 a0.f2 a0.f3 false z28'),a0.f14] : List S31) x56_31).f0) ((rd ([(S31.mk a0.f1 a0.f2 a0.f3 false z28'),a0.f14] : List S31) x56_31).f1) ((rd ([(S31.mk a0.f1 a0.f2 a0.f3 false z28'),a0.f14] : List S31) x56_31).f2) ((rd ([(S31.mk a0.f1 a0.f2 a0.f3 false z28'),a0.f14] : List S31) x56_31).f3) ((rd ([(S31.mk a0.f1 a0.f2 a0.f3 false z28'),a0.f14] : List S31) x56_31).f4)))] ?_ fun junk=>?_
   ·by_cases h46 : q42 = true
    ·refine no' 5 h46 ?_
     refine pT' h46 ?_
     refine RA_nil ?_
     exact at_normal (St.mk1 (aeq rfl (aeq rfl (aeq rfl (aeq rfl (aeq rfl (aeq (congrArg Value.bool (or_t hq45 (h46))) aeq0)))))) (gs' [0,1,2,3,4,5,6]))
    refine y' (bno h46) (pa' b37 1) (fa' b37 0 1) ?_
    refine z' (bno h46) (ld' b37 1 6) ?_
    refine y' (bno h46) (pt' b7) (fa' b7 0 0) ?_
    refine z' (bno h46) (ld' b7 0 5) ?_
    refine y' (bno h46) (.bool (decide (((rd ([(S31.mk a0.f1 a0.f2 a0.f3 false z28'),a0.f14] : List S31) x56_31).f1) ≥ a0.f0.f0))) (V_geq rfl rfl) ?_
    refine pF' (bno h46) ?_
    refine RA_nil ?_
    exact at_normal (St.mk1 (aeq rfl (aeq rfl (aeq rfl (aeq rfl (aeq rfl (aeq (congrArg Value.bool (or_f hq45 (bno h46))) aeq0)))))) (gs' [0,1,2,3,4,5,6]))
   refine s' (.bool q45) mv' ?_
   obtain⟨q48,H,Bq48⟩:=g_bind H
   refine RA_cut 11 (fun e ds As=>St [(1,pt' b5),(3,pt' b7),(55,.agg (List.toArray (il' a0.f1::il' a0.f2::.bool a0.f3::.bool false::il' 0::il' 0::.bool false::.bool false::.bool false::.bool false::.bool false::.bool false::.bool false::.bool false::il' a0.f14.f0::il' a0.f14.f1::.bool a0.f14.f2::.bool a0.f14.f3::il' a0.f14.f4.f0::il' a0.f14.f4.f1::.bool a0.f14.f4.f2::.bool a0.f14.f4.f3::.bool a0.f14.f4.f4::.bool a0.f14.f4.f5::.bool a0.f14.f4.f6::.bool a0.f14.f4.f7::.bool a0.f14.f4.f8::.bool a0.f14.f4.f9::[]))),(56,il' x56_31),(92,.bool q48)] [Blk b5 34 (c34' a0 A0_0 c0_0 A0_1 c0_1 A0_2 c0_2 A0_3 c0_3),Ro k55 A0_0 c0_0 a0.f0.f2,rl' A0_1 c0_1 a0.f7,Ro k55 A0_2 c0_2 a0.f16.f2,rw' A0_3 c0_3 a0.f17,Blk b7 26 [il' a0.f0.f0,il' a0.f0.f1,.slice A0_0 a0.f0.f2.length c0_0]] e ds As) ?_ ?_
   ·by_cases h49 : q45 = true
    ·replace H:=g_ift h49 H
     refine no' 3 h49 ?_
     refine nu' ?_
     refine nu' ?_
     refine nu' ?_
     refine nu' ?_
     refine nu' ?_
     refine nu' ?_
     refine no' 1 h49 ?_
     refine pT' h49 ?_
     have h_:=oi' H;subst h_
     exact rm' [0,1,2,3,4,5]
    replace H:=g_iff h49 H
    refine y' (bno h49) (pa' b37 2) (fa' b37 0 2) ?_
    refine z' (bno h49) (ld' b37 2 6) ?_
    refine y' (bno h49) (.bool ((rd ([(S31.mk a0.f1 a0.f2 a0.f3 false z28'),a0.f14] : List S31) x56_31).f2)) mv' ?_
    by_cases h50 : ((rd ([(S31.mk a0.f1 a0.f2 a0.f3 false z28'),a0.f14] : List S31) x56_31).f2) = true
    ·replace H:=g_ift h50 H
     refine y' h50 (pa' b37 1) (fa' b37 0 1) ?_
     refine z' h50 (ld' b37 1 6) ?_
     refine y' h50 (pt' b7) (fa' b7 0 0) ?_
     refine z' h50 (ld' b7 0 5) ?_
     refine y' h50 (il' (IntKind.i64.wrap (a0.f0.f0 - 1))) (V_sub rfl rfl) ?_
     refine y' h50 (.bool (decide (((rd ([(S31.mk a0.f1 a0.f2 a0.f3 false z28'),a0.f14] : List S31) x56_31).f1) ≠ (IntKind.i64.wrap (a0.f0.f0 - 1))))) (V_neq rfl rfl) ?_
     refine yo' (bno h49) (OA_v rfl (V_pickT rfl (h50) rfl) ?_)
     refine pF' (bno h49) ?_
     have h_:=oi' H;subst h_
     exact rm' [0,1,2,3,4,5]
    replace H:=g_iff h50 H
    refine no' 6 (bno h50) ?_
    refine yo' (bno h49) (OA_v rfl (V_pickF rfl (bno h50) rfl) ?_)
    refine pF' (bno h49) ?_
    have h_:=oi' H;subst h_
    exact rm' [0,1,2,3,4,5]
   rintro e ds As hst51
   clear H
   have H:=Bq48
   clear Bq48
   refine na' ?_
   refine SA.of_St hst51 fun junk=>?_
   by_cases h52 : q48 = true
   ·replace H:=g_ift h52 H
    refine SA_condTb rfl h52 ?_
    refine qr' ?_
    refine s' (.bool false) as' ?_
    refine nt' (inb_ret (thn_ret (thn_ret (inb_ret (thn_ret (thn_ret ?_))))))
    have h_:=oi' H;subst h_
    have hb_:=el_ret Bt30
    have hr_:=Option.some.inj hb_
    clear hb_
    subst hr_
    exact b1' [] ⟨rfl,rfl⟩
   replace H:=g_iff h52 H
   refine SA_condFb rfl h52 ?_
   refine SA_skip (inb_normal (at_normal (SA_region ?_)))
   refine s' (il' (IntKind.i64.wrap (x56_31 + 1))) (V_add rfl rfl) ?_
   refine s' (il' (IntKind.i64.wrap (x56_31 + 1))) mv' ?_
   refine RA_nil ?_
   exact at_normal ⟨k32,Nat.lt_succ_self _,_,H,sq' [0,1,2,3,4,5]⟩
  replace H:=g_iff h34 H
  refine SA_condF rfl h34 ?_
  refine SA_exit (thn_exit (thn_exit (inb_hit ?_)))
  have h_:=oi' H;subst h_
  exact at_normal ⟨(),rfl,sq' [0,1,2,3,4,5]⟩
 rintro e ds As ⟨s31,ht,hst53⟩
 clear H
 subst ht
 replace Bt30:=el_go Bt30
 have H:=Bt30
 clear Bt30
 refine at_normal ?_
 refine SA.of_St hst53 fun junk=>?_
 refine qr' ?_
 refine s' (il' (-1)) as' ?_
 refine nq' ?_
 refine s' (pa' b5 18) (fa' b5 0 18) ?_
 refine l' (ld' b5 18 0) ?_
 refine s' (il' (a0.f7.length : Int)) (V_len Tryz.underlying29 rfl) ?_
 refine s' (il' 0) mv' ?_
 refine na' ?_
 obtain⟨t54,H,Bt54⟩:=g_bind H
 refine SA_mid (fun e ds As=>∃ (s55 : Unit),t54 = Out.go s55∧St [(1,pt' b5),(3,pt' b7)] [Blk b5 34 (c34' a0 A0_0 c0_0 A0_1 c0_1 A0_2 c0_2 A0_3 c0_3),Ro k55 A0_0 c0_0 a0.f0.f2,rl' A0_1 c0_1 a0.f7,Ro k55 A0_2 c0_2 a0.f16.f2,rw' A0_3 c0_3 a0.f17,Blk b7 26 [il' a0.f0.f0,il' a0.f0.f1,.slice A0_0 a0.f0.f2.length c0_0]] e ds As) ?_ ?_
 ·refine SA_block ?_
  refine SA_loop (fun k_ e ds As=>∃ (x6_55 : Int) (x97_55 : Int),F16b0.l1 a0 k_ x6_55 x97_55 = some t54∧St [(1,pt' b5),(3,pt' b7),(6,il' x6_55),(95,.slice A0_1 a0.f7.length c0_1),(96,il' (a0.f7.length : Int)),(97,il' x97_55)] [Blk b5 34 (c34' a0 A0_0 c0_0 A0_1 c0_1 A0_2 c0_2 A0_3 c0_3),Ro k55 A0_0 c0_0 a0.f0.f2,rl' A0_1 c0_1 a0.f7,Ro k55 A0_2 c0_2 a0.f16.f2,rw' A0_3 c0_3 a0.f17,Blk b7 26 [il' a0.f0.f0,il' a0.f0.f1,.slice A0_0 a0.f0.f2.length c0_0]] e ds As) (k:=k) ⟨_,_,H,sq' [0,1,2,3,4,5]⟩ ?_
  clear H
  rintro k56 e ds As ⟨x6_55,x97_55,H,hst57⟩
  obtain _ | k56:=k56
  ·cases H
  rw [F16b0.l1] at H
  refine SA.of_St hst57 fun junk=>?_
  refine qr' ?_
  refine s' (.bool (decide (x97_55 < (a0.f7.length : Int)))) (V_lss rfl rfl) ?_
  refine na' (SA_seq ?_)
  by_cases h58 : x97_55 < (a0.f7.length : Int)
  ·replace H:=g_ift h58 H
   refine SA_condT rfl h58 ?_
   refine SA_skip (at_normal (SA_seq (SA_block (qr' ?_))))
   obtain⟨⟨g59,g60⟩,H⟩:=g_pos H
   refine l' (VR_index (i:=x97_55) Tryz.underlying29 sz3 rfl rfl (Src.ro (k:=2) rfl) g59 g60) ?_
   refine l' (VR_load_el (enc:=(fun x_ : Int=>[Value.int .i64 x_])) (i:=x97_55) (j:=x97_55.toNat * 1) (m:=0) (sz:=1) Tryz.underlying3 rfl rfl rfl rfl (Src.ro (k:=2) rfl) g59 g60 (fun _ _ h=>h) rfl) ?_
   obtain⟨n61,hn61,H⟩:=g_lt H
   refine s' (il' n61) (V_assign (v:=il' n61) (congrArg (Value.int .i64) hn61.symm)) ?_
   refine nq' ?_
   refine s' (il' n61) mv' ?_
   refine s' (il' x6_55) mv' ?_
   refine s' (.bool (decide (n61 ≤ x6_55))) (V_leq rfl rfl) ?_
   refine s' (.bool (decide (n61 ≤ x6_55))) mv' ?_
   obtain⟨q62,hq62,H⟩:=g_lt H
   refine RA_cut 5 (fun e ds As=>St [(1,pt' b5),(3,pt' b7),(8,il' n61),(95,.slice A0_1 a0.f7.length c0_1),(96,il' (a0.f7.length : Int)),(97,il' x97_55),(109,.bool q62)] [Blk b5 34 (c34' a0 A0_0 c0_0 A0_1 c0_1 A0_2 c0_2 A0_3 c0_3),Ro k55 A0_0 c0_0 a0.f0.f2,rl' A0_1 c0_1 a0.f7,Ro k55 A0_2 c0_2 a0.f16.f2,rw' A0_3 c0_3 a0.f17,Blk b7 26 [il' a0.f0.f0,il' a0.f0.f1,.slice A0_0 a0.f0.f2.length c0_0]] e ds As) ?_ ?_
   ·by_cases h63 : n61 ≤ x6_55
    ·refine no' 4 (dec_t h63) ?_
     refine pT' (dec_t h63) ?_
     refine RA_nil ?_
     exact at_normal (St.mk1 (aeq rfl (aeq rfl (aeq rfl (aeq rfl (aeq rfl (aeq rfl (aeq (congrArg Value.bool (or_t hq62 (dec_t h63))) aeq0))))))) (gs' [0,1,2,3,4,5]))
    refine y' (dec_f h63) (il' n61) mv' ?_
    refine y' (dec_f h63) (pt' b7) (fa' b7 0 0) ?_
    refine z' (dec_f h63) (ld' b7 0 5) ?_
    refine y' (dec_f h63) (.bool (decide (n61 ≥ a0.f0.f0))) (V_geq rfl rfl) ?_
    refine pF' (dec_f h63) ?_
    refine RA_nil ?_
    exact at_normal (St.mk1 (aeq rfl (aeq rfl (aeq rfl (aeq rfl (aeq rfl (aeq rfl (aeq (congrArg Value.bool (or_f hq62 (dec_f h63))) aeq0))))))) (gs' [0,1,2,3,4,5]))
   rintro e ds As hst64
   refine na' ?_
   refine SA.of_St hst64 fun junk=>?_
   by_cases h65 : q62 = true
   ·replace H:=g_ift h65 H
    refine SA_condTb rfl h65 ?_
    refine qr' ?_
    refine s' (.bool false) as' ?_
    refine ntt' (inb_ret (thn_ret (thn_ret (inb_ret (thn_ret (thn_ret ?_))))))
    have h_:=oi' H;subst h_
    have hb_:=el_ret Bt54
    have hr_:=Option.some.inj hb_
    clear hb_
    subst hr_
    exact b1' [] ⟨rfl,rfl⟩
   replace H:=g_iff h65 H
   refine SA_condFb rfl h65 ?_
   refine SA_skip (at_normal (SA_region ?_))
   refine s' (il' n61) mv' ?_
   refine s' (il' n61) as' ?_
   refine RA_nil (inb_normal (at_normal (SA_region ?_)))
   refine s' (il' (IntKind.i64.wrap (x97_55 + 1))) (V_add rfl rfl) ?_
   refine s' (il' (IntKind.i64.wrap (x97_55 + 1))) mv' ?_
   refine RA_nil ?_
   exact at_normal ⟨k56,Nat.lt_succ_self _,_,_,H,sq' [0,1,2,3,4,5]⟩
  replace H:=g_iff h58 H
  refine SA_condF rfl h58 ?_
  refine SA_exit (thn_exit (thn_exit (inb_hit ?_)))
  have h_:=oi' H;subst h_
  exact at_normal ⟨(),rfl,sq' [0,1,2,3,4,5]⟩
 rintro e ds As ⟨s55,ht,hst66⟩
 clear H
 subst ht
 replace Bt54:=el_go Bt54
 have H:=Bt54
 clear Bt54
 refine at_normal ?_
 refine SA.of_St hst66 fun junk=>?_
 refine SA_seq (qr' ?_)
 refine s' (pa' b5 39) (fa' b5 0 39) ?_
 refine l' (ld' b5 39 0) ?_
 refine s' (.bool a0.f15) mv' ?_
 obtain⟨q67,H,Bq67⟩:=g_bind H
 refine cR' 21 [(1,pt' b5),(135,.bool q67)] [Blk b5 34 (c34' a0 A0_0 c0_0 A0_1 c0_1 A0_2 c0_2 A0_3 c0_3),Ro k55 A0_0 c0_0 a0.f0.f2,rl' A0_1 c0_1 a0.f7,Ro k55 A0_2 c0_2 a0.f16.f2,rw' A0_3 c0_3 a0.f17] ?_ fun junk=>?_
 ·by_cases h68 : a0.f15 = true
  ·replace H:=g_ift h68 H
   refine y' h68 (pa' b5 40) (fa' b5 0 40) ?_
   refine z' h68 (lA' b5 40 0 [il' a0.f16.f0,il' a0.f16.f1,.slice A0_2 a0.f16.f2.length c0_2]) ?_
   obtain⟨r69,C72,H⟩:=g_bind H
   refine yo' h68 (ca' [3] [0,1,2,3,4,5] (xf' [.agg #[il' a0.f16.f0,il' a0.f16.f1,.slice A0_2 a0.f16.f2.length c0_2]]) (F57.ok (a0:=a0.f16) C72) ?_)
   rintro _ _⟨rfl,rfl⟩
   refine y' h68 (.bool (!r69)) (V_not rfl) ?_
   refine y' h68 (.bool (!r69)) mv' ?_
   by_cases h70 : (!r69) = true
   ·replace H:=g_ift h70 H
    refine no' 6 h70 ?_
    refine yo' h68 (OA_v rfl (V_pickT rfl (h70) rfl) ?_)
    refine y' h68 (.bool true) mv' ?_
    refine no' 6 rfl ?_
    refine yo' h68 (OA_v rfl (V_pickT rfl (rfl) rfl) ?_)
    refine pT' h68 ?_
    have h_:=oi' H;subst h_
    exact rm' [0,1,2,3,4]
   replace H:=g_iff h70 H
   refine y' (bno h70) (pa' b5 40) (fa' b5 0 40) ?_
   refine y' (bno h70) (pa' b5 40) (fa' b5 40 40) ?_
   refine z' (bno h70) (ld' b5 40 0) ?_
   refine y' (bno h70) (pt' b7) (fa' b7 0 0) ?_
   refine z' (bno h70) (ld' b7 0 5) ?_
   refine y' (bno h70) (.bool (decide (a0.f16.f0 ≠ a0.f0.f0))) (V_neq rfl rfl) ?_
   refine yo' h68 (OA_v rfl (V_pickF rfl (bno h70) rfl) ?_)
   refine y' h68 (.bool (decide (a0.f16.f0 ≠ a0.f0.f0))) mv' ?_
   by_cases h71 : a0.f16.f0 ≠ a0.f0.f0
   ·replace H:=g_ift h71 H
    refine no' 6 (dec_t h71) ?_
    refine yo' h68 (OA_v rfl (V_pickT rfl (dec_t h71) rfl) ?_)
    refine pT' h68 ?_
    have h_:=oi' H;subst h_
    exact rm' [0,1,2,3,4]
   replace H:=g_iff h71 H
   refine y' (dec_f h71) (pa' b5 40) (fa' b5 0 40) ?_
   refine y' (dec_f h71) (pa' b5 41) (fa' b5 40 41) ?_
   refine z' (dec_f h71) (ld' b5 41 0) ?_
   refine y' (dec_f h71) (pa' b7 1) (fa' b7 0 1) ?_
   refine z' (dec_f h71) (ld' b7 1 5) ?_
   refine y' (dec_f h71) (.bool (decide (a0.f16.f1 ≠ a0.f0.f1))) (V_neq rfl rfl) ?_
   refine yo' h68 (OA_v rfl (V_pickF rfl (dec_f h71) rfl) ?_)
   refine pT' h68 ?_
   have h_:=oi' H;subst h_
   exact rm' [0,1,2,3,4]
  replace H:=g_iff h68 H
  refine no' 5 (bno h68) ?_
  refine nu' ?_
  refine nu' ?_
  refine nu' ?_
  refine nu' ?_
  refine nu' ?_
  refine nu' ?_
  refine no' 2 (bno h68) ?_
  refine nu' ?_
  refine nu' ?_
  refine nu' ?_
  refine nu' ?_
  refine nu' ?_
  refine nu' ?_
  refine no' 1 (bno h68) ?_
  refine pF' (bno h68) ?_
  have h_:=oi' H;subst h_
  exact rm' [0,1,2,3,4]
 replace H:=Bq67
 refine s' (.bool q67) mv' ?_
 obtain⟨q74,H,Bq74⟩:=g_bind H
 refine RA_cut 11 (fun e ds As=>St [(1,pt' b5),(147,.bool q74)] [Blk b5 34 (c34' a0 A0_0 c0_0 A0_1 c0_1 A0_2 c0_2 A0_3 c0_3),Ro k55 A0_0 c0_0 a0.f0.f2,rl' A0_1 c0_1 a0.f7,Ro k55 A0_2 c0_2 a0.f16.f2,rw' A0_3 c0_3 a0.f17] e ds As) ?_ ?_
 ·by_cases h75 : q67 = true
  ·replace H:=g_ift h75 H
   refine no' 4 h75 ?_
   refine nu' ?_
   refine nu' ?_
   refine nu' ?_
   refine nu' ?_
   refine nu' ?_
   refine no' 1 h75 ?_
   refine pT' h75 ?_
   have h_:=oi' H;subst h_
   exact rm' [0,1,2,3,4]
  replace H:=g_iff h75 H
  refine y' (bno h75) (pa' b5 39) (fa' b5 0 39) ?_
  refine z' (bno h75) (ld' b5 39 0) ?_
  refine y' (bno h75) (.bool (!a0.f15)) (V_not rfl) ?_
  refine y' (bno h75) (.bool (!a0.f15)) mv' ?_
  by_cases h76 : (!a0.f15) = true
  ·replace H:=g_ift h76 H
   refine y' h76 (pa' b5 40) (fa' b5 0 40) ?_
   refine z' h76 (lA' b5 40 0 [il' a0.f16.f0,il' a0.f16.f1,.slice A0_2 a0.f16.f2.length c0_2]) ?_
   refine y' h76 (.agg #[il' 0,il' 0,.slice none 0 0]) bd' ?_
   obtain⟨r78,C79,H⟩:=g_bind H
   refine yo' h76 (OA.ghost (Gh.nilRo k55 none 0) (ca' [3,5] [0,1,2,3,4,5] (xf' [.agg #[il' a0.f16.f0,il' a0.f16.f1,.slice A0_2 a0.f16.f2.length c0_2],.agg #[il' 0,il' 0,.slice none 0 0]]) (F59.ok (a0:=a0.f16) (a1:=z26') C79) ?_))
   rintro _ _⟨rfl,rfl⟩
   refine y' h76 (.bool (!r78)) (V_not rfl) ?_
   refine yo' (bno h75) (OA_v rfl (V_pickT rfl (h76) rfl) ?_)
   refine pF' (bno h75) ?_
   have h_:=oi' H;subst h_
   exact rm' [0,1,2,3,4]
  replace H:=g_iff h76 H
  refine no' 5 (bno h76) ?_
  refine yo' (bno h75) (OA_v rfl (V_pickF rfl (bno h76) rfl) ?_)
  refine pF' (bno h75) ?_
  have h_:=oi' H;subst h_
  exact rm' [0,1,2,3,4]
 rintro e ds As hst80
 clear H
 have H:=Bq74
 clear Bq74
 refine na' ?_
 refine SA.of_St hst80 fun junk=>?_
 by_cases h81 : q74 = true
 ·replace H:=g_ift h81 H
  refine SA_condTb rfl h81 ?_
  refine qr' ?_
  refine s' (.bool false) as' ?_
  refine ntt' ?_
  have h_:=oi' H;subst h_
  exact b1' [] ⟨rfl,rfl⟩
 replace H:=g_iff h81 H
 refine SA_condFb rfl h81 ?_
 refine SA_skip (at_normal (qr' ?_))
 refine s' (pa' b5 43) (fa' b5 0 43) ?_
 refine l' (ld' b5 43 0) ?_
 refine s' (il' (a0.f17.length : Int)) (V_len Tryz.underlying32 rfl) ?_
 refine s' (.bool (decide ((a0.f17.length : Int) ≤ 256))) (V_leq rfl rfl) ?_
 refine s' (.bool (decide ((a0.f17.length : Int) ≤ 256))) mv' ?_
 obtain⟨q82,H,Bq82⟩:=g_bind H
 refine cR' 5 [(157,.bool q82)] [] ?_ fun junk=>?_
 ·by_cases h83 : (a0.f17.length : Int) ≤ 256
  ·replace H:=g_ift h83 H
   refine y' (dec_t h83) (pa' b5 43) (fa' b5 0 43) ?_
   refine z' (dec_t h83) (ld' b5 43 0) ?_
   obtain⟨r84,C85,H⟩:=g_bind H
   refine yo' (dec_t h83) (ca' [4] [0,1,2,3,4] (xf' [.slice A0_3 a0.f17.length c0_3,.func (.func 61) #[] #[]]) (SCA.unpk (pre0:=[rw' A0_3 c0_3 a0.f17]) (Bs:=[]) ((F60.ok (l0:=a0.f17) (A0:=A0_3) (c0:=c0_3) (g1:=(fun (x0_ : Int)=>F61.f x0_)) (fv1:=.func (.func 61) #[] #[]) (Fr1:=Pk []) (hg1:=(fun {x0_} {r_} C_=>FC.of (pre0:=[]) (Bs:=[]) (cap:=[]) Tryz.func61 nm61 rfl ((F61.ok (a0:=x0_) C_).mono (fun _ _ ⟨hv_,hB_⟩=>⟨_,⟨hv_,rfl⟩,hB_⟩)))) C85).mono (fun (v_ : Value) (B_ : List Asrt) ⟨hv_,hB_⟩=>(⟨[],⟨hv_,rfl⟩,hB_⟩ : ∃ B0_ : List Asrt,(v_ = (.bool r84 : Value)∧B0_ = [])∧B_ = B0_ ++ [Pk []])))) ?_)
   rintro _ _⟨_,⟨rfl,rfl⟩,rfl⟩
   refine y' (dec_t h83) (.bool (!r84)) (V_not rfl) ?_
   refine pT' (dec_t h83) ?_
   have h_:=oi' H;subst h_
   exact rm' []
  replace H:=g_iff h83 H
  refine no' 4 (dec_f h83) ?_
  refine pF' (dec_f h83) ?_
  have h_:=oi' H;subst h_
  exact rm' []
 replace H:=Bq82
 refine s' (.bool q82) as' ?_
 refine nt' ?_
 have h_:=oi' H;subst h_
 exact b1' [] ⟨rfl,rfl⟩


def F62f72x_1_.f (k : Nat) (a0 : S34) (p2000 : Int) : Option (S34 × Int):=(F16b0.f k a0).bind (fun r10=>if (!r10) = true then (some (((S34.mk (S26.mk 0 0 ([] : (List S55))) 0 0 false (S28.mk 0 0 false false false false false false false false) 0 0 ([] : (List Int)) false false false false false false (S31.mk 0 0 false false (S28.mk 0 0 false false false false false false false false)) false (S26.mk 0 0 ([] : (List S55))) ([] : (List Int))),2))) else ((F97.f a0).bind (fun r16=>(F72Lb_0_.f k r16 p2000).bind (fun r29=>some ((r29,0))))))
theorem F62f72x_1_.ok {a0 : S34} {p2000 : Int} {r : S34 × Int} (H : F62f72x_1_.f k a0 p2000 = some r) : SCA Tryz.prog 62 #[.agg (c34' a0 A0_0 c0_0 A0_1 c0_1 A0_2 c0_2 A0_3 c0_3).toArray,.func (.func 72) #[] #[.pointer (some ⟨b2000_,0,none⟩)]] [Ro k55 A0_0 c0_0 a0.f0.f2,rl' A0_1 c0_1 a0.f7,Ro k55 A0_2 c0_2 a0.f16.f2,rw' A0_3 c0_3 a0.f17,Blk b2000_ 21 [iw' p2000]] (fun v B=>∃ A0_0_ c0_0_ A0_1_ c0_1_ A0_2_ c0_2_ A0_3_ c0_3_,v = .tuple #[.agg (c34' r.1 A0_0_ c0_0_ A0_1_ c0_1_ A0_2_ c0_2_ A0_3_ c0_3_).toArray,il' r.2]∧B = [Buf k55 55 A0_0_ c0_0_ r.1.f0.f2,bl' 3 A0_1_ c0_1_ r.1.f7,Buf k55 55 A0_2_ c0_2_ r.1.f16.f2,bw' 21 A0_3_ c0_3_ r.1.f17,Blk b2000_ 21 [iw' p2000]]):=by
 refine SCA_of_body Tryz.func62 rfl rfl ?_
 unfold F62f72x_1_.f at H
 refine qr' ?_
 refine o' (bx' fun b6=>?_)
 refine o' (al' fun b8=>?_)
 refine s' (il' 0) as' ?_
 refine nq' ?_
 refine l' (lA' b6 0 5 (c34' a0 A0_0 c0_0 A0_1 c0_1 A0_2 c0_2 A0_3 c0_3)) ?_
 obtain⟨r10,C44,H⟩:=g_bind H
 refine o' (ca' [0,1,2,3] [0,1,2,3,4,5,6] (xf' [.agg (c34' a0 A0_0 c0_0 A0_1 c0_1 A0_2 c0_2 A0_3 c0_3).toArray]) (F16.ok (a0:=a0) C44) ?_)
 rintro _ _⟨rfl,rfl⟩
 refine s' (.bool (!r10)) (V_not rfl) ?_
 refine na' ?_
 by_cases h11 : (!r10) = true
 ·replace H:=g_ift h11 H
  refine SA_condTb rfl h11 ?_
  refine qr' ?_
  refine s' (.agg (c34' z34' none 0 none 0 none 0 none 0).toArray) bd' ?_
  refine o' (su' b8 0 6 (c34' z34' none 0 none 0 none 0 none 0) ?_)
  refine s' (il' 2) as' ?_
  refine ntt' ?_
  have h_:=oi' H;subst h_
  exact BQ_RL (rs:=[.cell 4 34,.tmp 5]) (vs:=[.agg (c34' z34' none 0 none 0 none 0 none 0).toArray,il' 2]) [Buf k55 55 none 0 ([] : (List S55)),bl' 3 none 0 ([] : (List Int)),Buf k55 55 none 0 ([] : (List S55)),bw' 21 none 0 ([] : (List Int)),Blk b2000_ 21 [iw' p2000]] rfl ⟨RV.cell (k:=6) rfl rfl Tryz.underlying34 rfl sz34,RV.tmp rfl,trivial⟩ rfl ((Gh.nilBuf k55 55).trans ((Gh.nilBuf (Kd.int .i64) 3).trans ((Gh.nilBuf k55 55).trans ((Gh.nilBuf (Kd.int .i32) 21).trans (gs' [7,8,9,10,4]))))) ⟨none,0,none,0,none,0,none,0,rfl,rfl⟩
 replace H:=g_iff h11 H
 refine SA_condFb rfl h11 ?_
 refine SA_skip (at_normal (qr' ?_))
 refine l' (lA' b6 0 5 (c34' a0 A0_0 c0_0 A0_1 c0_1 A0_2 c0_2 A0_3 c0_3)) ?_
 obtain⟨r16,C43,H⟩:=g_bind H
 refine o' (ca' [0,1,2,3] [0,1,2,3,4,5,6] (xf' [.agg (c34' a0 A0_0 c0_0 A0_1 c0_1 A0_2 c0_2 A0_3 c0_3).toArray]) (F97.ok (a0:=a0) C43) ?_)
 rintro _ _⟨A17,c18,A20,c21,A23,c24,A26,c27,rfl,rfl⟩
 refine o' (su' b6 0 9 (c34' r16 A17 c18 A20 c21 A23 c24 A26 c27) ?_)
 refine nr' ?_
 refine s' (.func (.func 72) #[] #[pt' b2000_]) mv' ?_
 refine s' (.agg #[pt' b6]) bd' ?_
 obtain⟨r29,C42,H⟩:=g_bind H
 refine o' (ca' [9,0,1,2,3,8] [4,5,6,7,10] (X_fnV (vs:=[.agg #[pt' b6]]) (cap:=[pt' b2000_]) rfl Tryz.func72 nm72 rfl rfl) (F72Lb_0_.ok (b0_:=b6) (p0:=r16) (b1_:=b2000_) (p1:=p2000) C42) ?_)
 rintro _ _⟨A30,c31,A33,c34,A36,c37,A39,c40,rfl,rfl⟩
 refine nr' ?_
 refine l' (lA' b6 0 0 (c34' r29 A30 c31 A33 c34 A36 c37 A39 c40)) ?_
 refine o' (su' b8 0 10 (c34' r29 A30 c31 A33 c34 A36 c37 A39 c40) ?_)
 refine s' (il' 0) as' ?_
 refine nt' ?_
 have h_:=oi' H;subst h_
 exact b2' [.cell 4 34,.tmp 5] [1,2,3,4,5] ⟨A30,c31,A33,c34,A36,c37,A39,c40,rfl,rfl⟩ ⟨RV.cell (k:=10) rfl rfl Tryz.underlying34 rfl sz34,RV.tmp rfl,trivial⟩


def F27.f (k : Nat) (a0 : S34) (a1 : Int) : Option (S34 × Int):=(F62f72x_1_.f k a0 a1).bind (fun r11=>some ((r11.1,r11.2)))
theorem F27.ok {a0 : S34} {a1 : Int} {r : S34 × Int} (H : F27.f k a0 a1 = some r) : SCA Tryz.prog 27 #[.agg (c34' a0 A0_0 c0_0 A0_1 c0_1 A0_2 c0_2 A0_3 c0_3).toArray,iw' a1] [Ro k55 A0_0 c0_0 a0.f0.f2,rl' A0_1 c0_1 a0.f7,Ro k55 A0_2 c0_2 a0.f16.f2,rw' A0_3 c0_3 a0.f17] (fun v B=>∃ A0_0_ c0_0_ A0_1_ c0_1_ A0_2_ c0_2_ A0_3_ c0_3_,v = .tuple #[.agg (c34' r.1 A0_0_ c0_0_ A0_1_ c0_1_ A0_2_ c0_2_ A0_3_ c0_3_).toArray,il' r.2]∧B = [Buf k55 55 A0_0_ c0_0_ r.1.f0.f2,bl' 3 A0_1_ c0_1_ r.1.f7,Buf k55 55 A0_2_ c0_2_ r.1.f16.f2,bw' 21 A0_3_ c0_3_ r.1.f17]):=by
 refine SCA_of_body Tryz.func27 rfl rfl ?_
 unfold F27.f at H
 refine qr' ?_
 refine o' (bx' fun b5=>?_)
 refine o' (bx' fun b7=>?_)
 refine o' (al' fun b9=>?_)
 refine s' (il' 0) as' ?_
 refine nr' ?_
 refine l' (lA' b5 0 4 (c34' a0 A0_0 c0_0 A0_1 c0_1 A0_2 c0_2 A0_3 c0_3)) ?_
 refine s' (.func (.func 72) #[] #[pt' b7]) (V_makeFuncL (us:=[pt' b7]) rfl) ?_
 obtain⟨r11,C24,H⟩:=g_bind H
 refine o' (ca' [0,1,2,3,5] [0,1,2,3,4,6] (xf' [.agg (c34' a0 A0_0 c0_0 A0_1 c0_1 A0_2 c0_2 A0_3 c0_3).toArray,.func (.func 72) #[] #[pt' b7]]) (F62f72x_1_.ok (a0:=a0) (b2000_:=b7) (p2000:=a1) C24) ?_)
 rintro _ _⟨A12,c13,A15,c16,A18,c19,A21,c22,rfl,rfl⟩
 refine s' (.agg (c34' r11.1 A12 c13 A15 c16 A18 c19 A21 c22).toArray) ex' ?_
 refine s' (il' r11.2) ex' ?_
 refine o' (su' b9 0 10 (c34' r11.1 A12 c13 A15 c16 A18 c19 A21 c22) ?_)
 refine s' (il' r11.2) as' ?_
 refine nt' ?_
 have h_:=oi' H;subst h_
 exact b2' [.cell 4 34,.tmp 5] [0,1,2,3] ⟨A12,c13,A15,c16,A18,c19,A21,c22,rfl,rfl⟩ ⟨RV.cell (k:=10) rfl rfl Tryz.underlying34 rfl sz34,RV.tmp rfl,trivial⟩


def F159.f (a0 : Int) : Option (Bool):=some (decide (a0 ≠ a0))
theorem F159.ok {a0 : Int} {r : Bool} (H : F159.f a0 = some r) : SCA Tryz.prog 159 #[il' a0] [] (fun v B=>v = .bool r∧B = []):=by
 refine SCA_of_body Tryz.func159 rfl rfl ?_
 unfold F159.f at H
 refine qr' ?_
 refine s' (.bool false) as' ?_
 refine nr' ?_
 refine s' (il' a0) mv' ?_
 refine s' (il' a0) mv' ?_
 refine s' (.bool (decide (a0 ≠ a0))) (V_neq rfl rfl) ?_
 refine s' (.bool (decide (a0 ≠ a0))) as' ?_
 refine nt' ?_
 have h_:=oi' H;subst h_
 exact b1' [] ⟨rfl,rfl⟩


def F153.f (a0 : Int) (a1 : Int) : Option (Bool):=(F159.f a0).bind (fun r1=>(if r1 = true then ((F159.f a1).bind (fun r4=>some (!r4))) else (some false) : Option Bool).bind (fun q2=>lt (q2 || (decide (a0 < a1))) fun q7=>some (q7)))
theorem F153.ok {a0 : Int} {a1 : Int} {r : Bool} (H : F153.f a0 a1 = some r) : SCA Tryz.prog 153 #[il' a0,il' a1] [] (fun v B=>v = .bool r∧B = []):=by
 refine SCA_of_body Tryz.func153 rfl rfl ?_
 unfold F153.f at H
 refine qr' ?_
 refine s' (.bool false) as' ?_
 refine nr' ?_
 refine s' (il' a0) mv' ?_
 obtain⟨r1,C10,H⟩:=g_bind H
 refine o' (ca' [] [] (xf' [il' a0]) (F159.ok (a0:=a0) C10) ?_)
 rintro _ _⟨rfl,rfl⟩
 refine s' (.bool r1) mv' ?_
 obtain⟨q2,H,Bq2⟩:=g_bind H
 refine cR' 4 [(0,il' a0),(1,il' a1),(11,.bool q2)] [] ?_ fun junk=>?_
 ·by_cases h3 : r1 = true
  ·replace H:=g_ift h3 H
   refine y' h3 (il' a1) mv' ?_
   obtain⟨r4,C5,H⟩:=g_bind H
   refine yo' h3 (ca' [] [] (xf' [il' a1]) (F159.ok (a0:=a1) C5) ?_)
   rintro _ _⟨rfl,rfl⟩
   refine y' h3 (.bool (!r4)) (V_not rfl) ?_
   refine pT' h3 ?_
   have h_:=oi' H;subst h_
   exact rm' []
  replace H:=g_iff h3 H
  refine no' 3 (bno h3) ?_
  refine pF' (bno h3) ?_
  have h_:=oi' H;subst h_
  exact rm' []
 replace H:=Bq2
 refine s' (.bool q2) mv' ?_
 obtain⟨q7,hq7,H⟩:=g_lt H
 refine cR' 4 [(16,.bool q7)] [] ?_ fun junk=>?_
 ·by_cases h8 : q2 = true
  ·refine no' 3 h8 ?_
   refine pT' h8 ?_
   refine RA_nil ?_
   exact at_normal (St.mk1 (aeq (congrArg Value.bool (or_t hq7 (h8))) aeq0) (gs' []))
  refine y' (bno h8) (il' a0) mv' ?_
  refine y' (bno h8) (il' a1) mv' ?_
  refine y' (bno h8) (.bool (decide (a0 < a1))) (V_lss rfl rfl) ?_
  refine pF' (bno h8) ?_
  refine RA_nil ?_
  exact at_normal (St.mk1 (aeq (congrArg Value.bool (or_f hq7 (bno h8))) aeq0) (gs' []))
 refine s' (.bool q7) as' ?_
 refine nt' ?_
 have h_:=oi' H;subst h_
 exact b1' [] ⟨rfl,rfl⟩


def F154.f (a0 : Int) : Option (Bool):=some (decide (a0 ≠ a0))
theorem F154.ok {a0 : Int} {r : Bool} (H : F154.f a0 = some r) : SCA Tryz.prog 154 #[il' a0] [] (fun v B=>v = .bool r∧B = []):=by
 refine SCA_of_body Tryz.func154 rfl rfl ?_
 unfold F154.f at H
 refine qr' ?_
 refine s' (.bool false) as' ?_
 refine nr' ?_
 refine s' (il' a0) mv' ?_
 refine s' (il' a0) mv' ?_
 refine s' (.bool (decide (a0 ≠ a0))) (V_neq rfl rfl) ?_
 refine s' (.bool (decide (a0 ≠ a0))) as' ?_
 refine nt' ?_
 have h_:=oi' H;subst h_
 exact b1' [] ⟨rfl,rfl⟩

end Go.Proofs.YtckilbegmbaeeaaGreat.Z5

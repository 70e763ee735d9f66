/- What functions compute, and that they do: 112, 114b0, 57b0. -/
import Derived.Test.YtckilbegmbaeeaaGreatZ40
import Derived.Test.YtckilbegmbaeeaaGreatZ41
import Derived.Test.YtckilbegmbaeeaaGreatZ42
namespace Go.Proofs.YtckilbegmbaeeaaGreat.Z4
open Go Go.RowKit Go.Proofs.YtckilbegmbaeeaaGreat.SL
set_option linter.unusedVariables false
set_option maxHeartbeats 20000000
set_option maxRecDepth 100000
set_option linter.unusedSimpArgs false
attribute [local irreducible] IntKind.wrap minI maxI shrI shlI andI orI xorI andNotI cplI rd sub bytesOf strOf slA
variable {c0_0 k : Nat}
variable {A0_0 : Option Addr}
def F112.l0 (a0 : S55) : Nat → Bool → Int → Option (Out (Bool) (Unit))
  | 0,_,_=>none
  | k + 1,x3_735,x36_735=>if x36_735 < 3 then (if 0 ≤ x36_735∧x36_735 < (3 : Int) then (lt (rd ([a0.f1.f0,a0.f1.f1,a0.f1.f2] : List Int) x36_735) fun n741=>if n741 = 0 then (F112.l0 a0 k true (IntKind.i64.wrap (x36_735 + 1))) else ((if x3_735 = true then (some true) else ((F117.f k n741).bind (fun r745=>some (decide (r745 ≠ 0)))) : Option Bool).bind (fun q743=>if q743 = true then (some (Out.ret (false))) else (F112.l0 a0 k x3_735 (IntKind.i64.wrap (x36_735 + 1)))))) else none) else (some (Out.go ()))
def F112.f (k : Nat) (a0 : S55) : Option (Bool):=(F58.f a0.f3).bind (fun r3=>if (!r3) = true then (some (false)) else (if a0.f2 = 0 then (lt ((decide (a0.f0 = 0)) && (decide (a0.f1 = (S53.mk 0 0 0)))) fun q6=>some (q6)) else ((if a0.f2 > 2 then (some true) else ((F117.f k a0.f0).bind (fun r370=>some (decide (r370 ≠ (IntKind.i64.wrap (a0.f2)))))) : Option (Bool)).bind (fun t9=>if t9 = true then (some (false)) else ((F112.l0 a0 k false 0 : Option (Out (Bool) (Unit))).bind (fun t734=>Out.el t734 (fun r_=>some r_) (fun s735=>some (true))))))))
theorem F112.ok {a0 : S55} {r : Bool} (H : F112.f k a0 = some r) : SCA Tryz.prog 112 #[.agg (c55' a0).toArray] [] (fun v B=>v = .bool r∧B = []):=by
 refine SCA_of_body Tryz.func112 rfl rfl ?_
 unfold F112.f at H
 refine qr' ?_
 refine o' (bx' fun b1=>?_)
 refine s' (.bool false) as' ?_
 refine nq' ?_
 refine s' (pa' b1 5) (fa' b1 0 5) ?_
 refine l' (lA' b1 5 0 (c28' a0.f3)) ?_
 obtain⟨r3,C750,H⟩:=g_bind H
 refine o' (ca' [] [0] (xf' [.agg (c28' a0.f3).toArray]) (F58.ok (a0:=a0.f3) C750) ?_)
 rintro _ _⟨rfl,rfl⟩
 refine s' (.bool (!r3)) (V_not rfl) ?_
 refine na' ?_
 by_cases h4 : (!r3) = true
 ·replace H:=g_ift h4 H
  refine SA_condTb rfl h4 ?_
  refine qr' ?_
  refine s' (.bool false) as' ?_
  refine ntt' ?_
  have h_:=oi' H;subst h_
  exact b1' [] ⟨rfl,rfl⟩
 replace H:=g_iff h4 H
 refine SA_condFb rfl h4 ?_
 refine SA_skip (at_normal (SA_seq (qr' ?_)))
 refine s' (pa' b1 4) (fa' b1 0 4) ?_
 refine l' (ld' b1 4 0) ?_
 refine s' (.bool (decide (a0.f2 = 0))) (V_eql rfl rfl) ?_
 refine na' ?_
 by_cases h5 : a0.f2 = 0
 ·replace H:=g_ift h5 H
  refine SA_condT rfl h5 ?_
  refine qr' ?_
  refine s' (pt' b1) (fa' b1 0 0) ?_
  refine l' (ld' b1 0 0) ?_
  refine s' (.bool (decide (a0.f0 = 0))) (V_eql rfl rfl) ?_
  refine s' (.bool (decide (a0.f0 = 0))) mv' ?_
  obtain⟨q6,hq6,H⟩:=g_lt H
  refine cR' 5 [(21,.bool q6)] [] ?_ fun junk=>?_
  ·by_cases h7 : a0.f0 = 0
   ·refine y' (dec_t h7) (pa' b1 1) (fa' b1 0 1) ?_
    refine z' (dec_t h7) (lA' b1 1 0 [iw' a0.f1.f0,iw' a0.f1.f1,iw' a0.f1.f2]) ?_
    refine y' (dec_t h7) (.agg #[iw' 0,iw' 0,iw' 0]) bA' ?_
    refine y' (dec_t h7) (.bool (decide (a0.f1 = (S53.mk 0 0 0)))) (V_eqlD (xs:=[iw' a0.f1.f0,iw' a0.f1.f1,iw' a0.f1.f2]) (ys:=[iw' 0,iw' 0,iw' 0]) (r:=((a0.f1.f0 == 0) && ((a0.f1.f1 == 0) && ((a0.f1.f2 == 0) && true)))) (p:=a0.f1 = (S53.mk 0 0 0)) eqg53 rfl rfl (by kernel_rfl) (eqv53 (x:=a0.f1) (y:=(S53.mk 0 0 0)))) ?_
    refine pT' (dec_t h7) ?_
    refine RA_nil ?_
    exact at_normal (St.mk1 (aeq (congrArg Value.bool (and_t hq6 (dec_t h7))) aeq0) (gs' []))
   refine no' 4 (dec_f h7) ?_
   refine pF' (dec_f h7) ?_
   refine RA_nil ?_
   exact at_normal (St.mk1 (aeq (congrArg Value.bool (and_f hq6 (dec_f h7))) aeq0) (gs' []))
  refine s' (.bool q6) as' ?_
  refine ntt' ?_
  have h_:=oi' H;subst h_
  exact b1' [] ⟨rfl,rfl⟩
 replace H:=g_iff h5 H
 refine SA_condF rfl h5 ?_
 refine SA_skip (at_normal (SA_seq (SA_seq ?_)))
 obtain⟨t9,H,Bt9⟩:=g_bind H
 refine SA_mid (fun e ds As=>St [(1,pt' b1),(33,.bool t9)] [Blk b1 55 (c55' a0)] e ds As) ?_ ?_
 ·refine SA_drawHq (rg' 0 12) #[[],[0],[0,1],[0,1,2],(rg' 0 4),(rg' 0 5),(rg' 0 6),(rg' 0 4),[0,1,2,3,7],[0,1,2,3,7,8],(rg' 0 10),(rg' 0 11)] [0] [] mixed rfl rfl rfl (PanOk.thn (PanOk.thn (PanOk.thn PanOk.body))) fun I0 hS h0 hh0 w0 sH dd pk=>?_
  refine t' (pa' b1 4) 0 rfl sH (fa' b1 0 4) ?_
  refine r' 1 rfl sH (ld' b1 4 0) ?_
  refine t' (.bool (decide (a0.f2 > 2))) 2 rfl sH (V_gtr rfl rfl) ?_
  refine t' (.bool (decide (a0.f2 > 2))) 3 rfl sH mv' ?_
  by_cases h731 : a0.f2 > 2
  ·replace H:=g_ift h731 H
   refine dn' 4 rfl (dec_t h731) ?_
   refine dn' 5 rfl (dec_t h731) ?_
   refine dn' 6 rfl (dec_t h731) ?_
   refine dn' 7 rfl (dec_t h731) ?_
   refine dn' 8 rfl (dec_t h731) ?_
   refine dn' 9 rfl (dec_t h731) ?_
   refine dn' 10 rfl (dec_t h731) ?_
   refine r' 11 rfl sH (VR.ofV (V_pickT rfl (dec_t h731) rfl)) ?_
   refine DH_open dd sH ?_
   refine DN_done (by kernel_rfl) ?_
   have h_:=oi' H;subst h_
   exact sm' [0]
  replace H:=g_iff h731 H
  refine ty' (pt' b1) 4 rfl (dec_f h731) sH (fa' b1 0 0) ?_
  refine ry' 5 rfl (dec_f h731) sH (ld' b1 0 0) ?_
  refine ty' (pa' b1 4) 7 rfl (dec_f h731) sH (fa' b1 0 4) ?_
  refine ry' 8 rfl (dec_f h731) sH (ld' b1 4 0) ?_
  refine ty' (il' (IntKind.i64.wrap (a0.f2))) 9 rfl (dec_f h731) sH (V_conv (T:=5) (by kernel_rfl) Tryz.underlying3 rfl) ?_
  obtain⟨r370,C371,H⟩:=g_bind H
  refine DH_one 6 dd (by kernel_rfl) rfl (.yes rfl rfl rfl rfl (dec_f h731)) (ca' [] [] (xf' [iw' a0.f0]) (F117.ok (a0:=a0.f0) C371) ?_)
  rintro _ _⟨rfl,rfl⟩
  refine ty' (.bool (decide (r370 ≠ (IntKind.i64.wrap (a0.f2))))) 10 rfl (dec_f h731) sH (V_neq rfl rfl) ?_
  refine r' 11 rfl sH (VR.ofV (V_pickF rfl (dec_f h731) rfl)) ?_
  refine DH_open dd sH ?_
  refine DN_done (by kernel_rfl) ?_
  have h_:=oi' H;subst h_
  exact sm' [0]
 rintro e ds As hst732
 clear H
 have H:=Bt9
 clear Bt9
 refine at_normal ?_
 refine SA.of_St hst732 fun junk=>?_
 by_cases h733 : t9 = true
 ·replace H:=g_ift h733 H
  refine SA_condTb rfl h733 ?_
  refine qr' ?_
  refine s' (.bool false) as' ?_
  refine ntt' ?_
  have h_:=oi' H;subst h_
  exact b1' [] ⟨rfl,rfl⟩
 replace H:=g_iff h733 H
 refine SA_condFb rfl h733 ?_
 refine SA_skip (at_normal (qr' ?_))
 refine s' (.bool false) as' ?_
 refine nq' ?_
 refine s' (pa' b1 1) (fa' b1 0 1) ?_
 refine l' (lA' b1 1 0 [iw' a0.f1.f0,iw' a0.f1.f1,iw' a0.f1.f2]) ?_
 refine s' (il' 0) mv' ?_
 refine na' ?_
 obtain⟨t734,H,Bt734⟩:=g_bind H
 refine SA_mid (fun e ds As=>∃ (s735 : Unit),t734 = Out.go s735∧St [] [] e ds As) ?_ ?_
 ·refine SA_block ?_
  refine SA_loop (fun k_ e ds As=>∃ (x3_735 : Bool) (x36_735 : Int),F112.l0 a0 k_ x3_735 x36_735 = some t734∧St [(3,.bool x3_735),(35,.agg #[iw' a0.f1.f0,iw' a0.f1.f1,iw' a0.f1.f2]),(36,il' x36_735)] [] e ds As) (k:=k) ⟨_,_,H,sq' []⟩ ?_
  clear H
  rintro k736 e ds As ⟨x3_735,x36_735,H,hst737⟩
  obtain _ | k736:=k736
  ·cases H
  rw [F112.l0] at H
  refine SA.of_St hst737 fun junk=>?_
  refine qr' ?_
  refine s' (.bool (decide (x36_735 < 3))) (V_lss rfl rfl) ?_
  refine na' (SA_seq ?_)
  by_cases h738 : x36_735 < 3
  ·replace H:=g_ift h738 H
   refine SA_condT rfl h738 ?_
   refine SA_skip (at_normal (SA_seq (SA_block (qr' ?_))))
   obtain⟨⟨g739,g740⟩,H⟩:=g_pos H
   refine s' (iw' (rd ([a0.f1.f0,a0.f1.f1,a0.f1.f2] : List Int) x36_735)) (V_indexV1 (kd:=(Kd.int .i32)) (i:=x36_735) (cs:=[iw' a0.f1.f0,iw' a0.f1.f1,iw' a0.f1.f2]) (xs:=([a0.f1.f0,a0.f1.f1,a0.f1.f2] : List Int)) (v:=iw' (rd ([a0.f1.f0,a0.f1.f1,a0.f1.f2] : List Int) x36_735)) Tryz.underlying53 sz21 Tryz.underlying21 rfl rfl rfl (RL_enc (fun x_ : Int=>[Value.int .i32 x_]) (fun _ _=>rfl) (by kernel_rfl) _) rfl rfl g739 g740 (fun _ h_=>by rw [h_]; rfl)) ?_
   obtain⟨n741,hn741,H⟩:=g_lt H
   refine s' (iw' n741) (V_assign (v:=iw' n741) (congrArg (Value.int .i32) hn741.symm)) ?_
   refine na' (SA_block (qr' ?_))
   refine s' (iw' n741) mv' ?_
   refine s' (.bool (decide (n741 = 0))) (V_eql rfl rfl) ?_
   refine s' (.bool (decide (n741 = 0))) as' ?_
   refine na' ?_
   by_cases h742 : n741 = 0
   ·replace H:=g_ift h742 H
    refine SA_condT rfl h742 ?_
    refine SA_region ?_
    refine s' (.bool true) as' ?_
    refine RA_nil (inb_normal (inb_normal (at_normal (SA_region ?_))))
    refine s' (il' (IntKind.i64.wrap (x36_735 + 1))) (V_add rfl rfl) ?_
    refine s' (il' (IntKind.i64.wrap (x36_735 + 1))) mv' ?_
    refine RA_nil ?_
    exact at_normal ⟨k736,Nat.lt_succ_self _,_,_,H,sq' []⟩
   replace H:=g_iff h742 H
   refine SA_condF rfl h742 ?_
   refine qr' ?_
   refine s' (.bool x3_735) mv' ?_
   refine s' (.bool x3_735) mv' ?_
   obtain⟨q743,H,Bq743⟩:=g_bind H
   refine cR' 4 [(3,.bool x3_735),(35,.agg #[iw' a0.f1.f0,iw' a0.f1.f1,iw' a0.f1.f2]),(36,il' x36_735),(48,.bool q743)] [] ?_ fun junk=>?_
   ·by_cases h744 : x3_735 = true
    ·replace H:=g_ift h744 H
     refine no' 3 h744 ?_
     refine pT' h744 ?_
     have h_:=oi' H;subst h_
     exact rm' []
    replace H:=g_iff h744 H
    refine y' (bno h744) (iw' n741) mv' ?_
    obtain⟨r745,C746,H⟩:=g_bind H
    refine yo' (bno h744) (ca' [] [] (xf' [iw' n741]) (F117.ok (a0:=n741) C746) ?_)
    rintro _ _⟨rfl,rfl⟩
    refine y' (bno h744) (.bool (decide (r745 ≠ 0))) (V_neq rfl rfl) ?_
    refine pF' (bno h744) ?_
    have h_:=oi' H;subst h_
    exact rm' []
   replace H:=Bq743
   refine s' (.bool q743) as' ?_
   refine na' ?_
   by_cases h748 : q743 = true
   ·replace H:=g_ift h748 H
    refine SA_condTb rfl h748 ?_
    refine qr' ?_
    refine s' (.bool false) as' ?_
    refine nt' (inb_ret (inb_ret (thn_ret (thn_ret (inb_ret (thn_ret (thn_ret ?_)))))))
    have h_:=oi' H;subst h_
    have hb_:=el_ret Bt734
    have hr_:=Option.some.inj hb_
    clear hb_
    subst hr_
    exact b1' [] ⟨rfl,rfl⟩
   replace H:=g_iff h748 H
   refine SA_condFb rfl h748 ?_
   refine SA_skip (inb_normal (inb_normal (at_normal (SA_region ?_))))
   refine s' (il' (IntKind.i64.wrap (x36_735 + 1))) (V_add rfl rfl) ?_
   refine s' (il' (IntKind.i64.wrap (x36_735 + 1))) mv' ?_
   refine RA_nil ?_
   exact at_normal ⟨k736,Nat.lt_succ_self _,_,_,H,sq' []⟩
  replace H:=g_iff h738 H
  refine SA_condF rfl h738 ?_
  refine SA_exit (thn_exit (thn_exit (inb_hit ?_)))
  have h_:=oi' H;subst h_
  exact at_normal ⟨(),rfl,sq' []⟩
 rintro e ds As ⟨s735,ht,hst749⟩
 clear H
 subst ht
 replace Bt734:=el_go Bt734
 have H:=Bt734
 clear Bt734
 refine at_normal ?_
 refine SA.of_St hst749 fun junk=>?_
 refine qr' ?_
 refine s' (.bool true) as' ?_
 refine nt' ?_
 have h_:=oi' H;subst h_
 exact b1' [] ⟨rfl,rfl⟩


def F57b0.l0 (a0 : S26) : Nat → S55 → Int → Option (Out (Bool) (S55))
  | 0,_,_=>none
  | k + 1,x3_13,x28_13=>if x28_13 < (a0.f2.length : Int) then (if 0 ≤ x28_13∧x28_13 < (a0.f2.length : Int) then (if a0.f0 ≠ 0 then (lt ((decide ((x28_13.tmod a0.f0) = 0)) && (decide (x3_13.f2 = 2))) fun q23=>if q23 = true then (some (Out.ret (false))) else (lt ((decide (((rd a0.f2 x28_13).f2) = 0)) && (decide (((rd a0.f2 x28_13).f3) = x3_13.f3))) fun q27=>(if q27 = true then (if a0.f0 ≠ 0 then (some (decide ((x28_13.tmod a0.f0) > 0))) else none) else (some false) : Option Bool).bind (fun q30=>(F112.f k (S55.mk ((rd a0.f2 x28_13).f0) ((rd a0.f2 x28_13).f1) ((rd a0.f2 x28_13).f2) ((rd a0.f2 x28_13).f3))).bind (fun r34=>lt ((!r34) || (decide ((decide (x3_13.f2 = 2)) ≠ q30))) fun q35=>(if q35 = true then (some true) else (if ((rd a0.f2 x28_13).f2) = 0 then (some (!q30)) else (some false)) : Option Bool).bind (fun q38=>if q38 = true then (some (Out.ret (false))) else (F57b0.l0 a0 k (S55.mk ((rd a0.f2 x28_13).f0) ((rd a0.f2 x28_13).f1) ((rd a0.f2 x28_13).f2) ((rd a0.f2 x28_13).f3)) (IntKind.i64.wrap (x28_13 + 1)))))))) else none) else none) else (some (Out.go x3_13))
def F57b0.f (k : Nat) (a0 : S26) : Option (Bool):=(F68.f a0.f0 a0.f1).bind (fun r4=>lt ((!r4) || (decide ((a0.f2.length : Int) ≠ (IntKind.i64.wrap (a0.f0 * a0.f1))))) fun q5=>if q5 = true then (some (false)) else ((F57b0.l0 a0 k (S55.mk 0 (S53.mk 0 0 0) 1 (S28.mk 0 0 false false false false false false false false)) 0 : Option (Out (Bool) (S55))).bind (fun t11=>Out.el t11 (fun r_=>some r_) (fun s12=>some (decide (s12.f2 ≠ 2))))))
theorem F57b0.ok {a0 : S26} {r : Bool} (H : F57b0.f k a0 = some r) : SCA Tryz.prog 57 #[.agg #[il' a0.f0,il' a0.f1,.slice A0_0 a0.f2.length c0_0]] [Buf k55 55 A0_0 c0_0 a0.f2] (fun v B=>v = .bool r∧B = [Buf k55 55 A0_0 c0_0 a0.f2]):=by
 refine SCA_of_body Tryz.func57 rfl rfl ?_
 unfold F57b0.f at H
 refine qr' ?_
 refine o' (bx' fun b2=>?_)
 refine s' (.bool false) as' ?_
 refine nq' ?_
 refine s' (pt' b2) (fa' b2 0 0) ?_
 refine l' (ld' b2 0 1) ?_
 refine s' (pa' b2 1) (fa' b2 0 1) ?_
 refine l' (ld' b2 1 1) ?_
 obtain⟨r4,C45,H⟩:=g_bind H
 refine o' (ca' [] [0,1] (xf' [il' a0.f0,il' a0.f1]) (F68.ok (a0:=a0.f0) (a1:=a0.f1) C45) ?_)
 rintro _ _⟨rfl,rfl⟩
 refine s' (.bool (!r4)) (V_not rfl) ?_
 refine s' (.bool (!r4)) mv' ?_
 obtain⟨q5,hq5,H⟩:=g_lt H
 refine RA_cut 10 (fun e ds As=>St [(1,pt' b2),(23,.bool q5)] [Buf k55 55 A0_0 c0_0 a0.f2,Blk b2 26 [il' a0.f0,il' a0.f1,.slice A0_0 a0.f2.length c0_0]] e ds As) ?_ ?_
 ·by_cases h6 : (!r4) = true
  ·refine no' 9 h6 ?_
   refine pT' h6 ?_
   refine RA_nil ?_
   exact at_normal (St.mk1 (aeq rfl (aeq (congrArg Value.bool (or_t hq5 (h6))) aeq0)) (gs' [0,1]))
  refine y' (bno h6) (pa' b2 2) (fa' b2 0 2) ?_
  refine z' (bno h6) (ld' b2 2 1) ?_
  refine y' (bno h6) (il' (a0.f2.length : Int)) (V_len Tryz.underlying24 rfl) ?_
  refine y' (bno h6) (pt' b2) (fa' b2 0 0) ?_
  refine z' (bno h6) (ld' b2 0 1) ?_
  refine y' (bno h6) (pa' b2 1) (fa' b2 0 1) ?_
  refine z' (bno h6) (ld' b2 1 1) ?_
  refine y' (bno h6) (il' (IntKind.i64.wrap (a0.f0 * a0.f1))) (V_mul rfl rfl) ?_
  refine y' (bno h6) (.bool (decide ((a0.f2.length : Int) ≠ (IntKind.i64.wrap (a0.f0 * a0.f1))))) (V_neq rfl rfl) ?_
  refine pF' (bno h6) ?_
  refine RA_nil ?_
  exact at_normal (St.mk1 (aeq rfl (aeq (congrArg Value.bool (or_f hq5 (bno h6))) aeq0)) (gs' [0,1]))
 rintro e ds As hst7
 refine na' ?_
 refine SA.of_St hst7 fun junk=>?_
 by_cases h8 : q5 = true
 ·replace H:=g_ift h8 H
  refine SA_condTb rfl h8 ?_
  refine qr' ?_
  refine s' (.bool false) as' ?_
  refine ntt' ?_
  have h_:=oi' H;subst h_
  exact b1' [0] ⟨rfl,rfl⟩
 replace H:=g_iff h8 H
 refine SA_condFb rfl h8 ?_
 refine SA_skip (at_normal (qr' ?_))
 refine s' (.agg (c55' (S55.mk 0 (S53.mk 0 0 0) 1 z28')).toArray) bd' ?_
 refine o' (al' fun b9=>?_)
 refine o' (su' b9 0 2 (c55' (S55.mk 0 (S53.mk 0 0 0) 1 z28')) ?_)
 refine nq' ?_
 refine s' (pa' b2 2) (fa' b2 0 2) ?_
 refine l' (ld' b2 2 1) ?_
 refine s' (il' (a0.f2.length : Int)) (V_len Tryz.underlying24 rfl) ?_
 refine s' (il' 0) mv' ?_
 refine na' ?_
 obtain⟨t11,H,Bt11⟩:=g_bind H
 refine SA_mid (fun e ds As=>∃ (s12 : S55),t11 = Out.go s12∧∃ (b13 : Nat),St [(3,pt' b13)] [Blk b13 55 (c55' s12),Buf k55 55 A0_0 c0_0 a0.f2] e ds As) ?_ ?_
 ·refine SA_block ?_
  refine SA_loop (fun k_ e ds As=>∃ (x3_13 : S55) (x28_13 : Int),∃ (b14 : Nat),F57b0.l0 a0 k_ x3_13 x28_13 = some t11∧St [(1,pt' b2),(3,pt' b14),(26,.slice A0_0 a0.f2.length c0_0),(27,il' (a0.f2.length : Int)),(28,il' x28_13)] [Buf k55 55 A0_0 c0_0 a0.f2,Blk b2 26 [il' a0.f0,il' a0.f1,.slice A0_0 a0.f2.length c0_0],Blk b14 55 (c55' x3_13)] e ds As) (k:=k) ⟨_,_,b9,H,sq' [0,1,2]⟩ ?_
  clear H
  rintro k15 e ds As ⟨x3_13,x28_13,b14,H,hst16⟩
  obtain _ | k15:=k15
  ·cases H
  rw [F57b0.l0] at H
  refine SA.of_St hst16 fun junk=>?_
  refine qr' ?_
  refine s' (.bool (decide (x28_13 < (a0.f2.length : Int)))) (V_lss rfl rfl) ?_
  refine na' (SA_seq ?_)
  by_cases h17 : x28_13 < (a0.f2.length : Int)
  ·replace H:=g_ift h17 H
   refine SA_condT rfl h17 ?_
   refine SA_skip (at_normal (SA_seq (SA_block (qr' ?_))))
   refine s' (il' x28_13) mv' ?_
   obtain⟨⟨g18,g19⟩,H⟩:=g_pos H
   refine l' (VR_index (i:=x28_13) Tryz.underlying24 sz55 rfl rfl (Src.buf (k:=0) rfl) g18 g19) ?_
   refine l' (VR_loadA_el (enc:=enc55) (i:=x28_13) (j:=x28_13.toNat * 15) (m:=0) (sz:=15) (vs:=(c55' (S55.mk ((rd a0.f2 x28_13).f0) ((rd a0.f2 x28_13).f1) ((rd a0.f2 x28_13).f2) ((rd a0.f2 x28_13).f3)))) Tryz.underlying55 rfl sz55 rfl rfl rfl (Src.buf (k:=0) rfl) g18 g19 (fun _ _ h=>h) rfl) ?_
   refine o' (al' fun b20=>?_)
   refine s' (il' x28_13) as' ?_
   refine o' (su' b20 0 3 (c55' (S55.mk ((rd a0.f2 x28_13).f0) ((rd a0.f2 x28_13).f1) ((rd a0.f2 x28_13).f2) ((rd a0.f2 x28_13).f3))) ?_)
   refine nq' ?_
   refine s' (il' x28_13) mv' ?_
   refine s' (pt' b2) (fa' b2 0 0) ?_
   refine l' (ld' b2 0 1) ?_
   obtain⟨g22,H⟩:=g_pos H
   refine s' (il' (x28_13.tmod a0.f0)) (V_rem rfl rfl g22) ?_
   refine s' (.bool (decide ((x28_13.tmod a0.f0) = 0))) (V_eql rfl rfl) ?_
   refine s' (.bool (decide ((x28_13.tmod a0.f0) = 0))) mv' ?_
   obtain⟨q23,hq23,H⟩:=g_lt H
   refine RA_cut 4 (fun e ds As=>St [(1,pt' b2),(3,pt' b14),(4,il' x28_13),(5,pt' b20),(26,.slice A0_0 a0.f2.length c0_0),(27,il' (a0.f2.length : Int)),(28,il' x28_13),(42,.bool q23)] [Buf k55 55 A0_0 c0_0 a0.f2,Blk b2 26 [il' a0.f0,il' a0.f1,.slice A0_0 a0.f2.length c0_0],Blk b14 55 (c55' x3_13),Blk b20 55 (c55' (S55.mk ((rd a0.f2 x28_13).f0) ((rd a0.f2 x28_13).f1) ((rd a0.f2 x28_13).f2) ((rd a0.f2 x28_13).f3)))] e ds As) ?_ ?_
   ·by_cases h24 : (x28_13.tmod a0.f0) = 0
    ·refine y' (dec_t h24) (pa' b14 4) (fa' b14 0 4) ?_
     refine z' (dec_t h24) (ld' b14 4 2) ?_
     refine y' (dec_t h24) (.bool (decide (x3_13.f2 = 2))) (V_eql rfl rfl) ?_
     refine pT' (dec_t h24) ?_
     refine RA_nil ?_
     exact at_normal (St.mk1 (aeq rfl (aeq rfl (aeq rfl (aeq rfl (aeq rfl (aeq rfl (aeq rfl (aeq (congrArg Value.bool (and_t hq23 (dec_t h24))) aeq0)))))))) (gs' [0,1,2,3]))
    refine no' 3 (dec_f h24) ?_
    refine pF' (dec_f h24) ?_
    refine RA_nil ?_
    exact at_normal (St.mk1 (aeq rfl (aeq rfl (aeq rfl (aeq rfl (aeq rfl (aeq rfl (aeq rfl (aeq (congrArg Value.bool (and_f hq23 (dec_f h24))) aeq0)))))))) (gs' [0,1,2,3]))
   rintro e ds As hst25
   refine na' ?_
   refine SA.of_St hst25 fun junk=>?_
   by_cases h26 : q23 = true
   ·replace H:=g_ift h26 H
    refine SA_condTb rfl h26 ?_
    refine qr' ?_
    refine s' (.bool false) as' ?_
    refine ntt' (inb_ret (thn_ret (thn_ret (inb_ret (thn_ret (thn_ret ?_))))))
    have h_:=oi' H;subst h_
    have hb_:=el_ret Bt11
    have hr_:=Option.some.inj hb_
    clear hb_
    subst hr_
    exact b1' [0] ⟨rfl,rfl⟩
   replace H:=g_iff h26 H
   refine SA_condFb rfl h26 ?_
   refine SA_skip (at_normal (qr' ?_))
   refine s' (pa' b20 4) (fa' b20 0 4) ?_
   refine l' (ld' b20 4 3) ?_
   refine s' (.bool (decide (((rd a0.f2 x28_13).f2) = 0))) (V_eql rfl rfl) ?_
   refine s' (.bool (decide (((rd a0.f2 x28_13).f2) = 0))) mv' ?_
   obtain⟨q27,hq27,H⟩:=g_lt H
   refine cR' 6 [(1,pt' b2),(3,pt' b14),(4,il' x28_13),(5,pt' b20),(26,.slice A0_0 a0.f2.length c0_0),(27,il' (a0.f2.length : Int)),(28,il' x28_13),(52,.bool q27)] [Buf k55 55 A0_0 c0_0 a0.f2,Blk b2 26 [il' a0.f0,il' a0.f1,.slice A0_0 a0.f2.length c0_0],Blk b14 55 (c55' x3_13),Blk b20 55 (c55' (S55.mk ((rd a0.f2 x28_13).f0) ((rd a0.f2 x28_13).f1) ((rd a0.f2 x28_13).f2) ((rd a0.f2 x28_13).f3)))] ?_ fun junk=>?_
   ·by_cases h28 : ((rd a0.f2 x28_13).f2) = 0
    ·refine y' (dec_t h28) (pa' b20 5) (fa' b20 0 5) ?_
     refine z' (dec_t h28) (lA' b20 5 3 (c28' ((rd a0.f2 x28_13).f3))) ?_
     refine y' (dec_t h28) (pa' b14 5) (fa' b14 0 5) ?_
     refine z' (dec_t h28) (lA' b14 5 2 (c28' x3_13.f3)) ?_
     refine y' (dec_t h28) (.bool (decide (((rd a0.f2 x28_13).f3) = x3_13.f3))) (V_eqlD (xs:=(c28' ((rd a0.f2 x28_13).f3))) (ys:=(c28' x3_13.f3)) (r:=(((((rd a0.f2 x28_13).f3).f0) == x3_13.f3.f0) && (((((rd a0.f2 x28_13).f3).f1) == x3_13.f3.f1) && (((((rd a0.f2 x28_13).f3).f2) == x3_13.f3.f2) && (((((rd a0.f2 x28_13).f3).f3) == x3_13.f3.f3) && (((((rd a0.f2 x28_13).f3).f4) == x3_13.f3.f4) && (((((rd a0.f2 x28_13).f3).f5) == x3_13.f3.f5) && (((((rd a0.f2 x28_13).f3).f6) == x3_13.f3.f6) && (((((rd a0.f2 x28_13).f3).f7) == x3_13.f3.f7) && (((((rd a0.f2 x28_13).f3).f8) == x3_13.f3.f8) && (((((rd a0.f2 x28_13).f3).f9) == x3_13.f3.f9) && true))))))))))) (p:=((rd a0.f2 x28_13).f3) = x3_13.f3) eqg28 rfl rfl (by kernel_rfl) (eqv28 (x:=((rd a0.f2 x28_13).f3)) (y:=x3_13.f3))) ?_
     refine pT' (dec_t h28) ?_
     refine RA_nil ?_
     exact at_normal (St.mk1 (aeq rfl (aeq rfl (aeq rfl (aeq rfl (aeq rfl (aeq rfl (aeq rfl (aeq (congrArg Value.bool (and_t hq27 (dec_t h28))) aeq0)))))))) (gs' [0,1,2,3]))
    refine no' 5 (dec_f h28) ?_
    refine pF' (dec_f h28) ?_
    refine RA_nil ?_
    exact at_normal (St.mk1 (aeq rfl (aeq rfl (aeq rfl (aeq rfl (aeq rfl (aeq rfl (aeq rfl (aeq (congrArg Value.bool (and_f hq27 (dec_f h28))) aeq0)))))))) (gs' [0,1,2,3]))
   refine s' (.bool q27) mv' ?_
   obtain⟨q30,H,Bq30⟩:=g_bind H
   refine cR' 6 [(1,pt' b2),(3,pt' b14),(5,pt' b20),(26,.slice A0_0 a0.f2.length c0_0),(27,il' (a0.f2.length : Int)),(28,il' x28_13),(59,.bool q30)] [Buf k55 55 A0_0 c0_0 a0.f2,Blk b2 26 [il' a0.f0,il' a0.f1,.slice A0_0 a0.f2.length c0_0],Blk b14 55 (c55' x3_13),Blk b20 55 (c55' (S55.mk ((rd a0.f2 x28_13).f0) ((rd a0.f2 x28_13).f1) ((rd a0.f2 x28_13).f2) ((rd a0.f2 x28_13).f3)))] ?_ fun junk=>?_
   ·by_cases h31 : q27 = true
    ·replace H:=g_ift h31 H
     refine y' h31 (il' x28_13) mv' ?_
     refine y' h31 (pt' b2) (fa' b2 0 0) ?_
     refine z' h31 (ld' b2 0 1) ?_
     obtain⟨g32,H⟩:=g_pos H
     refine y' h31 (il' (x28_13.tmod a0.f0)) (V_rem rfl rfl g32) ?_
     refine y' h31 (.bool (decide ((x28_13.tmod a0.f0) > 0))) (V_gtr rfl rfl) ?_
     refine pT' h31 ?_
     have h_:=oi' H;subst h_
     exact rm' [0,1,2,3]
    replace H:=g_iff h31 H
    refine no' 5 (bno h31) ?_
    refine pF' (bno h31) ?_
    have h_:=oi' H;subst h_
    exact rm' [0,1,2,3]
   replace H:=Bq30
   refine s' (.bool q30) as' ?_
   refine nq' ?_
   refine l' (lA' b20 0 3 (c55' (S55.mk ((rd a0.f2 x28_13).f0) ((rd a0.f2 x28_13).f1) ((rd a0.f2 x28_13).f2) ((rd a0.f2 x28_13).f3)))) ?_
   obtain⟨r34,C43,H⟩:=g_bind H
   refine o' (ca' [] [0,1,2,3] (xf' [.agg (c55' (S55.mk ((rd a0.f2 x28_13).f0) ((rd a0.f2 x28_13).f1) ((rd a0.f2 x28_13).f2) ((rd a0.f2 x28_13).f3))).toArray]) (F112.ok (a0:=(S55.mk ((rd a0.f2 x28_13).f0) ((rd a0.f2 x28_13).f1) ((rd a0.f2 x28_13).f2) ((rd a0.f2 x28_13).f3))) C43) ?_)
   rintro _ _⟨rfl,rfl⟩
   refine s' (.bool (!r34)) (V_not rfl) ?_
   refine s' (.bool (!r34)) mv' ?_
   obtain⟨q35,hq35,H⟩:=g_lt H
   refine cR' 6 [(1,pt' b2),(3,pt' b14),(5,pt' b20),(6,.bool q30),(26,.slice A0_0 a0.f2.length c0_0),(27,il' (a0.f2.length : Int)),(28,il' x28_13),(69,.bool q35)] [Buf k55 55 A0_0 c0_0 a0.f2,Blk b2 26 [il' a0.f0,il' a0.f1,.slice A0_0 a0.f2.length c0_0],Blk b14 55 (c55' x3_13),Blk b20 55 (c55' (S55.mk ((rd a0.f2 x28_13).f0) ((rd a0.f2 x28_13).f1) ((rd a0.f2 x28_13).f2) ((rd a0.f2 x28_13).f3)))] ?_ fun junk=>?_
   ·by_cases h36 : (!r34) = true
    ·refine no' 5 h36 ?_
     refine pT' h36 ?_
     refine RA_nil ?_
     exact at_normal (St.mk1 (aeq rfl (aeq rfl (aeq rfl (aeq rfl (aeq rfl (aeq rfl (aeq rfl (aeq (congrArg Value.bool (or_t hq35 (h36))) aeq0)))))))) (gs' [0,1,2,3]))
    refine y' (bno h36) (pa' b14 4) (fa' b14 0 4) ?_
    refine z' (bno h36) (ld' b14 4 2) ?_
    refine y' (bno h36) (.bool (decide (x3_13.f2 = 2))) (V_eql rfl rfl) ?_
    refine y' (bno h36) (.bool q30) mv' ?_
    refine y' (bno h36) (.bool (decide ((decide (x3_13.f2 = 2)) ≠ q30))) (V_neqB Tryz.underlying4 rfl rfl) ?_
    refine pF' (bno h36) ?_
    refine RA_nil ?_
    exact at_normal (St.mk1 (aeq rfl (aeq rfl (aeq rfl (aeq rfl (aeq rfl (aeq rfl (aeq rfl (aeq (congrArg Value.bool (or_f hq35 (bno h36))) aeq0)))))))) (gs' [0,1,2,3]))
   refine s' (.bool q35) mv' ?_
   obtain⟨q38,H,Bq38⟩:=g_bind H
   refine RA_cut 8 (fun e ds As=>St [(1,pt' b2),(3,pt' b14),(5,pt' b20),(26,.slice A0_0 a0.f2.length c0_0),(27,il' (a0.f2.length : Int)),(28,il' x28_13),(78,.bool q38)] [Buf k55 55 A0_0 c0_0 a0.f2,Blk b2 26 [il' a0.f0,il' a0.f1,.slice A0_0 a0.f2.length c0_0],Blk b14 55 (c55' x3_13),Blk b20 55 (c55' (S55.mk ((rd a0.f2 x28_13).f0) ((rd a0.f2 x28_13).f1) ((rd a0.f2 x28_13).f2) ((rd a0.f2 x28_13).f3)))] e ds As) ?_ ?_
   ·by_cases h39 : q35 = true
    ·replace H:=g_ift h39 H
     refine no' 4 h39 ?_
     refine nu' ?_
     refine nu' ?_
     refine no' 1 h39 ?_
     refine pT' h39 ?_
     have h_:=oi' H;subst h_
     exact rm' [0,1,2,3]
    replace H:=g_iff h39 H
    refine y' (bno h39) (pa' b20 4) (fa' b20 0 4) ?_
    refine z' (bno h39) (ld' b20 4 3) ?_
    refine y' (bno h39) (.bool (decide (((rd a0.f2 x28_13).f2) = 0))) (V_eql rfl rfl) ?_
    refine y' (bno h39) (.bool (decide (((rd a0.f2 x28_13).f2) = 0))) mv' ?_
    by_cases h40 : ((rd a0.f2 x28_13).f2) = 0
    ·replace H:=g_ift h40 H
     refine y' (dec_t h40) (.bool q30) mv' ?_
     refine y' (dec_t h40) (.bool (!q30)) (V_not rfl) ?_
     refine yo' (bno h39) (OA_v rfl (V_pickT rfl (dec_t h40) rfl) ?_)
     refine pF' (bno h39) ?_
     have h_:=oi' H;subst h_
     exact rm' [0,1,2,3]
    replace H:=g_iff h40 H
    refine no' 2 (dec_f h40) ?_
    refine yo' (bno h39) (OA_v rfl (V_pickF rfl (dec_f h40) rfl) ?_)
    refine pF' (bno h39) ?_
    have h_:=oi' H;subst h_
    exact rm' [0,1,2,3]
   rintro e ds As hst41
   clear H
   have H:=Bq38
   clear Bq38
   refine na' ?_
   refine SA.of_St hst41 fun junk=>?_
   by_cases h42 : q38 = true
   ·replace H:=g_ift h42 H
    refine SA_condTb rfl h42 ?_
    refine qr' ?_
    refine s' (.bool false) as' ?_
    refine ntt' (inb_ret (thn_ret (thn_ret (inb_ret (thn_ret (thn_ret ?_))))))
    have h_:=oi' H;subst h_
    have hb_:=el_ret Bt11
    have hr_:=Option.some.inj hb_
    clear hb_
    subst hr_
    exact b1' [0] ⟨rfl,rfl⟩
   replace H:=g_iff h42 H
   refine SA_condFb rfl h42 ?_
   refine SA_skip (at_normal (SA_region ?_))
   refine l' (lA' b20 0 3 (c55' (S55.mk ((rd a0.f2 x28_13).f0) ((rd a0.f2 x28_13).f1) ((rd a0.f2 x28_13).f2) ((rd a0.f2 x28_13).f3)))) ?_
   refine o' (su' b14 0 2 (c55' (S55.mk ((rd a0.f2 x28_13).f0) ((rd a0.f2 x28_13).f1) ((rd a0.f2 x28_13).f2) ((rd a0.f2 x28_13).f3))) ?_)
   refine RA_nil (inb_normal (at_normal (SA_region ?_)))
   refine s' (il' (IntKind.i64.wrap (x28_13 + 1))) (V_add rfl rfl) ?_
   refine s' (il' (IntKind.i64.wrap (x28_13 + 1))) mv' ?_
   refine RA_nil ?_
   exact at_normal ⟨k15,Nat.lt_succ_self _,_,_,b14,H,sq' [0,1,2]⟩
  replace H:=g_iff h17 H
  refine SA_condF rfl h17 ?_
  refine SA_exit (thn_exit (thn_exit (inb_hit ?_)))
  have h_:=oi' H;subst h_
  exact at_normal ⟨x3_13,rfl,b14,sq' [2,0]⟩
 rintro e ds As ⟨s12,ht,b13,hst44⟩
 clear H
 subst ht
 replace Bt11:=el_go Bt11
 have H:=Bt11
 clear Bt11
 refine at_normal ?_
 refine SA.of_St hst44 fun junk=>?_
 refine qr' ?_
 refine s' (pa' b13 4) (fa' b13 0 4) ?_
 refine l' (ld' b13 4 0) ?_
 refine s' (.bool (decide (s12.f2 ≠ 2))) (V_neq rfl rfl) ?_
 refine s' (.bool (decide (s12.f2 ≠ 2))) as' ?_
 refine nt' ?_
 have h_:=oi' H;subst h_
 exact b1' [1] ⟨rfl,rfl⟩


def F114b0.l0 (l0 : (List S55)) (l1 : (List S55)) : Nat → Int → Option (Out (Bool) (Unit))
  | 0,_=>none
  | k + 1,x13_5=>if x13_5 < (l0.length : Int) then (if 0 ≤ x13_5∧x13_5 < (l0.length : Int) then (if 0 ≤ x13_5∧x13_5 < (l1.length : Int) then (if (rd l0 x13_5) ≠ (rd l1 x13_5) then (some (Out.ret (false))) else (F114b0.l0 l0 l1 k (IntKind.i64.wrap (x13_5 + 1)))) else none) else none) else (some (Out.go ()))
def F114b0.f (k : Nat) (l0 : (List S55)) (l1 : (List S55)) : Option (Bool):=if (l0.length : Int) ≠ (l1.length : Int) then (some (false)) else ((F114b0.l0 l0 l1 k 0 : Option (Out (Bool) (Unit))).bind (fun t4=>Out.el t4 (fun r_=>some r_) (fun s5=>some (true))))
theorem F114b0.ok {l0 : (List S55)} {l1 : (List S55)} {A0 : Option Addr} {c0 : Nat} {A1 : Option Addr} {c1 : Nat} {r : Bool} (H : F114b0.f k l0 l1 = some r) : SCA Tryz.prog 114 #[.slice A0 l0.length c0,.slice A1 l1.length c1] [Buf k55 55 A0 c0 l0,Ro k55 A1 c1 l1] (fun v B=>v = .bool r∧B = [Buf k55 55 A0 c0 l0]):=by
 refine SCA_of_body Tryz.func114 rfl rfl ?_
 unfold F114b0.f at H
 refine qr' ?_
 refine s' (.bool false) as' ?_
 refine nq' ?_
 refine s' (.slice A0 l0.length c0) mv' ?_
 refine s' (il' (l0.length : Int)) (V_len Tryz.underlying24 rfl) ?_
 refine s' (.slice A1 l1.length c1) mv' ?_
 refine s' (il' (l1.length : Int)) (V_len Tryz.underlying24 rfl) ?_
 refine s' (.bool (decide ((l0.length : Int) ≠ (l1.length : Int)))) (V_neq rfl rfl) ?_
 refine na' ?_
 by_cases h3 : (l0.length : Int) ≠ (l1.length : Int)
 ·replace H:=g_ift h3 H
  refine SA_condT rfl h3 ?_
  refine qr' ?_
  refine s' (.bool false) as' ?_
  refine ntt' ?_
  have h_:=oi' H;subst h_
  exact b1' [0] ⟨rfl,rfl⟩
 replace H:=g_iff h3 H
 refine SA_condF rfl h3 ?_
 refine SA_skip (at_normal (SA_seq (qr' ?_)))
 refine s' (.slice A0 l0.length c0) mv' ?_
 refine s' (il' (l0.length : Int)) (V_len Tryz.underlying24 rfl) ?_
 refine s' (il' 0) mv' ?_
 refine na' ?_
 obtain⟨t4,H,Bt4⟩:=g_bind H
 refine SA_mid (fun e ds As=>∃ (s5 : Unit),t4 = Out.go s5∧St [] [Buf k55 55 A0 c0 l0] e ds As) ?_ ?_
 ·refine SA_block ?_
  refine SA_loop (fun k_ e ds As=>∃ (x13_5 : Int),F114b0.l0 l0 l1 k_ x13_5 = some t4∧St [(0,.slice A0 l0.length c0),(1,.slice A1 l1.length c1),(12,il' (l0.length : Int)),(13,il' x13_5)] [Buf k55 55 A0 c0 l0,Ro k55 A1 c1 l1] e ds As) (k:=k) ⟨_,H,sq' [0,1]⟩ ?_
  clear H
  rintro k6 e ds As ⟨x13_5,H,hst7⟩
  obtain _ | k6:=k6
  ·cases H
  rw [F114b0.l0] at H
  refine SA.of_St hst7 fun junk=>?_
  refine qr' ?_
  refine s' (.bool (decide (x13_5 < (l0.length : Int)))) (V_lss rfl rfl) ?_
  refine na' (SA_seq ?_)
  by_cases h8 : x13_5 < (l0.length : Int)
  ·replace H:=g_ift h8 H
   refine SA_condT rfl h8 ?_
   refine SA_skip (at_normal (SA_seq (SA_block (qr' ?_))))
   refine s' (il' x13_5) mv' ?_
   refine s' (il' x13_5) as' ?_
   refine na' (SA_seq ?_)
   refine SA_drawHq (rg' 0 9) #[[],[],[0,1],[0,1,2],[],[],[4,5],[4,5,6],(rg' 0 8)] [0,1] [1] mixed rfl rfl rfl (PanOk.thn (PanOk.inb (PanOk.thn (PanOk.thn (PanOk.inb (PanOk.thn (PanOk.thn PanOk.body))))))) fun I0 hS h0 hh0 w0 sH dd pk=>?_
   refine t' (.slice A0 l0.length c0) 0 rfl sH mv' ?_
   refine t' (il' x13_5) 1 rfl sH mv' ?_
   obtain⟨⟨g129,g130⟩,H⟩:=g_pos H
   refine r' 2 rfl sH (VR_index (i:=x13_5) Tryz.underlying24 sz55 rfl rfl (Src.buf (k:=0) rfl) g129 g130) ?_
   refine r' 3 rfl sH (VR_loadA_el (enc:=enc55) (i:=x13_5) (j:=x13_5.toNat * 15) (m:=0) (sz:=15) (vs:=(c55' (S55.mk ((rd l0 x13_5).f0) ((rd l0 x13_5).f1) ((rd l0 x13_5).f2) ((rd l0 x13_5).f3)))) Tryz.underlying55 rfl sz55 rfl rfl rfl (Src.buf (k:=0) rfl) g129 g130 (fun _ _ h=>h) rfl) ?_
   refine t' (.slice A1 l1.length c1) 4 rfl sH mv' ?_
   refine t' (il' x13_5) 5 rfl sH mv' ?_
   obtain⟨⟨g369,g370⟩,H⟩:=g_pos H
   refine r' 6 rfl sH (VR_index (i:=x13_5) Tryz.underlying24 sz55 rfl rfl (Src.ro (k:=1) rfl) g369 g370) ?_
   refine r' 7 rfl sH (VR_loadA_el (enc:=enc55) (i:=x13_5) (j:=x13_5.toNat * 15) (m:=0) (sz:=15) (vs:=(c55' (S55.mk ((rd l1 x13_5).f0) ((rd l1 x13_5).f1) ((rd l1 x13_5).f2) ((rd l1 x13_5).f3)))) Tryz.underlying55 rfl sz55 rfl rfl rfl (Src.ro (k:=1) rfl) g369 g370 (fun _ _ h=>h) rfl) ?_
   refine t' (.bool (decide ((rd l0 x13_5) ≠ (rd l1 x13_5)))) 8 rfl sH (V_neqD (xs:=(c55' (S55.mk ((rd l0 x13_5).f0) ((rd l0 x13_5).f1) ((rd l0 x13_5).f2) ((rd l0 x13_5).f3)))) (ys:=(c55' (S55.mk ((rd l1 x13_5).f0) ((rd l1 x13_5).f1) ((rd l1 x13_5).f2) ((rd l1 x13_5).f3)))) (r:=((((rd l0 x13_5).f0) == ((rd l1 x13_5).f0)) && ((((((rd l0 x13_5).f1).f0) == (((rd l1 x13_5).f1).f0)) && (((((rd l0 x13_5).f1).f1) == (((rd l1 x13_5).f1).f1)) && (((((rd l0 x13_5).f1).f2) == (((rd l1 x13_5).f1).f2)) && true))) && ((((rd l0 x13_5).f2) == ((rd l1 x13_5).f2)) && ((((((rd l0 x13_5).f3).f0) == (((rd l1 x13_5).f3).f0)) && (((((rd l0 x13_5).f3).f1) == (((rd l1 x13_5).f3).f1)) && (((((rd l0 x13_5).f3).f2) == (((rd l1 x13_5).f3).f2)) && (((((rd l0 x13_5).f3).f3) == (((rd l1 x13_5).f3).f3)) && (((((rd l0 x13_5).f3).f4) == (((rd l1 x13_5).f3).f4)) && (((((rd l0 x13_5).f3).f5) == (((rd l1 x13_5).f3).f5)) && (((((rd l0 x13_5).f3).f6) == (((rd l1 x13_5).f3).f6)) && (((((rd l0 x13_5).f3).f7) == (((rd l1 x13_5).f3).f7)) && (((((rd l0 x13_5).f3).f8) == (((rd l1 x13_5).f3).f8)) && (((((rd l0 x13_5).f3).f9) == (((rd l1 x13_5).f3).f9)) && true)))))))))) && true))))) (p:=(rd l0 x13_5) = (rd l1 x13_5)) eqg55 rfl rfl (by kernel_rfl) (eqv55 (x:=rd l0 x13_5) (y:=rd l1 x13_5))) ?_
   refine DH_open dd sH ?_
   refine DN_done (by kernel_rfl) ?_
   refine at_normal ?_
   by_cases h550 : (rd l0 x13_5) ≠ (rd l1 x13_5)
   ·replace H:=g_ift h550 H
    refine SA_condT rfl h550 ?_
    refine qr' ?_
    refine s' (.bool false) as' ?_
    refine nt' (inb_ret (thn_ret (thn_ret (inb_ret (thn_ret (thn_ret ?_))))))
    have h_:=oi' H;subst h_
    have hb_:=el_ret Bt4
    have hr_:=Option.some.inj hb_
    clear hb_
    subst hr_
    exact b1' [0] ⟨rfl,rfl⟩
   replace H:=g_iff h550 H
   refine SA_condF rfl h550 ?_
   refine SA_skip (inb_normal (at_normal (SA_region ?_)))
   refine s' (il' (IntKind.i64.wrap (x13_5 + 1))) (V_add rfl rfl) ?_
   refine s' (il' (IntKind.i64.wrap (x13_5 + 1))) mv' ?_
   refine RA_nil ?_
   exact at_normal ⟨k6,Nat.lt_succ_self _,_,H,sq' [0,1]⟩
  replace H:=g_iff h8 H
  refine SA_condF rfl h8 ?_
  refine SA_exit (thn_exit (thn_exit (inb_hit ?_)))
  have h_:=oi' H;subst h_
  exact at_normal ⟨(),rfl,sq' [0]⟩
 rintro e ds As ⟨s5,ht,hst551⟩
 clear H
 subst ht
 replace Bt4:=el_go Bt4
 have H:=Bt4
 clear Bt4
 refine at_normal ?_
 refine SA.of_St hst551 fun junk=>?_
 refine qr' ?_
 refine s' (.bool true) as' ?_
 refine nt' ?_
 have h_:=oi' H;subst h_
 exact b1' [0] ⟨rfl,rfl⟩

end Go.Proofs.YtckilbegmbaeeaaGreat.Z4

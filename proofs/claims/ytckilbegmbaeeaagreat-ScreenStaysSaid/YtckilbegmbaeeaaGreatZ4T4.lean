/- What a function computes, and that it does: 4. -/
import Derived.Test.YtckilbegmbaeeaaGreatZ40
import Derived.Test.YtckilbegmbaeeaaGreatZ45
import Derived.Test.YtckilbegmbaeeaaGreatZ411
import Derived.Test.YtckilbegmbaeeaaGreatZ424
import Derived.Test.YtckilbegmbaeeaaGreatZ427
import Derived.Test.YtckilbegmbaeeaaGreatZ428
import Derived.Test.YtckilbegmbaeeaaGreatZ430
namespace Go.Proofs.YtckilbegmbaeeaaGreat.Z4
open Go Go.RowKit Go.Proofs.YtckilbegmbaeeaaGreat.SL
set_option linter.unusedVariables false
set_option maxHeartbeats 20000000
set_option maxRecDepth 100000
set_option linter.unusedSimpArgs false
attribute [local irreducible] IntKind.wrap minI maxI shrI shlI andI orI xorI andNotI cplI rd sub bytesOf strOf slA
variable {c0_0 c0_1 c0_2 c0_3 k : Nat}
variable {A0_0 A0_1 A0_2 A0_3 : Option Addr}
def F4.l0 (l1 : (List S44)) : Nat → S34 → Int → Option (Out (Bool) (Unit))
  | 0,_,_=>none
  | k + 1,x2_18,x5_18=>if x5_18 < (l1.length : Int) then ((if 0 ≤ x5_18∧x5_18 < (l1.length : Int) then ((F12.f k x2_18 (rd l1 x5_18)).bind (fun r350=>some (r350.1,r350.2))) else none : Option (S34 × Int)).bind (fun t35=>if t35.2 ≠ 0 then (if 0 ≤ x5_18∧x5_18 < (l1.length : Int) then (if ((rd l1 x5_18).f0) < 13 then (some (Out.ret (false))) else (lt (IntKind.i64.wrap (x5_18 + 1)) fun n776=>F4.l0 l1 k x2_18 n776)) else none) else ((F15b0.f k t35.1).bind (fun r781=>(if (!r781) = true then (some true) else ((F16b0.f k t35.1).bind (fun r784=>some (!r784))) : Option Bool).bind (fun q782=>if q782 = true then (some (Out.ret (false))) else (lt (IntKind.i64.wrap (x5_18 + 1)) fun n788=>F4.l0 l1 k t35.1 n788)))))) else (some (Out.go ()))
def F4.f (k : Nat) (a0 : S34) (l1 : (List S44)) : Option (Bool):=(F15b0.f k a0).bind (fun r8=>if (!r8) = true then ((F14.f k ).bind (fun r10=>(if r10 = true then ((F16b0.f k a0).bind (fun r13=>some (!r13))) else (some false) : Option Bool).bind (fun q11=>some (q11)))) else ((F4.l0 l1 k a0 0 : Option (Out (Bool) (Unit))).bind (fun t17=>Out.el t17 (fun r_=>some r_) (fun s18=>(F14.f k ).bind (fun r791=>some (r791))))))
theorem F4.ok {a0 : S34} {l1 : (List S44)} {A1 : Option Addr} {c1 : Nat} {r : Bool} (H : F4.f k a0 l1 = some r) : SCA Tryz.prog 4 #[.agg (c34' a0 A0_0 c0_0 A0_1 c0_1 A0_2 c0_2 A0_3 c0_3).toArray,.slice A1 l1.length c1] [Ro k55 A0_0 c0_0 a0.f0.f2,rl' A0_1 c0_1 a0.f7,Ro k55 A0_2 c0_2 a0.f16.f2,rw' A0_3 c0_3 a0.f17,Ro k44 A1 c1 l1] (fun v B=>v = .bool r∧B = []):=by
 refine SCA_of_body Tryz.func4 rfl rfl ?_
 unfold F4.f at H
 refine qr' ?_
 refine o' (bx' fun b6=>?_)
 refine s' (.bool false) as' ?_
 refine nq' ?_
 refine l' (lA' b6 0 5 (c34' a0 A0_0 c0_0 A0_1 c0_1 A0_2 c0_2 A0_3 c0_3)) ?_
 obtain⟨r8,C793,H⟩:=g_bind H
 refine o' (ca' [0,1,2,3] [0,1,2,3,4,5] (xf' [.agg (c34' a0 A0_0 c0_0 A0_1 c0_1 A0_2 c0_2 A0_3 c0_3).toArray]) (F15.ok (a0:=a0) C793) ?_)
 rintro _ _⟨rfl,rfl⟩
 refine s' (.bool (!r8)) (V_not rfl) ?_
 refine na' ?_
 by_cases h9 : (!r8) = true
 ·replace H:=g_ift h9 H
  refine SA_condTb rfl h9 ?_
  refine qr' ?_
  obtain⟨r10,C16,H⟩:=g_bind H
  refine o' (ca' [] [0,1,2,3,4,5] (xf' []) (F14.ok C16) ?_)
  rintro _ _⟨rfl,rfl⟩
  refine s' (.bool r10) mv' ?_
  obtain⟨q11,H,Bq11⟩:=g_bind H
  refine cR' 4 [(16,.bool q11)] [] ?_ fun junk=>?_
  ·by_cases h12 : r10 = true
   ·replace H:=g_ift h12 H
    refine z' h12 (lA' b6 0 5 (c34' a0 A0_0 c0_0 A0_1 c0_1 A0_2 c0_2 A0_3 c0_3)) ?_
    obtain⟨r13,C14,H⟩:=g_bind H
    refine yo' h12 (ca' [0,1,2,3] [0,1,2,3,4,5] (xf' [.agg (c34' a0 A0_0 c0_0 A0_1 c0_1 A0_2 c0_2 A0_3 c0_3).toArray]) (F16.ok (a0:=a0) C14) ?_)
    rintro _ _⟨rfl,rfl⟩
    refine y' h12 (.bool (!r13)) (V_not rfl) ?_
    refine pT' h12 ?_
    have h_:=oi' H;subst h_
    exact rm' []
   replace H:=g_iff h12 H
   refine no' 3 (bno h12) ?_
   refine pF' (bno h12) ?_
   have h_:=oi' H;subst h_
   exact rm' []
  replace H:=Bq11
  refine s' (.bool q11) as' ?_
  refine ntt' ?_
  have h_:=oi' H;subst h_
  exact b1' [] ⟨rfl,rfl⟩
 replace H:=g_iff h9 H
 refine SA_condFb rfl h9 ?_
 refine SA_skip (at_normal (SA_seq (qr' ?_)))
 refine s' (il' 0) as' ?_
 refine na' ?_
 obtain⟨t17,H,Bt17⟩:=g_bind H
 refine SA_mid (fun e ds As=>∃ (s18 : Unit),t17 = Out.go s18∧St [] [] e ds As) ?_ ?_
 ·refine SA_block ?_
  refine SA_loop (fun k_ e ds As=>∃ (x2_18 : S34) (x5_18 : Int),∃ (b19 : Nat),∃ (A20 : Option Addr) (c21 : Nat),∃ (A23 : Option Addr) (c24 : Nat),∃ (A26 : Option Addr) (c27 : Nat),∃ (A29 : Option Addr) (c30 : Nat),F4.l0 l1 k_ x2_18 x5_18 = some t17∧St [(1,.slice A1 l1.length c1),(2,pt' b19),(5,il' x5_18)] [Ro k44 A1 c1 l1,Blk b19 34 (c34' x2_18 A20 c21 A23 c24 A26 c27 A29 c30),Ro k55 A20 c21 x2_18.f0.f2,rl' A23 c24 x2_18.f7,Ro k55 A26 c27 x2_18.f16.f2,rw' A29 c30 x2_18.f17] e ds As) (k:=k) ⟨_,_,b6,A0_0,c0_0,A0_1,c0_1,A0_2,c0_2,A0_3,c0_3,H,sq' [4,5,0,1,2,3]⟩ ?_
  clear H
  rintro k32 e ds As ⟨x2_18,x5_18,b19,A20,c21,A23,c24,A26,c27,A29,c30,H,hst33⟩
  obtain _ | k32:=k32
  ·cases H
  rw [F4.l0] at H
  refine SA.of_St hst33 fun junk=>?_
  refine SA_seq (qr' ?_)
  refine s' (il' x5_18) mv' ?_
  refine s' (.slice A1 l1.length c1) mv' ?_
  refine s' (il' (l1.length : Int)) (V_len Tryz.underlying23 rfl) ?_
  refine s' (.bool (decide (x5_18 < (l1.length : Int)))) (V_lss rfl rfl) ?_
  refine na' ?_
  by_cases h34 : x5_18 < (l1.length : Int)
  ·replace H:=g_ift h34 H
   refine SA_condT rfl h34 ?_
   refine SA_skip (at_normal (SA_seq (SA_block (SA_seq ?_))))
   obtain⟨t35,H,Bt35⟩:=g_bind H
   refine SA_mid (fun e ds As=>∃ (b36 : Nat),∃ (A38 : Option Addr) (c39 : Nat),∃ (A41 : Option Addr) (c42 : Nat),∃ (A44 : Option Addr) (c45 : Nat),∃ (A47 : Option Addr) (c48 : Nat),St [(1,.slice A1 l1.length c1),(2,pt' b19),(5,il' x5_18),(6,pt' b36),(7,il' t35.2)] [Blk b36 34 (c34' t35.1 A38 c39 A41 c42 A44 c45 A47 c48),Buf k55 55 A38 c39 t35.1.f0.f2,bl' 3 A41 c42 t35.1.f7,Buf k55 55 A44 c45 t35.1.f16.f2,bw' 21 A47 c48 t35.1.f17,Ro k44 A1 c1 l1,Blk b19 34 (c34' x2_18 A20 c21 A23 c24 A26 c27 A29 c30),Ro k55 A20 c21 x2_18.f0.f2,rl' A23 c24 x2_18.f7,Ro k55 A26 c27 x2_18.f16.f2,rw' A29 c30 x2_18.f17] e ds As) ?_ ?_
   ·refine SA_drawHq [0,1,2,3,4,6,7,8,11] #[[],[],[],[1,2],[1,2,3],(rg' 0 5),(rg' 0 5),[0,1,2,3,4,6],[0,1,2,3,4,6],[],[0,1,2,3,4,6,7],[0,1,2,3,4,6,7,8]] (rg' 0 6) [0,2,3,4,5] mixed rfl rfl rfl (PanOk.thn (PanOk.thn (PanOk.inb (PanOk.thn (PanOk.thn (PanOk.inb (PanOk.thn (PanOk.thn PanOk.body)))))))) fun I0 hS h0 hh0 w0 sH dd pk=>?_
    refine r' 0 rfl sH (lA' b19 0 1 (c34' x2_18 A20 c21 A23 c24 A26 c27 A29 c30)) ?_
    refine t' (.slice A1 l1.length c1) 1 rfl sH mv' ?_
    refine t' (il' x5_18) 2 rfl sH mv' ?_
    obtain⟨⟨g230,g231⟩,H⟩:=g_pos H
    refine r' 3 rfl sH (VR_index (i:=x5_18) Tryz.underlying23 sz44 rfl rfl (Src.ro (k:=0) rfl) g230 g231) ?_
    refine r' 4 rfl sH (VR_loadA_el (enc:=enc44) (i:=x5_18) (j:=x5_18.toNat * 4) (m:=0) (sz:=4) (vs:=[.int .u8 ((rd l1 x5_18).f0),il' ((rd l1 x5_18).f1),il' ((rd l1 x5_18).f2),.bool ((rd l1 x5_18).f3)]) Tryz.underlying44 rfl sz44 rfl rfl rfl (Src.ro (k:=0) rfl) g230 g231 (fun _ _ h=>h) rfl) ?_
    obtain⟨r350,C363,H⟩:=g_bind H
    refine DH_many (rs:=[5,9]) dd (by kernel_rfl) (by decide) (fal_cons ⟨_,rfl,(.no rfl),?_⟩ (fal_cons ⟨_,rfl,(.no rfl),?_⟩ fal_nil))
    ·refine id (ca' [1,2,3,4] [0,1,2,3,4] (xf' [.agg (c34' x2_18 A20 c21 A23 c24 A26 c27 A29 c30).toArray,.agg #[.int .u8 ((rd l1 x5_18).f0),il' ((rd l1 x5_18).f1),il' ((rd l1 x5_18).f2),.bool ((rd l1 x5_18).f3)]]) (F12.ok (a0:=x2_18) (a1:=rd l1 x5_18) C363) ?_)
     rintro _ _⟨A351,c352,A354,c355,A357,c358,A360,c361,rfl,rfl⟩
     refine t' (.tuple #[.agg (c34' r350.1 A351 c352 A354 c355 A357 c358 A360 c361).toArray,il' r350.2]) 6 rfl sH mv' ?_
     refine t' (.agg (c34' r350.1 A351 c352 A354 c355 A357 c358 A360 c361).toArray) 7 rfl sH ex' ?_
     refine t' (il' r350.2) 8 rfl sH ex' ?_
     refine DH_one 9 dd (by kernel_rfl) rfl (.no rfl) (OA_alloc rfl zero34 fun b590=>?_)
     refine DH_one 10 dd (by kernel_rfl) rfl (.no rfl) (su' b590 0 9 (c34' r350.1 A351 c352 A354 c355 A357 c358 A360 c361) ?_)
     refine t' (il' r350.2) 11 rfl sH as' ?_
     refine DH_open dd sH ?_
     refine DN_done (by kernel_rfl) ?_
     have h_:=oi' H;subst h_
     exact at_normal ⟨b590,A351,c352,A354,c355,A357,c358,A360,c361,sq' [15,6,7,8,9,0,1,2,3,4,5]⟩
    refine id (OA_alloc rfl zero34 fun b590=>?_)
    refine DH_one 5 dd (by kernel_rfl) rfl (.no rfl) (ca' [1,2,3,4] [0,1,2,3,4,5] (xf' [.agg (c34' x2_18 A20 c21 A23 c24 A26 c27 A29 c30).toArray,.agg #[.int .u8 ((rd l1 x5_18).f0),il' ((rd l1 x5_18).f1),il' ((rd l1 x5_18).f2),.bool ((rd l1 x5_18).f3)]]) (F12.ok (a0:=x2_18) (a1:=rd l1 x5_18) C363) ?_)
    rintro _ _⟨A351,c352,A354,c355,A357,c358,A360,c361,rfl,rfl⟩
    refine t' (.tuple #[.agg (c34' r350.1 A351 c352 A354 c355 A357 c358 A360 c361).toArray,il' r350.2]) 6 rfl sH mv' ?_
    refine t' (.agg (c34' r350.1 A351 c352 A354 c355 A357 c358 A360 c361).toArray) 7 rfl sH ex' ?_
    refine t' (il' r350.2) 8 rfl sH ex' ?_
    refine DH_one 10 dd (by kernel_rfl) rfl (.no rfl) (su' b590 0 9 (c34' r350.1 A351 c352 A354 c355 A357 c358 A360 c361) ?_)
    refine t' (il' r350.2) 11 rfl sH as' ?_
    refine DH_open dd sH ?_
    refine DN_done (by kernel_rfl) ?_
    have h_:=oi' H;subst h_
    exact at_normal ⟨b590,A351,c352,A354,c355,A357,c358,A360,c361,sq' [15,6,7,8,9,0,1,2,3,4,5]⟩
   rintro e ds As ⟨b36,A38,c39,A41,c42,A44,c45,A47,c48,hst771⟩
   clear H
   have H:=Bt35
   clear Bt35
   refine at_normal ?_
   refine SA.of_St hst771 fun junk=>?_
   refine SA_seq (qr' ?_)
   refine s' (il' t35.2) mv' ?_
   refine s' (.bool (decide (t35.2 ≠ 0))) (V_neq rfl rfl) ?_
   refine na' ?_
   by_cases h772 : t35.2 ≠ 0
   ·replace H:=g_ift h772 H
    refine SA_condT rfl h772 ?_
    refine SA_seq (qr' ?_)
    refine s' (.slice A1 l1.length c1) mv' ?_
    refine s' (il' x5_18) mv' ?_
    obtain⟨⟨g773,g774⟩,H⟩:=g_pos H
    refine l' (VR_index (i:=x5_18) Tryz.underlying23 sz44 rfl rfl (Src.ro (k:=5) rfl) g773 g774) ?_
    refine s' (.pointer (some ((el A1 (x5_18.toNat * 4)).add 0))) (fB' (el A1 (x5_18.toNat * 4)) 0 0) ?_
    refine l' (VR_load_el (enc:=enc44) (i:=x5_18) (j:=x5_18.toNat * 4) (m:=0) (sz:=4) Tryz.underlying5 rfl rfl rfl rfl (Src.ro (k:=5) rfl) g773 g774 (fun _ _ h=>h) rfl) ?_
    refine s' (.bool (decide (((rd l1 x5_18).f0) < 13))) (V_lss rfl rfl) ?_
    refine na' ?_
    by_cases h775 : ((rd l1 x5_18).f0) < 13
    ·replace H:=g_ift h775 H
     refine SA_condT rfl h775 ?_
     refine qr' ?_
     refine s' (.bool false) as' ?_
     refine ntt' (thn_ret (inb_ret (thn_ret (thn_ret (inb_ret (thn_ret (thn_ret ?_)))))))
     have h_:=oi' H;subst h_
     have hb_:=el_ret Bt17
     have hr_:=Option.some.inj hb_
     clear hb_
     subst hr_
     exact b1' [] ⟨rfl,rfl⟩
    replace H:=g_iff h775 H
    refine SA_condF rfl h775 ?_
    refine SA_skip (at_normal (SA_exit (thn_exit (inb_hit (at_normal (SA_region ?_))))))
    refine s' (il' x5_18) mv' ?_
    refine s' (il' (IntKind.i64.wrap (x5_18 + 1))) (V_add rfl rfl) ?_
    obtain⟨n776,hn776,H⟩:=g_lt H
    refine s' (il' n776) (V_assign (v:=il' n776) (congrArg (Value.int .i64) hn776.symm)) ?_
    refine RA_nil ?_
    exact at_normal ⟨k32,Nat.lt_succ_self _,_,_,b19,A20,c21,A23,c24,A26,c27,A29,c30,H,sq' [5,6,7,8,9,10]⟩
   replace H:=g_iff h772 H
   refine SA_condF rfl h772 ?_
   refine SA_skip (at_normal (SA_seq (SA_seq ?_)))
   refine fc' 1 fun hc777=>?_
   refine fc' 2 fun hc778=>?_
   refine fc' 3 fun hc779=>?_
   refine fc' 4 fun hc780=>?_
   refine SA_region ?_
   refine l' (lA' b36 0 0 (c34' t35.1 A38 c39 A41 c42 A44 c45 A47 c48)) ?_
   obtain⟨r781,C789,H⟩:=g_bind H
   refine o' (ca' [1,2,3,4] [0,5,6,7,8,9,10] (xf' [.agg (c34' t35.1 A38 c39 A41 c42 A44 c45 A47 c48).toArray]) (F15b0.ok (a0:=t35.1) C789) ?_)
   rintro _ _⟨rfl,rfl⟩
   refine s' (.bool (!r781)) (V_not rfl) ?_
   refine s' (.bool (!r781)) mv' ?_
   obtain⟨q782,H,Bq782⟩:=g_bind H
   refine RA_cut 4 (fun e ds As=>St [(1,.slice A1 l1.length c1),(2,pt' b19),(5,il' x5_18),(6,pt' b36),(47,.bool q782)] [Ro k44 A1 c1 l1,Blk b19 34 (c34' x2_18 A20 c21 A23 c24 A26 c27 A29 c30),Ro k55 A20 c21 x2_18.f0.f2,rl' A23 c24 x2_18.f7,Ro k55 A26 c27 x2_18.f16.f2,rw' A29 c30 x2_18.f17,Blk b36 34 (c34' t35.1 A38 c39 A41 c42 A44 c45 A47 c48),Buf k55 55 A38 c39 t35.1.f0.f2,bl' 3 A41 c42 t35.1.f7,Buf k55 55 A44 c45 t35.1.f16.f2,bw' 21 A47 c48 t35.1.f17] e ds As) ?_ ?_
   ·by_cases h783 : (!r781) = true
    ·replace H:=g_ift h783 H
     refine no' 3 h783 ?_
     refine pT' h783 ?_
     have h_:=oi' H;subst h_
     exact rm' [5,6,7,8,9,10,4,0,1,2,3]
    replace H:=g_iff h783 H
    refine z' (bno h783) (lA' b36 0 4 (c34' t35.1 A38 c39 A41 c42 A44 c45 A47 c48)) ?_
    obtain⟨r784,C785,H⟩:=g_bind H
    refine yo' (bno h783) (ca' [0,1,2,3] [4,5,6,7,8,9,10] (xf' [.agg (c34' t35.1 A38 c39 A41 c42 A44 c45 A47 c48).toArray]) (F16b0.ok (a0:=t35.1) C785) ?_)
    rintro _ _⟨rfl,rfl⟩
    refine y' (bno h783) (.bool (!r784)) (V_not rfl) ?_
    refine pF' (bno h783) ?_
    have h_:=oi' H;subst h_
    exact rm' [5,6,7,8,9,10,4,0,1,2,3]
   rintro e ds As hst786
   clear H
   have H:=Bq782
   clear Bq782
   refine na' ?_
   refine SA.of_St hst786 fun junk=>?_
   by_cases h787 : q782 = true
   ·replace H:=g_ift h787 H
    refine SA_condTb rfl h787 ?_
    refine qr' ?_
    refine s' (.bool false) as' ?_
    refine ntt' (inb_ret (thn_ret (thn_ret (inb_ret (thn_ret (thn_ret ?_))))))
    have h_:=oi' H;subst h_
    have hb_:=el_ret Bt17
    have hr_:=Option.some.inj hb_
    clear hb_
    subst hr_
    exact b1' [] ⟨rfl,rfl⟩
   replace H:=g_iff h787 H
   refine SA_condFb rfl h787 ?_
   refine SA_skip (at_normal (SA_region ?_))
   refine l' (lA' b36 0 6 (c34' t35.1 A38 c39 A41 c42 A44 c45 A47 c48)) ?_
   refine o' (su' b19 0 1 (c34' t35.1 A38 c39 A41 c42 A44 c45 A47 c48) ?_)
   refine RA_nil (inb_normal (at_normal (SA_region ?_)))
   refine s' (il' x5_18) mv' ?_
   refine s' (il' (IntKind.i64.wrap (x5_18 + 1))) (V_add rfl rfl) ?_
   obtain⟨n788,hn788,H⟩:=g_lt H
   refine s' (il' n788) (V_assign (v:=il' n788) (congrArg (Value.int .i64) hn788.symm)) ?_
   refine RA_nil ?_
   exact at_normal ⟨k32,Nat.lt_succ_self _,_,_,b19,A38,c39,A41,c42,A44,c45,A47,c48,H,St.mk1 (aeq rfl (aeq rfl (aeq rfl aeq0))) ((Gh.freeze (k:=7) rfl).trans ((Gh.freeze (k:=8) rfl).trans ((Gh.freeze (k:=9) rfl).trans ((Gh.freeze (k:=10) rfl).trans (gs' [0,1,7,8,9,10])))))⟩
  replace H:=g_iff h34 H
  refine SA_condF rfl h34 ?_
  refine SA_exit (thn_exit (thn_exit (inb_hit ?_)))
  have h_:=oi' H;subst h_
  exact at_normal ⟨(),rfl,sq' []⟩
 rintro e ds As ⟨s18,ht,hst790⟩
 clear H
 subst ht
 replace Bt17:=el_go Bt17
 have H:=Bt17
 clear Bt17
 refine at_normal ?_
 refine SA.of_St hst790 fun junk=>?_
 refine qr' ?_
 obtain⟨r791,C792,H⟩:=g_bind H
 refine o' (ca' [] [] (xf' []) (F14.ok C792) ?_)
 rintro _ _⟨rfl,rfl⟩
 refine s' (.bool r791) as' ?_
 refine nt' ?_
 have h_:=oi' H;subst h_
 exact b1' [] ⟨rfl,rfl⟩

end Go.Proofs.YtckilbegmbaeeaaGreat.Z4

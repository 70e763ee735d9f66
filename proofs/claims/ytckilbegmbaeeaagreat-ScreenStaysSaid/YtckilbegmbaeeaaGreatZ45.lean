/- What functions compute, and that they do: 16b0. -/
import Derived.Test.YtckilbegmbaeeaaGreatZ40
import Derived.Test.YtckilbegmbaeeaaGreatZ41
import Derived.Test.YtckilbegmbaeeaaGreatZ43
import Derived.Test.YtckilbegmbaeeaaGreatZ44
namespace Go.Proofs.YtckilbegmbaeeaaGreat.Z4
open Go Go.RowKit Go.Proofs.YtckilbegmbaeeaaGreat.SL
set_option linter.unusedVariables false
set_option maxHeartbeats 20000000
set_option maxRecDepth 100000
set_option linter.unusedSimpArgs false
attribute [local irreducible] IntKind.wrap minI maxI shrI shlI andI orI xorI andNotI cplI rd sub bytesOf strOf slA
variable {c0_0 c0_1 c0_2 c0_3 k : Nat}
variable {A0_0 A0_1 A0_2 A0_3 : Option Addr}
def F16b0.l1 (a0 : S34) : Nat → Int → Int → Option (Out (Bool) (Unit))
  | 0,_,_=>none
  | k + 1,x6_59,x97_59=>if x97_59 < (a0.f7.length : Int) then (if 0 ≤ x97_59∧x97_59 < (a0.f7.length : Int) then (lt (rd a0.f7 x97_59) fun n65=>lt ((decide (n65 ≤ x6_59)) || (decide (n65 ≥ a0.f0.f0))) fun q66=>if q66 = true then (some (Out.ret (false))) else (F16b0.l1 a0 k n65 (IntKind.i64.wrap (x97_59 + 1)))) else none) else (some (Out.go ()))
def F16b0.l0 (a0 : S34) : Nat → Int → Option (Out (Bool) (Unit))
  | 0,_=>none
  | k + 1,x56_35=>if x56_35 < 2 then (if 0 ≤ x56_35∧x56_35 < (2 : Int) then (lt ((decide (((rd ([(S31.mk a0.f1 a0.f2 a0.f3 false (S28.mk 0 0 false false false false false false false false)),a0.f14] : List S31) x56_35).f0) < 0)) || (decide (((rd ([(S31.mk a0.f1 a0.f2 a0.f3 false (S28.mk 0 0 false false false false false false false false)),a0.f14] : List S31) x56_35).f0) ≥ a0.f0.f1))) fun q43=>lt (q43 || (decide (((rd ([(S31.mk a0.f1 a0.f2 a0.f3 false (S28.mk 0 0 false false false false false false false false)),a0.f14] : List S31) x56_35).f1) < 0))) fun q46=>lt (q46 || (decide (((rd ([(S31.mk a0.f1 a0.f2 a0.f3 false (S28.mk 0 0 false false false false false false false false)),a0.f14] : List S31) x56_35).f1) ≥ a0.f0.f0))) fun q49=>(if q49 = true then (some true) else (if ((rd ([(S31.mk a0.f1 a0.f2 a0.f3 false (S28.mk 0 0 false false false false false false false false)),a0.f14] : List S31) x56_35).f2) = true then (some (decide (((rd ([(S31.mk a0.f1 a0.f2 a0.f3 false (S28.mk 0 0 false false false false false false false false)),a0.f14] : List S31) x56_35).f1) ≠ (IntKind.i64.wrap (a0.f0.f0 - 1))))) else (some false)) : Option Bool).bind (fun q52=>if q52 = true then (some (Out.ret (false))) else (F16b0.l0 a0 k (IntKind.i64.wrap (x56_35 + 1))))) else none) else (some (Out.go ()))
def F16b0.f (k : Nat) (a0 : S34) : Option (Bool):=(F57b0.f k a0.f0).bind (fun r13=>(if (!r13) = true then (some true) else ((F58.f a0.f4).bind (fun r16=>some (!r16))) : Option Bool).bind (fun q14=>(if q14 = true then (some true) else ((F58.f a0.f14.f4).bind (fun r21=>some (!r21))) : Option Bool).bind (fun q19=>lt (q19 || (decide (a0.f5 < 0))) fun q24=>lt (q24 || (decide (a0.f5 > a0.f6))) fun q27=>lt (q27 || (decide (a0.f6 ≥ a0.f0.f1))) fun q30=>if q30 = true then (some (false)) else ((F16b0.l0 a0 k 0 : Option (Out (Bool) (Unit))).bind (fun t34=>Out.el t34 (fun r_=>some r_) (fun s35=>(F16b0.l1 a0 k (-1) 0 : Option (Out (Bool) (Unit))).bind (fun t58=>Out.el t58 (fun r_=>some r_) (fun s59=>(if a0.f15 = true then ((F57b0.f k a0.f16).bind (fun r73=>if (!r73) = true then (some true) else (if a0.f16.f0 ≠ a0.f0.f0 then (some true) else (some (decide (a0.f16.f1 ≠ a0.f0.f1)))))) else (some false) : Option Bool).bind (fun q71=>(if q71 = true then (some true) else (if (!a0.f15) = true then ((F59b0.f k a0.f16 (S26.mk 0 0 ([] : (List S55)))).bind (fun r82=>some (!r82))) else (some false)) : Option Bool).bind (fun q78=>if q78 = true then (some (false)) else ((if (a0.f17.length : Int) ≤ 256 then ((F60b0.f k a0.f17 (fun (x0_ : Int)=>F61.f x0_)).bind (fun r88=>some (!r88))) else (some false) : Option Bool).bind (fun q86=>some (q86)))))))))))))
theorem F16b0.ok {a0 : S34} {r : Bool} (H : F16b0.f k a0 = some r) : SCA Tryz.prog 16 #[.agg (c34' a0 A0_0 c0_0 A0_1 c0_1 A0_2 c0_2 A0_3 c0_3).toArray] [Buf k55 55 A0_0 c0_0 a0.f0.f2,bl' 3 A0_1 c0_1 a0.f7,Buf k55 55 A0_2 c0_2 a0.f16.f2,bw' 21 A0_3 c0_3 a0.f17] (fun v B=>v = .bool r∧B = [Buf k55 55 A0_0 c0_0 a0.f0.f2,bl' 3 A0_1 c0_1 a0.f7,Buf k55 55 A0_2 c0_2 a0.f16.f2,bw' 21 A0_3 c0_3 a0.f17]):=by
 refine SCA_of_body Tryz.func16 rfl rfl ?_
 unfold F16b0.f at H
 refine qr' ?_
 refine o' (bx' fun b5=>?_)
 refine s' (.bool false) as' ?_
 refine nr' ?_
 refine s' (pt' b5) (fa' b5 0 0) ?_
 refine l' (lA' b5 0 4 [il' a0.f0.f0,il' a0.f0.f1,.slice A0_0 a0.f0.f2.length c0_0]) ?_
 refine o' (al' fun b7=>?_)
 refine o' (su' b7 0 5 [il' a0.f0.f0,il' a0.f0.f1,.slice A0_0 a0.f0.f2.length c0_0] ?_)
 refine na' (SA_seq (SA_seq ?_))
 refine fc' 0 fun hc9=>?_
 refine fc' 1 fun hc10=>?_
 refine fc' 2 fun hc11=>?_
 refine fc' 3 fun hc12=>?_
 refine SA_region ?_
 refine l' (lA' b7 0 5 [il' a0.f0.f0,il' a0.f0.f1,.slice A0_0 a0.f0.f2.length c0_0]) ?_
 obtain⟨r13,C91,H⟩:=g_bind H
 refine o' (ca' [0] [1,2,3,4,5] (xf' [.agg #[il' a0.f0.f0,il' a0.f0.f1,.slice A0_0 a0.f0.f2.length c0_0]]) (F57b0.ok (a0:=a0.f0) C91) ?_)
 rintro _ _⟨rfl,rfl⟩
 refine s' (.bool (!r13)) (V_not rfl) ?_
 refine s' (.bool (!r13)) mv' ?_
 obtain⟨q14,H,Bq14⟩:=g_bind H
 refine cR' 5 [(1,pt' b5),(3,pt' b7),(19,.bool q14)] [Buf k55 55 A0_0 c0_0 a0.f0.f2,bl' 3 A0_1 c0_1 a0.f7,Buf k55 55 A0_2 c0_2 a0.f16.f2,bw' 21 A0_3 c0_3 a0.f17,Blk b5 34 (c34' a0 A0_0 c0_0 A0_1 c0_1 A0_2 c0_2 A0_3 c0_3),Blk b7 26 [il' a0.f0.f0,il' a0.f0.f1,.slice A0_0 a0.f0.f2.length c0_0]] ?_ fun junk=>?_
 ·by_cases h15 : (!r13) = true
  ·replace H:=g_ift h15 H
   refine no' 4 h15 ?_
   refine pT' h15 ?_
   have h_:=oi' H;subst h_
   exact rm' [0,1,2,3,4,5]
  replace H:=g_iff h15 H
  refine y' (bno h15) (pa' b5 6) (fa' b5 0 6) ?_
  refine z' (bno h15) (lA' b5 6 4 (c28' a0.f4)) ?_
  obtain⟨r16,C17,H⟩:=g_bind H
  refine yo' (bno h15) (ca' [] [0,1,2,3,4,5] (xf' [.agg (c28' a0.f4).toArray]) (F58.ok (a0:=a0.f4) C17) ?_)
  rintro _ _⟨rfl,rfl⟩
  refine y' (bno h15) (.bool (!r16)) (V_not rfl) ?_
  refine pF' (bno h15) ?_
  have h_:=oi' H;subst h_
  exact rm' [0,1,2,3,4,5]
 replace H:=Bq14
 refine s' (.bool q14) mv' ?_
 obtain⟨q19,H,Bq19⟩:=g_bind H
 refine cR' 6 [(1,pt' b5),(3,pt' b7),(26,.bool q19)] [Buf k55 55 A0_0 c0_0 a0.f0.f2,bl' 3 A0_1 c0_1 a0.f7,Buf k55 55 A0_2 c0_2 a0.f16.f2,bw' 21 A0_3 c0_3 a0.f17,Blk b5 34 (c34' a0 A0_0 c0_0 A0_1 c0_1 A0_2 c0_2 A0_3 c0_3),Blk b7 26 [il' a0.f0.f0,il' a0.f0.f1,.slice A0_0 a0.f0.f2.length c0_0]] ?_ fun junk=>?_
 ·by_cases h20 : q14 = true
  ·replace H:=g_ift h20 H
   refine no' 5 h20 ?_
   refine pT' h20 ?_
   have h_:=oi' H;subst h_
   exact rm' [0,1,2,3,4,5]
  replace H:=g_iff h20 H
  refine y' (bno h20) (pa' b5 25) (fa' b5 0 25) ?_
  refine y' (bno h20) (pa' b5 29) (fa' b5 25 29) ?_
  refine z' (bno h20) (lA' b5 29 4 (c28' a0.f14.f4)) ?_
  obtain⟨r21,C22,H⟩:=g_bind H
  refine yo' (bno h20) (ca' [] [0,1,2,3,4,5] (xf' [.agg (c28' a0.f14.f4).toArray]) (F58.ok (a0:=a0.f14.f4) C22) ?_)
  rintro _ _⟨rfl,rfl⟩
  refine y' (bno h20) (.bool (!r21)) (V_not rfl) ?_
  refine pF' (bno h20) ?_
  have h_:=oi' H;subst h_
  exact rm' [0,1,2,3,4,5]
 replace H:=Bq19
 refine s' (.bool q19) mv' ?_
 obtain⟨q24,hq24,H⟩:=g_lt H
 refine cR' 4 [(1,pt' b5),(3,pt' b7),(31,.bool q24)] [Buf k55 55 A0_0 c0_0 a0.f0.f2,bl' 3 A0_1 c0_1 a0.f7,Buf k55 55 A0_2 c0_2 a0.f16.f2,bw' 21 A0_3 c0_3 a0.f17,Blk b5 34 (c34' a0 A0_0 c0_0 A0_1 c0_1 A0_2 c0_2 A0_3 c0_3),Blk b7 26 [il' a0.f0.f0,il' a0.f0.f1,.slice A0_0 a0.f0.f2.length c0_0]] ?_ fun junk=>?_
 ·by_cases h25 : q19 = true
  ·refine no' 3 h25 ?_
   refine pT' h25 ?_
   refine RA_nil ?_
   exact at_normal (St.mk1 (aeq rfl (aeq rfl (aeq (congrArg Value.bool (or_t hq24 (h25))) aeq0))) (gs' [0,1,2,3,4,5]))
  refine y' (bno h25) (pa' b5 16) (fa' b5 0 16) ?_
  refine z' (bno h25) (ld' b5 16 4) ?_
  refine y' (bno h25) (.bool (decide (a0.f5 < 0))) (V_lss rfl rfl) ?_
  refine pF' (bno h25) ?_
  refine RA_nil ?_
  exact at_normal (St.mk1 (aeq rfl (aeq rfl (aeq (congrArg Value.bool (or_f hq24 (bno h25))) aeq0))) (gs' [0,1,2,3,4,5]))
 refine s' (.bool q24) mv' ?_
 obtain⟨q27,hq27,H⟩:=g_lt H
 refine cR' 6 [(1,pt' b5),(3,pt' b7),(38,.bool q27)] [Buf k55 55 A0_0 c0_0 a0.f0.f2,bl' 3 A0_1 c0_1 a0.f7,Buf k55 55 A0_2 c0_2 a0.f16.f2,bw' 21 A0_3 c0_3 a0.f17,Blk b5 34 (c34' a0 A0_0 c0_0 A0_1 c0_1 A0_2 c0_2 A0_3 c0_3),Blk b7 26 [il' a0.f0.f0,il' a0.f0.f1,.slice A0_0 a0.f0.f2.length c0_0]] ?_ fun junk=>?_
 ·by_cases h28 : q24 = true
  ·refine no' 5 h28 ?_
   refine pT' h28 ?_
   refine RA_nil ?_
   exact at_normal (St.mk1 (aeq rfl (aeq rfl (aeq (congrArg Value.bool (or_t hq27 (h28))) aeq0))) (gs' [0,1,2,3,4,5]))
  refine y' (bno h28) (pa' b5 16) (fa' b5 0 16) ?_
  refine z' (bno h28) (ld' b5 16 4) ?_
  refine y' (bno h28) (pa' b5 17) (fa' b5 0 17) ?_
  refine z' (bno h28) (ld' b5 17 4) ?_
  refine y' (bno h28) (.bool (decide (a0.f5 > a0.f6))) (V_gtr rfl rfl) ?_
  refine pF' (bno h28) ?_
  refine RA_nil ?_
  exact at_normal (St.mk1 (aeq rfl (aeq rfl (aeq (congrArg Value.bool (or_f hq27 (bno h28))) aeq0))) (gs' [0,1,2,3,4,5]))
 refine s' (.bool q27) mv' ?_
 obtain⟨q30,hq30,H⟩:=g_lt H
 refine RA_cut 6 (fun e ds As=>St [(1,pt' b5),(3,pt' b7),(45,.bool q30)] [Buf k55 55 A0_0 c0_0 a0.f0.f2,bl' 3 A0_1 c0_1 a0.f7,Buf k55 55 A0_2 c0_2 a0.f16.f2,bw' 21 A0_3 c0_3 a0.f17,Blk b5 34 (c34' a0 A0_0 c0_0 A0_1 c0_1 A0_2 c0_2 A0_3 c0_3),Blk b7 26 [il' a0.f0.f0,il' a0.f0.f1,.slice A0_0 a0.f0.f2.length c0_0]] e ds As) ?_ ?_
 ·by_cases h31 : q27 = true
  ·refine no' 5 h31 ?_
   refine pT' h31 ?_
   refine RA_nil ?_
   exact at_normal (St.mk1 (aeq rfl (aeq rfl (aeq (congrArg Value.bool (or_t hq30 (h31))) aeq0))) (gs' [0,1,2,3,4,5]))
  refine y' (bno h31) (pa' b5 17) (fa' b5 0 17) ?_
  refine z' (bno h31) (ld' b5 17 4) ?_
  refine y' (bno h31) (pa' b7 1) (fa' b7 0 1) ?_
  refine z' (bno h31) (ld' b7 1 5) ?_
  refine y' (bno h31) (.bool (decide (a0.f6 ≥ a0.f0.f1))) (V_geq rfl rfl) ?_
  refine pF' (bno h31) ?_
  refine RA_nil ?_
  exact at_normal (St.mk1 (aeq rfl (aeq rfl (aeq (congrArg Value.bool (or_f hq30 (bno h31))) aeq0))) (gs' [0,1,2,3,4,5]))
 rintro e ds As hst32
 refine na' ?_
 refine SA.of_St hst32 fun junk=>?_
 by_cases h33 : q30 = true
 ·replace H:=g_ift h33 H
  refine SA_condTb rfl h33 ?_
  refine qr' ?_
  refine s' (.bool false) as' ?_
  refine ntt' ?_
  have h_:=oi' H;subst h_
  exact b1' [0,1,2,3] ⟨rfl,rfl⟩
 replace H:=g_iff h33 H
 refine SA_condFb rfl h33 ?_
 refine SA_skip (at_normal (SA_seq (qr' ?_)))
 refine s' (pa' b5 3) (fa' b5 0 3) ?_
 refine l' (ld' b5 3 4) ?_
 refine s' (pa' b5 4) (fa' b5 0 4) ?_
 refine l' (ld' b5 4 4) ?_
 refine s' (pa' b5 5) (fa' b5 0 5) ?_
 refine l' (ld' b5 5 4) ?_
 refine s' (.agg (c31' (S31.mk a0.f1 a0.f2 a0.f3 false z28')).toArray) bd' ?_
 refine s' (pa' b5 25) (fa' b5 0 25) ?_
 refine l' (lA' b5 25 4 (c31' a0.f14)) ?_
 refine s' (.agg (List.toArray (il' a0.f1::il' a0.f2::.bool a0.f3::.bool false::il' 0::il' 0::.bool false::.bool false::.bool false::.bool false::.bool false::.bool false::.bool false::.bool false::il' a0.f14.f0::il' a0.f14.f1::.bool a0.f14.f2::.bool a0.f14.f3::il' a0.f14.f4.f0::il' a0.f14.f4.f1::.bool a0.f14.f4.f2::.bool a0.f14.f4.f3::.bool a0.f14.f4.f4::.bool a0.f14.f4.f5::.bool a0.f14.f4.f6::.bool a0.f14.f4.f7::.bool a0.f14.f4.f8::.bool a0.f14.f4.f9::[]))) bA' ?_
 refine s' (il' 0) mv' ?_
 refine na' ?_
 obtain⟨t34,H,Bt34⟩:=g_bind H
 refine SA_mid (fun e ds As=>∃ (s35 : Unit),t34 = Out.go s35∧St [(1,pt' b5),(3,pt' b7)] [Buf k55 55 A0_0 c0_0 a0.f0.f2,bl' 3 A0_1 c0_1 a0.f7,Buf k55 55 A0_2 c0_2 a0.f16.f2,bw' 21 A0_3 c0_3 a0.f17,Blk b5 34 (c34' a0 A0_0 c0_0 A0_1 c0_1 A0_2 c0_2 A0_3 c0_3),Blk b7 26 [il' a0.f0.f0,il' a0.f0.f1,.slice A0_0 a0.f0.f2.length c0_0]] e ds As) ?_ ?_
 ·refine SA_block ?_
  refine SA_loop (fun k_ e ds As=>∃ (x56_35 : Int),F16b0.l0 a0 k_ x56_35 = some t34∧St [(1,pt' b5),(3,pt' b7),(55,.agg (List.toArray (il' a0.f1::il' a0.f2::.bool a0.f3::.bool false::il' 0::il' 0::.bool false::.bool false::.bool false::.bool false::.bool false::.bool false::.bool false::.bool false::il' a0.f14.f0::il' a0.f14.f1::.bool a0.f14.f2::.bool a0.f14.f3::il' a0.f14.f4.f0::il' a0.f14.f4.f1::.bool a0.f14.f4.f2::.bool a0.f14.f4.f3::.bool a0.f14.f4.f4::.bool a0.f14.f4.f5::.bool a0.f14.f4.f6::.bool a0.f14.f4.f7::.bool a0.f14.f4.f8::.bool a0.f14.f4.f9::[]))),(56,il' x56_35)] [Buf k55 55 A0_0 c0_0 a0.f0.f2,bl' 3 A0_1 c0_1 a0.f7,Buf k55 55 A0_2 c0_2 a0.f16.f2,bw' 21 A0_3 c0_3 a0.f17,Blk b5 34 (c34' a0 A0_0 c0_0 A0_1 c0_1 A0_2 c0_2 A0_3 c0_3),Blk b7 26 [il' a0.f0.f0,il' a0.f0.f1,.slice A0_0 a0.f0.f2.length c0_0]] e ds As) (k:=k) ⟨_,H,sq' [0,1,2,3,4,5]⟩ ?_
  clear H
  rintro k36 e ds As ⟨x56_35,H,hst37⟩
  obtain _ | k36:=k36
  ·cases H
  rw [F16b0.l0] at H
  refine SA.of_St hst37 fun junk=>?_
  refine qr' ?_
  refine s' (.bool (decide (x56_35 < 2))) (V_lss rfl rfl) ?_
  refine na' (SA_seq ?_)
  by_cases h38 : x56_35 < 2
  ·replace H:=g_ift h38 H
   refine SA_condT rfl h38 ?_
   refine SA_skip (at_normal (SA_seq (SA_block (qr' ?_))))
   obtain⟨⟨g39,g40⟩,H⟩:=g_pos H
   refine s' (.agg (c31' (S31.mk ((rd ([(S31.mk a0.f1 a0.f2 a0.f3 false z28'),a0.f14] : List S31) x56_35).f0) ((rd ([(S31.mk a0.f1 a0.f2 a0.f3 false z28'),a0.f14] : List S31) x56_35).f1) ((rd ([(S31.mk a0.f1 a0.f2 a0.f3 false z28'),a0.f14] : List S31) x56_35).f2) ((rd ([(S31.mk a0.f1 a0.f2 a0.f3 false z28'),a0.f14] : List S31) x56_35).f3) ((rd ([(S31.mk a0.f1 a0.f2 a0.f3 false z28'),a0.f14] : List S31) x56_35).f4))).toArray) (V_indexVA (kd:=k31) (i:=x56_35) (cs:=(il' a0.f1::il' a0.f2::.bool a0.f3::.bool false::il' 0::il' 0::.bool false::.bool false::.bool false::.bool false::.bool false::.bool false::.bool false::.bool false::il' a0.f14.f0::il' a0.f14.f1::.bool a0.f14.f2::.bool a0.f14.f3::il' a0.f14.f4.f0::il' a0.f14.f4.f1::.bool a0.f14.f4.f2::.bool a0.f14.f4.f3::.bool a0.f14.f4.f4::.bool a0.f14.f4.f5::.bool a0.f14.f4.f6::.bool a0.f14.f4.f7::.bool a0.f14.f4.f8::.bool a0.f14.f4.f9::[])) (xs:=([(S31.mk a0.f1 a0.f2 a0.f3 false z28'),a0.f14] : List S31)) (vs:=(c31' (S31.mk ((rd ([(S31.mk a0.f1 a0.f2 a0.f3 false z28'),a0.f14] : List S31) x56_35).f0) ((rd ([(S31.mk a0.f1 a0.f2 a0.f3 false z28'),a0.f14] : List S31) x56_35).f1) ((rd ([(S31.mk a0.f1 a0.f2 a0.f3 false z28'),a0.f14] : List S31) x56_35).f2) ((rd ([(S31.mk a0.f1 a0.f2 a0.f3 false z28'),a0.f14] : List S31) x56_35).f3) ((rd ([(S31.mk a0.f1 a0.f2 a0.f3 false z28'),a0.f14] : List S31) x56_35).f4)))) Tryz.underlying78 sz31 Tryz.underlying31 rfl rfl rfl (RL_enc enc31 (fun _ _=>rfl) (by kernel_rfl) _) rfl rfl g39 g40 (fun _ h_=>by rw [h_]; rfl)) ?_
   refine o' (al' fun b41=>?_)
   refine o' (su' b41 0 6 (c31' (S31.mk ((rd ([(S31.mk a0.f1 a0.f2 a0.f3 false z28'),a0.f14] : List S31) x56_35).f0) ((rd ([(S31.mk a0.f1 a0.f2 a0.f3 false z28'),a0.f14] : List S31) x56_35).f1) ((rd ([(S31.mk a0.f1 a0.f2 a0.f3 false z28'),a0.f14] : List S31) x56_35).f2) ((rd ([(S31.mk a0.f1 a0.f2 a0.f3 false z28'),a0.f14] : List S31) x56_35).f3) ((rd ([(S31.mk a0.f1 a0.f2 a0.f3 false z28'),a0.f14] : List S31) x56_35).f4))) ?_)
   refine nr' ?_
   refine s' (pt' b41) (fa' b41 0 0) ?_
   refine l' (ld' b41 0 6) ?_
   refine s' (.bool (decide (((rd ([(S31.mk a0.f1 a0.f2 a0.f3 false z28'),a0.f14] : List S31) x56_35).f0) < 0))) (V_lss rfl rfl) ?_
   refine s' (.bool (decide (((rd ([(S31.mk a0.f1 a0.f2 a0.f3 false z28'),a0.f14] : List S31) x56_35).f0) < 0))) mv' ?_
   obtain⟨q43,hq43,H⟩:=g_lt H
   refine cR' 6 [(1,pt' b5),(3,pt' b7),(5,pt' b41),(55,.agg (List.toArray (il' a0.f1::il' a0.f2::.bool a0.f3::.bool false::il' 0::il' 0::.bool false::.bool false::.bool false::.bool false::.bool false::.bool false::.bool false::.bool false::il' a0.f14.f0::il' a0.f14.f1::.bool a0.f14.f2::.bool a0.f14.f3::il' a0.f14.f4.f0::il' a0.f14.f4.f1::.bool a0.f14.f4.f2::.bool a0.f14.f4.f3::.bool a0.f14.f4.f4::.bool a0.f14.f4.f5::.bool a0.f14.f4.f6::.bool a0.f14.f4.f7::.bool a0.f14.f4.f8::.bool a0.f14.f4.f9::[]))),(56,il' x56_35),(68,.bool q43)] [Buf k55 55 A0_0 c0_0 a0.f0.f2,bl' 3 A0_1 c0_1 a0.f7,Buf k55 55 A0_2 c0_2 a0.f16.f2,bw' 21 A0_3 c0_3 a0.f17,Blk b5 34 (c34' a0 A0_0 c0_0 A0_1 c0_1 A0_2 c0_2 A0_3 c0_3),Blk b7 26 [il' a0.f0.f0,il' a0.f0.f1,.slice A0_0 a0.f0.f2.length c0_0],Blk b41 31 (c31' (S31.mk ((rd ([(S31.mk a0.f1 a0.f2 a0.f3 false z28'),a0.f14] : List S31) x56_35).f0) ((rd ([(S31.mk a0.f1 a0.f2 a0.f3 false z28'),a0.f14] : List S31) x56_35).f1) ((rd ([(S31.mk a0.f1 a0.f2 a0.f3 false z28'),a0.f14] : List S31) x56_35).f2) ((rd ([(S31.mk a0.f1 a0.f2 a0.f3 false z28'),a0.f14] : List S31) x56_35).f3) ((rd ([(S31.mk a0.f1 a0.f2 a0.f3 false z28'),a0.f14] : List S31) x56_35).f4)))] ?_ fun junk=>?_
   ·by_cases h44 : ((rd ([(S31.mk a0.f1 a0.f2 a0.f3 false z28'),a0.f14] : List S31) x56_35).f0) < 0
    ·refine no' 5 (dec_t h44) ?_
     refine pT' (dec_t h44) ?_
     refine RA_nil ?_
     exact at_normal (St.mk1 (aeq rfl (aeq rfl (aeq rfl (aeq rfl (aeq rfl (aeq (congrArg Value.bool (or_t hq43 (dec_t h44))) aeq0)))))) (gs' [0,1,2,3,4,5,6]))
    refine y' (dec_f h44) (pt' b41) (fa' b41 0 0) ?_
    refine z' (dec_f h44) (ld' b41 0 6) ?_
    refine y' (dec_f h44) (pa' b7 1) (fa' b7 0 1) ?_
    refine z' (dec_f h44) (ld' b7 1 5) ?_
    refine y' (dec_f h44) (.bool (decide (((rd ([(S31.mk a0.f1 a0.f2 a0.f3 false z28'),a0.f14] : List S31) x56_35).f0) ≥ a0.f0.f1))) (V_geq rfl rfl) ?_
    refine pF' (dec_f h44) ?_
    refine RA_nil ?_
    exact at_normal (St.mk1 (aeq rfl (aeq rfl (aeq rfl (aeq rfl (aeq rfl (aeq (congrArg Value.bool (or_f hq43 (dec_f h44))) aeq0)))))) (gs' [0,1,2,3,4,5,6]))
   refine s' (.bool q43) mv' ?_
   obtain⟨q46,hq46,H⟩:=g_lt H
   refine cR' 4 [(1,pt' b5),(3,pt' b7),(5,pt' b41),(55,.agg (List.toArray (il' a0.f1::il' a0.f2::.bool a0.f3::.bool false::il' 0::il' 0::.bool false::.bool false::.bool false::.bool false::.bool false::.bool false::.bool false::.bool false::il' a0.f14.f0::il' a0.f14.f1::.bool a0.f14.f2::.bool a0.f14.f3::il' a0.f14.f4.f0::il' a0.f14.f4.f1::.bool a0.f14.f4.f2::.bool a0.f14.f4.f3::.bool a0.f14.f4.f4::.bool a0.f14.f4.f5::.bool a0.f14.f4.f6::.bool a0.f14.f4.f7::.bool a0.f14.f4.f8::.bool a0.f14.f4.f9::[]))),(56,il' x56_35),(73,.bool q46)] [Buf k55 55 A0_0 c0_0 a0.f0.f2,bl' 3 A0_1 c0_1 a0.f7,Buf k55 55 A0_2 c0_2 a0.f16.f2,bw' 21 A0_3 c0_3 a0.f17,Blk b5 34 (c34' a0 A0_0 c0_0 A0_1 c0_1 A0_2 c0_2 A0_3 c0_3),Blk b7 26 [il' a0.f0.f0,il' a0.f0.f1,.slice A0_0 a0.f0.f2.length c0_0],Blk b41 31 (c31' (S31.mk ((rd ([(S31.mk a0.f1 a0.f2 a0.f3 false z28'),a0.f14] : List S31) x56_35).f0) ((rd ([(S31.mk a0.f1 a0.f2 a0.f3 false z28'),a0.f14] : List S31) x56_35).f1) ((rd ([(S31.mk a0.f1 a0.f2 a0.f3 false z28'),a0.f14] : List S31) x56_35).f2) ((rd ([(S31.mk a0.f1 a0.f2 a0.f3 false z28'),a0.f14] : List S31) x56_35).f3) ((rd ([(S31.mk a0.f1 a0.f2 a0.f3 false z28'),a0.f14] : List S31) x56_35).f4)))] ?_ fun junk=>?_
   ·by_cases h47 : q43 = true
    ·refine no' 3 h47 ?_
     refine pT' h47 ?_
     refine RA_nil ?_
     exact at_normal (St.mk1 (aeq rfl (aeq rfl (aeq rfl (aeq rfl (aeq rfl (aeq (congrArg Value.bool (or_t hq46 (h47))) aeq0)))))) (gs' [0,1,2,3,4,5,6]))
    refine y' (bno h47) (pa' b41 1) (fa' b41 0 1) ?_
    refine z' (bno h47) (ld' b41 1 6) ?_
    refine y' (bno h47) (.bool (decide (((rd ([(S31.mk a0.f1 a0.f2 a0.f3 false z28'),a0.f14] : List S31) x56_35).f1) < 0))) (V_lss rfl rfl) ?_
    refine pF' (bno h47) ?_
    refine RA_nil ?_
    exact at_normal (St.mk1 (aeq rfl (aeq rfl (aeq rfl (aeq rfl (aeq rfl (aeq (congrArg Value.bool (or_f hq46 (bno h47))) aeq0)))))) (gs' [0,1,2,3,4,5,6]))
   refine s' (.bool q46) mv' ?_
   obtain⟨q49,hq49,H⟩:=g_lt H
   refine cR' 6 [(1,pt' b5),(3,pt' b7),(5,pt' b41),(55,.agg (List.toArray (il' a0.f1::il' a0.f2::.bool a0.f3::.bool false::il' 0::il' 0::.bool false::.bool false::.bool false::.bool false::.bool false::.bool false::.bool false::.bool false::il' a0.f14.f0::il' a0.f14.f1::.bool a0.f14.f2::.bool a0.f14.f3::il' a0.f14.f4.f0::il' a0.f14.f4.f1::.bool a0.f14.f4.f2::.bool a0.f14.f4.f3::.bool a0.f14.f4.f4::.bool a0.f14.f4.f5::.bool a0.f14.f4.f6::.bool a0.f14.f4.f7::.bool a0.f14.f4.f8::.bool a0.f14.f4.f9::[]))),(56,il' x56_35),(80,.bool q49)] [Buf k55 55 A0_0 c0_0 a0.f0.f2,bl' 3 A0_1 c0_1 a0.f7,Buf k55 55 A0_2 c0_2 a0.f16.f2,bw' 21 A0_3 c0_3 a0.f17,Blk b5 34 (c34' a0 A0_0 c0_0 A0_1 c0_1 A0_2 c0_2 A0_3 c0_3),Blk b7 26 [il' a0.f0.f0,il' a0.f0.f1,.slice A0_0 a0.f0.f2.length c0_0],Blk b41 31 (c31' (S31.mk ((rd ([(S31.mk a0.f1 a0.f2 a0.f3 false z28'),a0.f14] : List S31) x56_35).f0) ((rd ([(S31.mk a0.f1 a0.f2 a0.f3 false z28'),a0.f14] : List S31) x56_35).f1) ((rd ([(S31.mk a0.f1 a0.f2 a0.f3 false z28'),a0.f14] : List S31) x56_35).f2) ((rd ([(S31.mk a0.f1 a0.f2 a0.f3 false z28'),a0.f14] : List S31) x56_35).f3) ((rd ([(S31.mk a0.f1 a0.f2 a0.f3 false z28'),a0.f14] : List S31) x56_35).f4)))] ?_ fun junk=>?_
   ·by_cases h50 : q46 = true
    ·refine no' 5 h50 ?_
     refine pT' h50 ?_
     refine RA_nil ?_
     exact at_normal (St.mk1 (aeq rfl (aeq rfl (aeq rfl (aeq rfl (aeq rfl (aeq (congrArg Value.bool (or_t hq49 (h50))) aeq0)))))) (gs' [0,1,2,3,4,5,6]))
    refine y' (bno h50) (pa' b41 1) (fa' b41 0 1) ?_
    refine z' (bno h50) (ld' b41 1 6) ?_
    refine y' (bno h50) (pt' b7) (fa' b7 0 0) ?_
    refine z' (bno h50) (ld' b7 0 5) ?_
    refine y' (bno h50) (.bool (decide (((rd ([(S31.mk a0.f1 a0.f2 a0.f3 false z28'),a0.f14] : List S31) x56_35).f1) ≥ a0.f0.f0))) (V_geq rfl rfl) ?_
    refine pF' (bno h50) ?_
    refine RA_nil ?_
    exact at_normal (St.mk1 (aeq rfl (aeq rfl (aeq rfl (aeq rfl (aeq rfl (aeq (congrArg Value.bool (or_f hq49 (bno h50))) aeq0)))))) (gs' [0,1,2,3,4,5,6]))
   refine s' (.bool q49) mv' ?_
   obtain⟨q52,H,Bq52⟩:=g_bind H
   refine RA_cut 11 (fun e ds As=>St [(1,pt' b5),(3,pt' b7),(55,.agg (List.toArray (il' a0.f1::il' a0.f2::.bool a0.f3::.bool false::il' 0::il' 0::.bool false::.bool false::.bool false::.bool false::.bool false::.bool false::.bool false::.bool false::il' a0.f14.f0::il' a0.f14.f1::.bool a0.f14.f2::.bool a0.f14.f3::il' a0.f14.f4.f0::il' a0.f14.f4.f1::.bool a0.f14.f4.f2::.bool a0.f14.f4.f3::.bool a0.f14.f4.f4::.bool a0.f14.f4.f5::.bool a0.f14.f4.f6::.bool a0.f14.f4.f7::.bool a0.f14.f4.f8::.bool a0.f14.f4.f9::[]))),(56,il' x56_35),(92,.bool q52)] [Buf k55 55 A0_0 c0_0 a0.f0.f2,bl' 3 A0_1 c0_1 a0.f7,Buf k55 55 A0_2 c0_2 a0.f16.f2,bw' 21 A0_3 c0_3 a0.f17,Blk b5 34 (c34' a0 A0_0 c0_0 A0_1 c0_1 A0_2 c0_2 A0_3 c0_3),Blk b7 26 [il' a0.f0.f0,il' a0.f0.f1,.slice A0_0 a0.f0.f2.length c0_0]] e ds As) ?_ ?_
   ·by_cases h53 : q49 = true
    ·replace H:=g_ift h53 H
     refine no' 3 h53 ?_
     refine nu' ?_
     refine nu' ?_
     refine nu' ?_
     refine nu' ?_
     refine nu' ?_
     refine nu' ?_
     refine no' 1 h53 ?_
     refine pT' h53 ?_
     have h_:=oi' H;subst h_
     exact rm' [0,1,2,3,4,5]
    replace H:=g_iff h53 H
    refine y' (bno h53) (pa' b41 2) (fa' b41 0 2) ?_
    refine z' (bno h53) (ld' b41 2 6) ?_
    refine y' (bno h53) (.bool ((rd ([(S31.mk a0.f1 a0.f2 a0.f3 false z28'),a0.f14] : List S31) x56_35).f2)) mv' ?_
    by_cases h54 : ((rd ([(S31.mk a0.f1 a0.f2 a0.f3 false z28'),a0.f14] : List S31) x56_35).f2) = true
    ·replace H:=g_ift h54 H
     refine y' h54 (pa' b41 1) (fa' b41 0 1) ?_
     refine z' h54 (ld' b41 1 6) ?_
     refine y' h54 (pt' b7) (fa' b7 0 0) ?_
     refine z' h54 (ld' b7 0 5) ?_
     refine y' h54 (il' (IntKind.i64.wrap (a0.f0.f0 - 1))) (V_sub rfl rfl) ?_
     refine y' h54 (.bool (decide (((rd ([(S31.mk a0.f1 a0.f2 a0.f3 false z28'),a0.f14] : List S31) x56_35).f1) ≠ (IntKind.i64.wrap (a0.f0.f0 - 1))))) (V_neq rfl rfl) ?_
     refine yo' (bno h53) (OA_v rfl (V_pickT rfl (h54) rfl) ?_)
     refine pF' (bno h53) ?_
     have h_:=oi' H;subst h_
     exact rm' [0,1,2,3,4,5]
    replace H:=g_iff h54 H
    refine no' 6 (bno h54) ?_
    refine yo' (bno h53) (OA_v rfl (V_pickF rfl (bno h54) rfl) ?_)
    refine pF' (bno h53) ?_
    have h_:=oi' H;subst h_
    exact rm' [0,1,2,3,4,5]
   rintro e ds As hst55
   clear H
   have H:=Bq52
   clear Bq52
   refine na' ?_
   refine SA.of_St hst55 fun junk=>?_
   by_cases h56 : q52 = true
   ·replace H:=g_ift h56 H
    refine SA_condTb rfl h56 ?_
    refine qr' ?_
    refine s' (.bool false) as' ?_
    refine nt' (inb_ret (thn_ret (thn_ret (inb_ret (thn_ret (thn_ret ?_))))))
    have h_:=oi' H;subst h_
    have hb_:=el_ret Bt34
    have hr_:=Option.some.inj hb_
    clear hb_
    subst hr_
    exact b1' [0,1,2,3] ⟨rfl,rfl⟩
   replace H:=g_iff h56 H
   refine SA_condFb rfl h56 ?_
   refine SA_skip (inb_normal (at_normal (SA_region ?_)))
   refine s' (il' (IntKind.i64.wrap (x56_35 + 1))) (V_add rfl rfl) ?_
   refine s' (il' (IntKind.i64.wrap (x56_35 + 1))) mv' ?_
   refine RA_nil ?_
   exact at_normal ⟨k36,Nat.lt_succ_self _,_,H,sq' [0,1,2,3,4,5]⟩
  replace H:=g_iff h38 H
  refine SA_condF rfl h38 ?_
  refine SA_exit (thn_exit (thn_exit (inb_hit ?_)))
  have h_:=oi' H;subst h_
  exact at_normal ⟨(),rfl,sq' [0,1,2,3,4,5]⟩
 rintro e ds As ⟨s35,ht,hst57⟩
 clear H
 subst ht
 replace Bt34:=el_go Bt34
 have H:=Bt34
 clear Bt34
 refine at_normal ?_
 refine SA.of_St hst57 fun junk=>?_
 refine qr' ?_
 refine s' (il' (-1)) as' ?_
 refine nq' ?_
 refine s' (pa' b5 18) (fa' b5 0 18) ?_
 refine l' (ld' b5 18 4) ?_
 refine s' (il' (a0.f7.length : Int)) (V_len Tryz.underlying29 rfl) ?_
 refine s' (il' 0) mv' ?_
 refine na' ?_
 obtain⟨t58,H,Bt58⟩:=g_bind H
 refine SA_mid (fun e ds As=>∃ (s59 : Unit),t58 = Out.go s59∧St [(1,pt' b5),(3,pt' b7)] [Buf k55 55 A0_0 c0_0 a0.f0.f2,bl' 3 A0_1 c0_1 a0.f7,Buf k55 55 A0_2 c0_2 a0.f16.f2,bw' 21 A0_3 c0_3 a0.f17,Blk b5 34 (c34' a0 A0_0 c0_0 A0_1 c0_1 A0_2 c0_2 A0_3 c0_3),Blk b7 26 [il' a0.f0.f0,il' a0.f0.f1,.slice A0_0 a0.f0.f2.length c0_0]] e ds As) ?_ ?_
 ·refine SA_block ?_
  refine SA_loop (fun k_ e ds As=>∃ (x6_59 : Int) (x97_59 : Int),F16b0.l1 a0 k_ x6_59 x97_59 = some t58∧St [(1,pt' b5),(3,pt' b7),(6,il' x6_59),(95,.slice A0_1 a0.f7.length c0_1),(96,il' (a0.f7.length : Int)),(97,il' x97_59)] [Buf k55 55 A0_0 c0_0 a0.f0.f2,bl' 3 A0_1 c0_1 a0.f7,Buf k55 55 A0_2 c0_2 a0.f16.f2,bw' 21 A0_3 c0_3 a0.f17,Blk b5 34 (c34' a0 A0_0 c0_0 A0_1 c0_1 A0_2 c0_2 A0_3 c0_3),Blk b7 26 [il' a0.f0.f0,il' a0.f0.f1,.slice A0_0 a0.f0.f2.length c0_0]] e ds As) (k:=k) ⟨_,_,H,sq' [0,1,2,3,4,5]⟩ ?_
  clear H
  rintro k60 e ds As ⟨x6_59,x97_59,H,hst61⟩
  obtain _ | k60:=k60
  ·cases H
  rw [F16b0.l1] at H
  refine SA.of_St hst61 fun junk=>?_
  refine qr' ?_
  refine s' (.bool (decide (x97_59 < (a0.f7.length : Int)))) (V_lss rfl rfl) ?_
  refine na' (SA_seq ?_)
  by_cases h62 : x97_59 < (a0.f7.length : Int)
  ·replace H:=g_ift h62 H
   refine SA_condT rfl h62 ?_
   refine SA_skip (at_normal (SA_seq (SA_block (qr' ?_))))
   obtain⟨⟨g63,g64⟩,H⟩:=g_pos H
   refine l' (VR_index (i:=x97_59) Tryz.underlying29 sz3 rfl rfl (Src.buf (k:=1) rfl) g63 g64) ?_
   refine l' (VR_load_el (enc:=(fun x_ : Int=>[Value.int .i64 x_])) (i:=x97_59) (j:=x97_59.toNat * 1) (m:=0) (sz:=1) Tryz.underlying3 rfl rfl rfl rfl (Src.buf (k:=1) rfl) g63 g64 (fun _ _ h=>h) rfl) ?_
   obtain⟨n65,hn65,H⟩:=g_lt H
   refine s' (il' n65) (V_assign (v:=il' n65) (congrArg (Value.int .i64) hn65.symm)) ?_
   refine nq' ?_
   refine s' (il' n65) mv' ?_
   refine s' (il' x6_59) mv' ?_
   refine s' (.bool (decide (n65 ≤ x6_59))) (V_leq rfl rfl) ?_
   refine s' (.bool (decide (n65 ≤ x6_59))) mv' ?_
   obtain⟨q66,hq66,H⟩:=g_lt H
   refine RA_cut 5 (fun e ds As=>St [(1,pt' b5),(3,pt' b7),(8,il' n65),(95,.slice A0_1 a0.f7.length c0_1),(96,il' (a0.f7.length : Int)),(97,il' x97_59),(109,.bool q66)] [Buf k55 55 A0_0 c0_0 a0.f0.f2,bl' 3 A0_1 c0_1 a0.f7,Buf k55 55 A0_2 c0_2 a0.f16.f2,bw' 21 A0_3 c0_3 a0.f17,Blk b5 34 (c34' a0 A0_0 c0_0 A0_1 c0_1 A0_2 c0_2 A0_3 c0_3),Blk b7 26 [il' a0.f0.f0,il' a0.f0.f1,.slice A0_0 a0.f0.f2.length c0_0]] e ds As) ?_ ?_
   ·by_cases h67 : n65 ≤ x6_59
    ·refine no' 4 (dec_t h67) ?_
     refine pT' (dec_t h67) ?_
     refine RA_nil ?_
     exact at_normal (St.mk1 (aeq rfl (aeq rfl (aeq rfl (aeq rfl (aeq rfl (aeq rfl (aeq (congrArg Value.bool (or_t hq66 (dec_t h67))) aeq0))))))) (gs' [0,1,2,3,4,5]))
    refine y' (dec_f h67) (il' n65) mv' ?_
    refine y' (dec_f h67) (pt' b7) (fa' b7 0 0) ?_
    refine z' (dec_f h67) (ld' b7 0 5) ?_
    refine y' (dec_f h67) (.bool (decide (n65 ≥ a0.f0.f0))) (V_geq rfl rfl) ?_
    refine pF' (dec_f h67) ?_
    refine RA_nil ?_
    exact at_normal (St.mk1 (aeq rfl (aeq rfl (aeq rfl (aeq rfl (aeq rfl (aeq rfl (aeq (congrArg Value.bool (or_f hq66 (dec_f h67))) aeq0))))))) (gs' [0,1,2,3,4,5]))
   rintro e ds As hst68
   refine na' ?_
   refine SA.of_St hst68 fun junk=>?_
   by_cases h69 : q66 = true
   ·replace H:=g_ift h69 H
    refine SA_condTb rfl h69 ?_
    refine qr' ?_
    refine s' (.bool false) as' ?_
    refine ntt' (inb_ret (thn_ret (thn_ret (inb_ret (thn_ret (thn_ret ?_))))))
    have h_:=oi' H;subst h_
    have hb_:=el_ret Bt58
    have hr_:=Option.some.inj hb_
    clear hb_
    subst hr_
    exact b1' [0,1,2,3] ⟨rfl,rfl⟩
   replace H:=g_iff h69 H
   refine SA_condFb rfl h69 ?_
   refine SA_skip (at_normal (SA_region ?_))
   refine s' (il' n65) mv' ?_
   refine s' (il' n65) as' ?_
   refine RA_nil (inb_normal (at_normal (SA_region ?_)))
   refine s' (il' (IntKind.i64.wrap (x97_59 + 1))) (V_add rfl rfl) ?_
   refine s' (il' (IntKind.i64.wrap (x97_59 + 1))) mv' ?_
   refine RA_nil ?_
   exact at_normal ⟨k60,Nat.lt_succ_self _,_,_,H,sq' [0,1,2,3,4,5]⟩
  replace H:=g_iff h62 H
  refine SA_condF rfl h62 ?_
  refine SA_exit (thn_exit (thn_exit (inb_hit ?_)))
  have h_:=oi' H;subst h_
  exact at_normal ⟨(),rfl,sq' [0,1,2,3,4,5]⟩
 rintro e ds As ⟨s59,ht,hst70⟩
 clear H
 subst ht
 replace Bt58:=el_go Bt58
 have H:=Bt58
 clear Bt58
 refine at_normal ?_
 refine SA.of_St hst70 fun junk=>?_
 refine SA_seq (qr' ?_)
 refine s' (pa' b5 39) (fa' b5 0 39) ?_
 refine l' (ld' b5 39 4) ?_
 refine s' (.bool a0.f15) mv' ?_
 obtain⟨q71,H,Bq71⟩:=g_bind H
 refine cR' 21 [(1,pt' b5),(135,.bool q71)] [Buf k55 55 A0_0 c0_0 a0.f0.f2,bl' 3 A0_1 c0_1 a0.f7,Buf k55 55 A0_2 c0_2 a0.f16.f2,bw' 21 A0_3 c0_3 a0.f17,Blk b5 34 (c34' a0 A0_0 c0_0 A0_1 c0_1 A0_2 c0_2 A0_3 c0_3)] ?_ fun junk=>?_
 ·by_cases h72 : a0.f15 = true
  ·replace H:=g_ift h72 H
   refine y' h72 (pa' b5 40) (fa' b5 0 40) ?_
   refine z' h72 (lA' b5 40 4 [il' a0.f16.f0,il' a0.f16.f1,.slice A0_2 a0.f16.f2.length c0_2]) ?_
   obtain⟨r73,C76,H⟩:=g_bind H
   refine yo' h72 (ca' [2] [0,1,3,4,5] (xf' [.agg #[il' a0.f16.f0,il' a0.f16.f1,.slice A0_2 a0.f16.f2.length c0_2]]) (F57b0.ok (a0:=a0.f16) C76) ?_)
   rintro _ _⟨rfl,rfl⟩
   refine y' h72 (.bool (!r73)) (V_not rfl) ?_
   refine y' h72 (.bool (!r73)) mv' ?_
   by_cases h74 : (!r73) = true
   ·replace H:=g_ift h74 H
    refine no' 6 h74 ?_
    refine yo' h72 (OA_v rfl (V_pickT rfl (h74) rfl) ?_)
    refine y' h72 (.bool true) mv' ?_
    refine no' 6 rfl ?_
    refine yo' h72 (OA_v rfl (V_pickT rfl (rfl) rfl) ?_)
    refine pT' h72 ?_
    have h_:=oi' H;subst h_
    exact rm' [1,2,0,3,4]
   replace H:=g_iff h74 H
   refine y' (bno h74) (pa' b5 40) (fa' b5 0 40) ?_
   refine y' (bno h74) (pa' b5 40) (fa' b5 40 40) ?_
   refine z' (bno h74) (ld' b5 40 4) ?_
   refine y' (bno h74) (pt' b7) (fa' b7 0 0) ?_
   refine z' (bno h74) (ld' b7 0 5) ?_
   refine y' (bno h74) (.bool (decide (a0.f16.f0 ≠ a0.f0.f0))) (V_neq rfl rfl) ?_
   refine yo' h72 (OA_v rfl (V_pickF rfl (bno h74) rfl) ?_)
   refine y' h72 (.bool (decide (a0.f16.f0 ≠ a0.f0.f0))) mv' ?_
   by_cases h75 : a0.f16.f0 ≠ a0.f0.f0
   ·replace H:=g_ift h75 H
    refine no' 6 (dec_t h75) ?_
    refine yo' h72 (OA_v rfl (V_pickT rfl (dec_t h75) rfl) ?_)
    refine pT' h72 ?_
    have h_:=oi' H;subst h_
    exact rm' [1,2,0,3,4]
   replace H:=g_iff h75 H
   refine y' (dec_f h75) (pa' b5 40) (fa' b5 0 40) ?_
   refine y' (dec_f h75) (pa' b5 41) (fa' b5 40 41) ?_
   refine z' (dec_f h75) (ld' b5 41 4) ?_
   refine y' (dec_f h75) (pa' b7 1) (fa' b7 0 1) ?_
   refine z' (dec_f h75) (ld' b7 1 5) ?_
   refine y' (dec_f h75) (.bool (decide (a0.f16.f1 ≠ a0.f0.f1))) (V_neq rfl rfl) ?_
   refine yo' h72 (OA_v rfl (V_pickF rfl (dec_f h75) rfl) ?_)
   refine pT' h72 ?_
   have h_:=oi' H;subst h_
   exact rm' [1,2,0,3,4]
  replace H:=g_iff h72 H
  refine no' 5 (bno h72) ?_
  refine nu' ?_
  refine nu' ?_
  refine nu' ?_
  refine nu' ?_
  refine nu' ?_
  refine nu' ?_
  refine no' 2 (bno h72) ?_
  refine nu' ?_
  refine nu' ?_
  refine nu' ?_
  refine nu' ?_
  refine nu' ?_
  refine nu' ?_
  refine no' 1 (bno h72) ?_
  refine pF' (bno h72) ?_
  have h_:=oi' H;subst h_
  exact rm' [0,1,2,3,4]
 replace H:=Bq71
 refine s' (.bool q71) mv' ?_
 obtain⟨q78,H,Bq78⟩:=g_bind H
 refine RA_cut 11 (fun e ds As=>St [(1,pt' b5),(147,.bool q78)] [Buf k55 55 A0_0 c0_0 a0.f0.f2,bl' 3 A0_1 c0_1 a0.f7,Buf k55 55 A0_2 c0_2 a0.f16.f2,bw' 21 A0_3 c0_3 a0.f17,Blk b5 34 (c34' a0 A0_0 c0_0 A0_1 c0_1 A0_2 c0_2 A0_3 c0_3)] e ds As) ?_ ?_
 ·by_cases h79 : q71 = true
  ·replace H:=g_ift h79 H
   refine no' 4 h79 ?_
   refine nu' ?_
   refine nu' ?_
   refine nu' ?_
   refine nu' ?_
   refine nu' ?_
   refine no' 1 h79 ?_
   refine pT' h79 ?_
   have h_:=oi' H;subst h_
   exact rm' [0,1,2,3,4]
  replace H:=g_iff h79 H
  refine y' (bno h79) (pa' b5 39) (fa' b5 0 39) ?_
  refine z' (bno h79) (ld' b5 39 4) ?_
  refine y' (bno h79) (.bool (!a0.f15)) (V_not rfl) ?_
  refine y' (bno h79) (.bool (!a0.f15)) mv' ?_
  by_cases h80 : (!a0.f15) = true
  ·replace H:=g_ift h80 H
   refine y' h80 (pa' b5 40) (fa' b5 0 40) ?_
   refine z' h80 (lA' b5 40 4 [il' a0.f16.f0,il' a0.f16.f1,.slice A0_2 a0.f16.f2.length c0_2]) ?_
   refine y' h80 (.agg #[il' 0,il' 0,.slice none 0 0]) bd' ?_
   obtain⟨r82,C83,H⟩:=g_bind H
   refine yo' h80 (OA.ghost (Gh.nilRo k55 none 0) (ca' [2,5] [0,1,3,4,5] (xf' [.agg #[il' a0.f16.f0,il' a0.f16.f1,.slice A0_2 a0.f16.f2.length c0_2],.agg #[il' 0,il' 0,.slice none 0 0]]) (F59b0.ok (a0:=a0.f16) (a1:=z26') C83) ?_))
   rintro _ _⟨rfl,rfl⟩
   refine y' h80 (.bool (!r82)) (V_not rfl) ?_
   refine yo' (bno h79) (OA_v rfl (V_pickT rfl (h80) rfl) ?_)
   refine pF' (bno h79) ?_
   have h_:=oi' H;subst h_
   exact rm' [1,2,0,3,4]
  replace H:=g_iff h80 H
  refine no' 5 (bno h80) ?_
  refine yo' (bno h79) (OA_v rfl (V_pickF rfl (bno h80) rfl) ?_)
  refine pF' (bno h79) ?_
  have h_:=oi' H;subst h_
  exact rm' [0,1,2,3,4]
 rintro e ds As hst84
 clear H
 have H:=Bq78
 clear Bq78
 refine na' ?_
 refine SA.of_St hst84 fun junk=>?_
 by_cases h85 : q78 = true
 ·replace H:=g_ift h85 H
  refine SA_condTb rfl h85 ?_
  refine qr' ?_
  refine s' (.bool false) as' ?_
  refine ntt' ?_
  have h_:=oi' H;subst h_
  exact b1' [0,1,2,3] ⟨rfl,rfl⟩
 replace H:=g_iff h85 H
 refine SA_condFb rfl h85 ?_
 refine SA_skip (at_normal (qr' ?_))
 refine s' (pa' b5 43) (fa' b5 0 43) ?_
 refine l' (ld' b5 43 4) ?_
 refine s' (il' (a0.f17.length : Int)) (V_len Tryz.underlying32 rfl) ?_
 refine s' (.bool (decide ((a0.f17.length : Int) ≤ 256))) (V_leq rfl rfl) ?_
 refine s' (.bool (decide ((a0.f17.length : Int) ≤ 256))) mv' ?_
 obtain⟨q86,H,Bq86⟩:=g_bind H
 refine cR' 5 [(157,.bool q86)] [Buf k55 55 A0_0 c0_0 a0.f0.f2,bl' 3 A0_1 c0_1 a0.f7,Buf k55 55 A0_2 c0_2 a0.f16.f2,bw' 21 A0_3 c0_3 a0.f17] ?_ fun junk=>?_
 ·by_cases h87 : (a0.f17.length : Int) ≤ 256
  ·replace H:=g_ift h87 H
   refine y' (dec_t h87) (pa' b5 43) (fa' b5 0 43) ?_
   refine z' (dec_t h87) (ld' b5 43 4) ?_
   obtain⟨r88,C89,H⟩:=g_bind H
   refine yo' (dec_t h87) (ca' [3] [0,1,2,4] (xf' [.slice A0_3 a0.f17.length c0_3,.func (.func 61) #[] #[]]) (SCA.unpk (pre0:=[bw' 21 A0_3 c0_3 a0.f17]) (Bs:=[]) ((F60b0.ok (l0:=a0.f17) (A0:=A0_3) (c0:=c0_3) (g1:=(fun (x0_ : Int)=>F61.f x0_)) (fv1:=.func (.func 61) #[] #[]) (Fr1:=Pk []) (hg1:=(fun {x0_} {r_} C_=>FC.of (pre0:=[]) (Bs:=[]) (cap:=[]) Tryz.func61 nm61 rfl ((F61.ok (a0:=x0_) C_).mono (fun _ _ ⟨hv_,hB_⟩=>⟨_,⟨hv_,rfl⟩,hB_⟩)))) C89).mono (fun (v_ : Value) (B_ : List Asrt) ⟨hv_,hB_⟩=>(⟨[bw' 21 A0_3 c0_3 a0.f17],⟨hv_,rfl⟩,hB_⟩ : ∃ B0_ : List Asrt,(v_ = (.bool r88 : Value)∧B0_ = [bw' 21 A0_3 c0_3 a0.f17])∧B_ = B0_ ++ [Pk []])))) ?_)
   rintro _ _⟨_,⟨rfl,rfl⟩,rfl⟩
   refine y' (dec_t h87) (.bool (!r88)) (V_not rfl) ?_
   refine pT' (dec_t h87) ?_
   have h_:=oi' H;subst h_
   exact rm' [1,2,3,0]
  replace H:=g_iff h87 H
  refine no' 4 (dec_f h87) ?_
  refine pF' (dec_f h87) ?_
  have h_:=oi' H;subst h_
  exact rm' [0,1,2,3]
 replace H:=Bq86
 refine s' (.bool q86) as' ?_
 refine nt' ?_
 have h_:=oi' H;subst h_
 exact b1' [0,1,2,3] ⟨rfl,rfl⟩

end Go.Proofs.YtckilbegmbaeeaaGreat.Z4

/- What functions compute, and that they do: 15b0. -/
import Derived.Test.YtckilbegmbaeeaaGreatZ40
import Derived.Test.YtckilbegmbaeeaaGreatZ41
import Derived.Test.YtckilbegmbaeeaaGreatZ426
namespace Go.Proofs.YtckilbegmbaeeaaGreat.Z4
open Go Go.RowKit Go.Proofs.YtckilbegmbaeeaaGreat.SL
set_option linter.unusedVariables false
set_option maxHeartbeats 20000000
set_option maxRecDepth 100000
set_option linter.unusedSimpArgs false
attribute [local irreducible] IntKind.wrap minI maxI shrI shlI andI orI xorI andNotI cplI rd sub bytesOf strOf slA
variable {c0_0 c0_1 c0_2 c0_3 k : Nat}
variable {A0_0 A0_1 A0_2 A0_3 : Option Addr}
def F15b0.l1 (a0 : S34) : Nat → Int → Option (Out (Bool) (Unit))
  | 0,_=>none
  | k + 1,x5_2100=>if x5_2100 < (a0.f17.length : Int) then (if 0 ≤ x5_2100∧x5_2100 < (a0.f17.length : Int) then (if (rd a0.f17 x5_2100) < 0 then (some (Out.ret (false))) else (lt (IntKind.i64.wrap (x5_2100 + 1)) fun n2107=>F15b0.l1 a0 k n2107)) else none) else (some (Out.go ()))
def F15b0.l0 (a0 : S34) : Nat → Int → Option (Out (Bool) (Unit))
  | 0,_=>none
  | k + 1,x4_45=>if x4_45 < (a0.f7.length : Int) then ((if 0 ≤ x4_45∧x4_45 < (a0.f7.length : Int) then (if (rd a0.f7 x4_45) < 0 then (some true) else (if 0 ≤ x4_45∧x4_45 < (a0.f7.length : Int) then (if (rd a0.f7 x4_45) ≥ a0.f0.f0 then (some true) else (if x4_45 > 0 then (if 0 ≤ x4_45∧x4_45 < (a0.f7.length : Int) then (if 0 ≤ (IntKind.i64.wrap (x4_45 - 1))∧(IntKind.i64.wrap (x4_45 - 1)) < (a0.f7.length : Int) then (some (decide ((rd a0.f7 x4_45) ≤ (rd a0.f7 (IntKind.i64.wrap (x4_45 - 1)))))) else none) else none) else (some false))) else none)) else none : Option (Bool)).bind (fun t49=>if t49 = true then (some (Out.ret (false))) else (lt (IntKind.i64.wrap (x4_45 + 1)) fun n2096=>F15b0.l0 a0 k n2096))) else (some (Out.go ()))
def F15b0.f (k : Nat) (a0 : S34) : Option (Bool):=(F54b0.f k a0.f0).bind (fun r13=>(if (!r13) = true then (some true) else ((F55b0.f a0.f0 a0.f1 a0.f2 a0.f3).bind (fun r16=>some (!r16))) : Option Bool).bind (fun q14=>(if q14 = true then (some true) else ((F55b0.f a0.f0 a0.f14.f0 a0.f14.f1 a0.f14.f2).bind (fun r21=>some (!r21))) : Option Bool).bind (fun q19=>lt (q19 || (decide (a0.f5 < 0))) fun q24=>lt (q24 || (decide (a0.f5 > a0.f6))) fun q27=>lt (q27 || (decide (a0.f6 ≥ a0.f0.f1))) fun q30=>(if q30 = true then (some true) else ((F56.f a0.f4).bind (fun r35=>some (!r35))) : Option Bool).bind (fun q33=>(if q33 = true then (some true) else ((F56.f a0.f14.f4).bind (fun r40=>some (!r40))) : Option Bool).bind (fun q38=>if q38 = true then (some (false)) else ((F15b0.l0 a0 k 0 : Option (Out (Bool) (Unit))).bind (fun t44=>Out.el t44 (fun r_=>some r_) (fun s45=>if (a0.f17.length : Int) > 256 then (some (false)) else ((F15b0.l1 a0 k 0 : Option (Out (Bool) (Unit))).bind (fun t2099=>Out.el t2099 (fun r_=>some r_) (fun s2100=>if a0.f15 = true then ((F54b0.f k a0.f16).bind (fun r2110=>lt (r2110 && (decide (a0.f16.f0 = a0.f0.f0))) fun q2111=>lt (q2111 && (decide (a0.f16.f1 = a0.f0.f1))) fun q2114=>some (q2114))) else (lt ((decide (a0.f16.f0 = 0)) && (decide (a0.f16.f1 = 0))) fun q2118=>lt (q2118 && (decide ((a0.f16.f2.length : Int) = 0))) fun q2121=>some (q2121)))))))))))))
theorem F15b0.ok {a0 : S34} {r : Bool} (H : F15b0.f k a0 = some r) : SCA Tryz.prog 15 #[.agg (c34' a0 A0_0 c0_0 A0_1 c0_1 A0_2 c0_2 A0_3 c0_3).toArray] [Buf k55 55 A0_0 c0_0 a0.f0.f2,bl' 3 A0_1 c0_1 a0.f7,Buf k55 55 A0_2 c0_2 a0.f16.f2,bw' 21 A0_3 c0_3 a0.f17] (fun v B=>v = .bool r∧B = [Buf k55 55 A0_0 c0_0 a0.f0.f2,bl' 3 A0_1 c0_1 a0.f7,Buf k55 55 A0_2 c0_2 a0.f16.f2,bw' 21 A0_3 c0_3 a0.f17]):=by
 refine SCA_of_body Tryz.func15 rfl rfl ?_
 unfold F15b0.f at H
 refine qr' ?_
 refine o' (bx' fun b5=>?_)
 refine s' (.bool false) as' ?_
 refine nr' ?_
 refine s' (pt' b5) (fa' b5 0 0) ?_
 refine l' (lA' b5 0 4 [il' a0.f0.f0,il' a0.f0.f1,.slice A0_0 a0.f0.f2.length c0_0]) ?_
 refine o' (al' fun b7=>?_)
 refine o' (su' b7 0 5 [il' a0.f0.f0,il' a0.f0.f1,.slice A0_0 a0.f0.f2.length c0_0] ?_)
 refine na' (SA_seq (SA_seq ?_))
 refine fc' 0 fun hc9=>?_
 refine fc' 1 fun hc10=>?_
 refine fc' 2 fun hc11=>?_
 refine fc' 3 fun hc12=>?_
 refine SA_region ?_
 refine l' (lA' b7 0 5 [il' a0.f0.f0,il' a0.f0.f1,.slice A0_0 a0.f0.f2.length c0_0]) ?_
 obtain⟨r13,C2124,H⟩:=g_bind H
 refine o' (ca' [0] [1,2,3,4,5] (xf' [.agg #[il' a0.f0.f0,il' a0.f0.f1,.slice A0_0 a0.f0.f2.length c0_0]]) (F54b0.ok (a0:=a0.f0) C2124) ?_)
 rintro _ _⟨rfl,rfl⟩
 refine s' (.bool (!r13)) (V_not rfl) ?_
 refine s' (.bool (!r13)) mv' ?_
 obtain⟨q14,H,Bq14⟩:=g_bind H
 refine cR' 10 [(1,pt' b5),(3,pt' b7),(21,.bool q14)] [Buf k55 55 A0_0 c0_0 a0.f0.f2,bl' 3 A0_1 c0_1 a0.f7,Buf k55 55 A0_2 c0_2 a0.f16.f2,bw' 21 A0_3 c0_3 a0.f17,Blk b5 34 (c34' a0 A0_0 c0_0 A0_1 c0_1 A0_2 c0_2 A0_3 c0_3),Blk b7 26 [il' a0.f0.f0,il' a0.f0.f1,.slice A0_0 a0.f0.f2.length c0_0]] ?_ fun junk=>?_
 ·by_cases h15 : (!r13) = true
  ·replace H:=g_ift h15 H
   refine no' 9 h15 ?_
   refine pT' h15 ?_
   have h_:=oi' H;subst h_
   exact rm' [0,1,2,3,4,5]
  replace H:=g_iff h15 H
  refine z' (bno h15) (lA' b7 0 5 [il' a0.f0.f0,il' a0.f0.f1,.slice A0_0 a0.f0.f2.length c0_0]) ?_
  refine y' (bno h15) (pa' b5 3) (fa' b5 0 3) ?_
  refine z' (bno h15) (ld' b5 3 4) ?_
  refine y' (bno h15) (pa' b5 4) (fa' b5 0 4) ?_
  refine z' (bno h15) (ld' b5 4 4) ?_
  refine y' (bno h15) (pa' b5 5) (fa' b5 0 5) ?_
  refine z' (bno h15) (ld' b5 5 4) ?_
  obtain⟨r16,C17,H⟩:=g_bind H
  refine yo' (bno h15) (ca' [0] [1,2,3,4,5] (xf' [.agg #[il' a0.f0.f0,il' a0.f0.f1,.slice A0_0 a0.f0.f2.length c0_0],il' a0.f1,il' a0.f2,.bool a0.f3]) (F55b0.ok (a0:=a0.f0) (a1:=a0.f1) (a2:=a0.f2) (a3:=a0.f3) C17) ?_)
  rintro _ _⟨rfl,rfl⟩
  refine y' (bno h15) (.bool (!r16)) (V_not rfl) ?_
  refine pF' (bno h15) ?_
  have h_:=oi' H;subst h_
  exact rm' [0,1,2,3,4,5]
 replace H:=Bq14
 refine s' (.bool q14) mv' ?_
 obtain⟨q19,H,Bq19⟩:=g_bind H
 refine cR' 13 [(1,pt' b5),(3,pt' b7),(35,.bool q19)] [Buf k55 55 A0_0 c0_0 a0.f0.f2,bl' 3 A0_1 c0_1 a0.f7,Buf k55 55 A0_2 c0_2 a0.f16.f2,bw' 21 A0_3 c0_3 a0.f17,Blk b5 34 (c34' a0 A0_0 c0_0 A0_1 c0_1 A0_2 c0_2 A0_3 c0_3),Blk b7 26 [il' a0.f0.f0,il' a0.f0.f1,.slice A0_0 a0.f0.f2.length c0_0]] ?_ fun junk=>?_
 ·by_cases h20 : q14 = true
  ·replace H:=g_ift h20 H
   refine no' 12 h20 ?_
   refine pT' h20 ?_
   have h_:=oi' H;subst h_
   exact rm' [0,1,2,3,4,5]
  replace H:=g_iff h20 H
  refine z' (bno h20) (lA' b7 0 5 [il' a0.f0.f0,il' a0.f0.f1,.slice A0_0 a0.f0.f2.length c0_0]) ?_
  refine y' (bno h20) (pa' b5 25) (fa' b5 0 25) ?_
  refine y' (bno h20) (pa' b5 25) (fa' b5 25 25) ?_
  refine z' (bno h20) (ld' b5 25 4) ?_
  refine y' (bno h20) (pa' b5 25) (fa' b5 0 25) ?_
  refine y' (bno h20) (pa' b5 26) (fa' b5 25 26) ?_
  refine z' (bno h20) (ld' b5 26 4) ?_
  refine y' (bno h20) (pa' b5 25) (fa' b5 0 25) ?_
  refine y' (bno h20) (pa' b5 27) (fa' b5 25 27) ?_
  refine z' (bno h20) (ld' b5 27 4) ?_
  obtain⟨r21,C22,H⟩:=g_bind H
  refine yo' (bno h20) (ca' [0] [1,2,3,4,5] (xf' [.agg #[il' a0.f0.f0,il' a0.f0.f1,.slice A0_0 a0.f0.f2.length c0_0],il' a0.f14.f0,il' a0.f14.f1,.bool a0.f14.f2]) (F55b0.ok (a0:=a0.f0) (a1:=a0.f14.f0) (a2:=a0.f14.f1) (a3:=a0.f14.f2) C22) ?_)
  rintro _ _⟨rfl,rfl⟩
  refine y' (bno h20) (.bool (!r21)) (V_not rfl) ?_
  refine pF' (bno h20) ?_
  have h_:=oi' H;subst h_
  exact rm' [0,1,2,3,4,5]
 replace H:=Bq19
 refine s' (.bool q19) mv' ?_
 obtain⟨q24,hq24,H⟩:=g_lt H
 refine cR' 4 [(1,pt' b5),(3,pt' b7),(40,.bool q24)] [Buf k55 55 A0_0 c0_0 a0.f0.f2,bl' 3 A0_1 c0_1 a0.f7,Buf k55 55 A0_2 c0_2 a0.f16.f2,bw' 21 A0_3 c0_3 a0.f17,Blk b5 34 (c34' a0 A0_0 c0_0 A0_1 c0_1 A0_2 c0_2 A0_3 c0_3),Blk b7 26 [il' a0.f0.f0,il' a0.f0.f1,.slice A0_0 a0.f0.f2.length c0_0]] ?_ fun junk=>?_
 ·by_cases h25 : q19 = true
  ·refine no' 3 h25 ?_
   refine pT' h25 ?_
   refine RA_nil ?_
   exact at_normal (St.mk1 (aeq rfl (aeq rfl (aeq (congrArg Value.bool (or_t hq24 (h25))) aeq0))) (gs' [0,1,2,3,4,5]))
  refine y' (bno h25) (pa' b5 16) (fa' b5 0 16) ?_
  refine z' (bno h25) (ld' b5 16 4) ?_
  refine y' (bno h25) (.bool (decide (a0.f5 < 0))) (V_lss rfl rfl) ?_
  refine pF' (bno h25) ?_
  refine RA_nil ?_
  exact at_normal (St.mk1 (aeq rfl (aeq rfl (aeq (congrArg Value.bool (or_f hq24 (bno h25))) aeq0))) (gs' [0,1,2,3,4,5]))
 refine s' (.bool q24) mv' ?_
 obtain⟨q27,hq27,H⟩:=g_lt H
 refine cR' 6 [(1,pt' b5),(3,pt' b7),(47,.bool q27)] [Buf k55 55 A0_0 c0_0 a0.f0.f2,bl' 3 A0_1 c0_1 a0.f7,Buf k55 55 A0_2 c0_2 a0.f16.f2,bw' 21 A0_3 c0_3 a0.f17,Blk b5 34 (c34' a0 A0_0 c0_0 A0_1 c0_1 A0_2 c0_2 A0_3 c0_3),Blk b7 26 [il' a0.f0.f0,il' a0.f0.f1,.slice A0_0 a0.f0.f2.length c0_0]] ?_ fun junk=>?_
 ·by_cases h28 : q24 = true
  ·refine no' 5 h28 ?_
   refine pT' h28 ?_
   refine RA_nil ?_
   exact at_normal (St.mk1 (aeq rfl (aeq rfl (aeq (congrArg Value.bool (or_t hq27 (h28))) aeq0))) (gs' [0,1,2,3,4,5]))
  refine y' (bno h28) (pa' b5 16) (fa' b5 0 16) ?_
  refine z' (bno h28) (ld' b5 16 4) ?_
  refine y' (bno h28) (pa' b5 17) (fa' b5 0 17) ?_
  refine z' (bno h28) (ld' b5 17 4) ?_
  refine y' (bno h28) (.bool (decide (a0.f5 > a0.f6))) (V_gtr rfl rfl) ?_
  refine pF' (bno h28) ?_
  refine RA_nil ?_
  exact at_normal (St.mk1 (aeq rfl (aeq rfl (aeq (congrArg Value.bool (or_f hq27 (bno h28))) aeq0))) (gs' [0,1,2,3,4,5]))
 refine s' (.bool q27) mv' ?_
 obtain⟨q30,hq30,H⟩:=g_lt H
 refine cR' 6 [(1,pt' b5),(3,pt' b7),(54,.bool q30)] [Buf k55 55 A0_0 c0_0 a0.f0.f2,bl' 3 A0_1 c0_1 a0.f7,Buf k55 55 A0_2 c0_2 a0.f16.f2,bw' 21 A0_3 c0_3 a0.f17,Blk b5 34 (c34' a0 A0_0 c0_0 A0_1 c0_1 A0_2 c0_2 A0_3 c0_3),Blk b7 26 [il' a0.f0.f0,il' a0.f0.f1,.slice A0_0 a0.f0.f2.length c0_0]] ?_ fun junk=>?_
 ·by_cases h31 : q27 = true
  ·refine no' 5 h31 ?_
   refine pT' h31 ?_
   refine RA_nil ?_
   exact at_normal (St.mk1 (aeq rfl (aeq rfl (aeq (congrArg Value.bool (or_t hq30 (h31))) aeq0))) (gs' [0,1,2,3,4,5]))
  refine y' (bno h31) (pa' b5 17) (fa' b5 0 17) ?_
  refine z' (bno h31) (ld' b5 17 4) ?_
  refine y' (bno h31) (pa' b7 1) (fa' b7 0 1) ?_
  refine z' (bno h31) (ld' b7 1 5) ?_
  refine y' (bno h31) (.bool (decide (a0.f6 ≥ a0.f0.f1))) (V_geq rfl rfl) ?_
  refine pF' (bno h31) ?_
  refine RA_nil ?_
  exact at_normal (St.mk1 (aeq rfl (aeq rfl (aeq (congrArg Value.bool (or_f hq30 (bno h31))) aeq0))) (gs' [0,1,2,3,4,5]))
 refine s' (.bool q30) mv' ?_
 obtain⟨q33,H,Bq33⟩:=g_bind H
 refine cR' 5 [(1,pt' b5),(3,pt' b7),(60,.bool q33)] [Buf k55 55 A0_0 c0_0 a0.f0.f2,bl' 3 A0_1 c0_1 a0.f7,Buf k55 55 A0_2 c0_2 a0.f16.f2,bw' 21 A0_3 c0_3 a0.f17,Blk b5 34 (c34' a0 A0_0 c0_0 A0_1 c0_1 A0_2 c0_2 A0_3 c0_3),Blk b7 26 [il' a0.f0.f0,il' a0.f0.f1,.slice A0_0 a0.f0.f2.length c0_0]] ?_ fun junk=>?_
 ·by_cases h34 : q30 = true
  ·replace H:=g_ift h34 H
   refine no' 4 h34 ?_
   refine pT' h34 ?_
   have h_:=oi' H;subst h_
   exact rm' [0,1,2,3,4,5]
  replace H:=g_iff h34 H
  refine y' (bno h34) (pa' b5 6) (fa' b5 0 6) ?_
  refine z' (bno h34) (lA' b5 6 4 (c28' a0.f4)) ?_
  obtain⟨r35,C36,H⟩:=g_bind H
  refine yo' (bno h34) (ca' [] [0,1,2,3,4,5] (xf' [.agg (c28' a0.f4).toArray]) (F56.ok (a0:=a0.f4) C36) ?_)
  rintro _ _⟨rfl,rfl⟩
  refine y' (bno h34) (.bool (!r35)) (V_not rfl) ?_
  refine pF' (bno h34) ?_
  have h_:=oi' H;subst h_
  exact rm' [0,1,2,3,4,5]
 replace H:=Bq33
 refine s' (.bool q33) mv' ?_
 obtain⟨q38,H,Bq38⟩:=g_bind H
 refine RA_cut 6 (fun e ds As=>St [(1,pt' b5),(3,pt' b7),(67,.bool q38)] [Buf k55 55 A0_0 c0_0 a0.f0.f2,bl' 3 A0_1 c0_1 a0.f7,Buf k55 55 A0_2 c0_2 a0.f16.f2,bw' 21 A0_3 c0_3 a0.f17,Blk b5 34 (c34' a0 A0_0 c0_0 A0_1 c0_1 A0_2 c0_2 A0_3 c0_3),Blk b7 26 [il' a0.f0.f0,il' a0.f0.f1,.slice A0_0 a0.f0.f2.length c0_0]] e ds As) ?_ ?_
 ·by_cases h39 : q33 = true
  ·replace H:=g_ift h39 H
   refine no' 5 h39 ?_
   refine pT' h39 ?_
   have h_:=oi' H;subst h_
   exact rm' [0,1,2,3,4,5]
  replace H:=g_iff h39 H
  refine y' (bno h39) (pa' b5 25) (fa' b5 0 25) ?_
  refine y' (bno h39) (pa' b5 29) (fa' b5 25 29) ?_
  refine z' (bno h39) (lA' b5 29 4 (c28' a0.f14.f4)) ?_
  obtain⟨r40,C41,H⟩:=g_bind H
  refine yo' (bno h39) (ca' [] [0,1,2,3,4,5] (xf' [.agg (c28' a0.f14.f4).toArray]) (F56.ok (a0:=a0.f14.f4) C41) ?_)
  rintro _ _⟨rfl,rfl⟩
  refine y' (bno h39) (.bool (!r40)) (V_not rfl) ?_
  refine pF' (bno h39) ?_
  have h_:=oi' H;subst h_
  exact rm' [0,1,2,3,4,5]
 rintro e ds As hst42
 clear H
 have H:=Bq38
 clear Bq38
 refine na' ?_
 refine SA.of_St hst42 fun junk=>?_
 by_cases h43 : q38 = true
 ·replace H:=g_ift h43 H
  refine SA_condTb rfl h43 ?_
  refine qr' ?_
  refine s' (.bool false) as' ?_
  refine ntt' ?_
  have h_:=oi' H;subst h_
  exact b1' [0,1,2,3] ⟨rfl,rfl⟩
 replace H:=g_iff h43 H
 refine SA_condFb rfl h43 ?_
 refine SA_skip (at_normal (SA_seq (qr' ?_)))
 refine s' (il' 0) as' ?_
 refine na' ?_
 obtain⟨t44,H,Bt44⟩:=g_bind H
 refine SA_mid (fun e ds As=>∃ (s45 : Unit),t44 = Out.go s45∧St [(1,pt' b5),(3,pt' b7)] [Buf k55 55 A0_0 c0_0 a0.f0.f2,bl' 3 A0_1 c0_1 a0.f7,Buf k55 55 A0_2 c0_2 a0.f16.f2,bw' 21 A0_3 c0_3 a0.f17,Blk b5 34 (c34' a0 A0_0 c0_0 A0_1 c0_1 A0_2 c0_2 A0_3 c0_3),Blk b7 26 [il' a0.f0.f0,il' a0.f0.f1,.slice A0_0 a0.f0.f2.length c0_0]] e ds As) ?_ ?_
 ·refine SA_block ?_
  refine SA_loop (fun k_ e ds As=>∃ (x4_45 : Int),F15b0.l0 a0 k_ x4_45 = some t44∧St [(1,pt' b5),(3,pt' b7),(4,il' x4_45)] [Buf k55 55 A0_0 c0_0 a0.f0.f2,bl' 3 A0_1 c0_1 a0.f7,Buf k55 55 A0_2 c0_2 a0.f16.f2,bw' 21 A0_3 c0_3 a0.f17,Blk b5 34 (c34' a0 A0_0 c0_0 A0_1 c0_1 A0_2 c0_2 A0_3 c0_3),Blk b7 26 [il' a0.f0.f0,il' a0.f0.f1,.slice A0_0 a0.f0.f2.length c0_0]] e ds As) (k:=k) ⟨_,H,sq' [0,1,2,3,4,5]⟩ ?_
  clear H
  rintro k46 e ds As ⟨x4_45,H,hst47⟩
  obtain _ | k46:=k46
  ·cases H
  rw [F15b0.l0] at H
  refine SA.of_St hst47 fun junk=>?_
  refine SA_seq (qr' ?_)
  refine s' (il' x4_45) mv' ?_
  refine s' (pa' b5 18) (fa' b5 0 18) ?_
  refine l' (ld' b5 18 4) ?_
  refine s' (il' (a0.f7.length : Int)) (V_len Tryz.underlying29 rfl) ?_
  refine s' (.bool (decide (x4_45 < (a0.f7.length : Int)))) (V_lss rfl rfl) ?_
  refine na' ?_
  by_cases h48 : x4_45 < (a0.f7.length : Int)
  ·replace H:=g_ift h48 H
   refine SA_condT rfl h48 ?_
   refine SA_skip (at_normal (SA_seq (SA_block (SA_seq ?_))))
   obtain⟨t49,H,Bt49⟩:=g_bind H
   refine SA_mid (fun e ds As=>St [(1,pt' b5),(3,pt' b7),(4,il' x4_45),(108,.bool t49)] [Buf k55 55 A0_0 c0_0 a0.f0.f2,bl' 3 A0_1 c0_1 a0.f7,Buf k55 55 A0_2 c0_2 a0.f16.f2,bw' 21 A0_3 c0_3 a0.f17,Blk b5 34 (c34' a0 A0_0 c0_0 A0_1 c0_1 A0_2 c0_2 A0_3 c0_3),Blk b7 26 [il' a0.f0.f0,il' a0.f0.f1,.slice A0_0 a0.f0.f2.length c0_0]] e ds As) ?_ ?_
   ·refine SA_drawHq (rg' 0 34) (List.toArray ([]::[0]::[]::[0,1,2]::(rg' 0 4)::(rg' 0 5)::(rg' 0 6)::(rg' 0 7)::(rg' 0 8)::(rg' 0 7)::(rg' 0 10)::(rg' 0 11)::(rg' 0 7)::[0,1,2,3,4,5,6,12]::(rg' 0 14)::(rg' 0 15)::(rg' 0 16)::(rg' 0 17)::(rg' 0 18)::(rg' 0 19)::(rg' 0 20)::(rg' 0 21)::(rg' 0 20)::(rg' 0 23)::(rg' 0 24)::(rg' 0 20)::(0::1::2::3::4::5::6::7::8::9::10::11::12::13::14::15::16::17::18::19::25::[])::(rg' 0 20)::(0::1::2::3::4::5::6::7::8::9::10::11::12::13::14::15::16::17::18::19::27::[])::(0::1::2::3::4::5::6::7::8::9::10::11::12::13::14::15::16::17::18::19::25::26::27::28::[])::(0::1::2::3::4::5::6::7::8::9::10::11::12::13::14::15::16::17::18::19::25::26::27::28::29::[])::(rg' 0 31)::(rg' 0 32)::(rg' 0 33)::[])) [1,4,5] [0,2,3] mixed rfl rfl rfl (PanOk.thn (PanOk.thn (PanOk.inb (PanOk.thn (PanOk.thn (PanOk.inb (PanOk.thn (PanOk.thn PanOk.body)))))))) fun I0 hS h0 hh0 w0 sH dd pk=>?_
    refine t' (pa' b5 18) 0 rfl sH (fa' b5 0 18) ?_
    refine r' 1 rfl sH (ld' b5 18 1) ?_
    refine t' (il' x4_45) 2 rfl sH mv' ?_
    obtain⟨⟨g230,g231⟩,H⟩:=g_pos H
    refine r' 3 rfl sH (VR_index (i:=x4_45) Tryz.underlying29 sz3 rfl rfl (Src.buf (k:=0) rfl) g230 g231) ?_
    refine r' 4 rfl sH (VR_load_el (enc:=(fun x_ : Int=>[Value.int .i64 x_])) (i:=x4_45) (j:=x4_45.toNat * 1) (m:=0) (sz:=1) Tryz.underlying3 rfl rfl rfl rfl (Src.buf (k:=0) rfl) g230 g231 (fun _ _ h=>h) rfl) ?_
    refine t' (.bool (decide ((rd a0.f7 x4_45) < 0))) 5 rfl sH (V_lss rfl rfl) ?_
    refine t' (.bool (decide ((rd a0.f7 x4_45) < 0))) 6 rfl sH mv' ?_
    by_cases h2091 : (rd a0.f7 x4_45) < 0
    ·replace H:=g_ift h2091 H
     refine dn' 7 rfl (dec_t h2091) ?_
     refine dn' 8 rfl (dec_t h2091) ?_
     refine dn' 9 rfl (dec_t h2091) ?_
     refine dn' 10 rfl (dec_t h2091) ?_
     refine dn' 11 rfl (dec_t h2091) ?_
     refine dn' 12 rfl (dec_t h2091) ?_
     refine dn' 13 rfl (dec_t h2091) ?_
     refine dn' 14 rfl (dec_t h2091) ?_
     refine r' 15 rfl sH (VR.ofV (V_pickT rfl (dec_t h2091) rfl)) ?_
     refine t' (.bool true) 16 rfl sH mv' ?_
     refine dn' 17 rfl rfl ?_
     refine dn' 18 rfl rfl ?_
     refine dn' 19 rfl rfl ?_
     refine du' 20 rfl ?_
     refine du' 21 rfl ?_
     refine du' 22 rfl ?_
     refine du' 23 rfl ?_
     refine du' 24 rfl ?_
     refine du' 25 rfl ?_
     refine du' 26 rfl ?_
     refine du' 27 rfl ?_
     refine du' 28 rfl ?_
     refine du' 29 rfl ?_
     refine du' 30 rfl ?_
     refine du' 31 rfl ?_
     refine dn' 32 rfl rfl ?_
     refine r' 33 rfl sH (VR.ofV (V_pickT rfl (rfl) rfl)) ?_
     refine DH_open dd sH ?_
     refine DN_done (by kernel_rfl) ?_
     have h_:=oi' H;subst h_
     exact sm' [3,0,4,5,1,2]
    replace H:=g_iff h2091 H
    refine ty' (pa' b5 18) 7 rfl (dec_f h2091) sH (fa' b5 0 18) ?_
    refine ry' 8 rfl (dec_f h2091) sH (ld' b5 18 1) ?_
    refine ty' (il' x4_45) 9 rfl (dec_f h2091) sH mv' ?_
    obtain⟨⟨g650,g651⟩,H⟩:=g_pos H
    refine ry' 10 rfl (dec_f h2091) sH (VR_index (i:=x4_45) Tryz.underlying29 sz3 rfl rfl (Src.buf (k:=0) rfl) g650 g651) ?_
    refine ry' 11 rfl (dec_f h2091) sH (VR_load_el (enc:=(fun x_ : Int=>[Value.int .i64 x_])) (i:=x4_45) (j:=x4_45.toNat * 1) (m:=0) (sz:=1) Tryz.underlying3 rfl rfl rfl rfl (Src.buf (k:=0) rfl) g650 g651 (fun _ _ h=>h) rfl) ?_
    refine ty' (pt' b7) 12 rfl (dec_f h2091) sH (fa' b7 0 0) ?_
    refine ry' 13 rfl (dec_f h2091) sH (ld' b7 0 2) ?_
    refine ty' (.bool (decide ((rd a0.f7 x4_45) ≥ a0.f0.f0))) 14 rfl (dec_f h2091) sH (V_geq rfl rfl) ?_
    refine r' 15 rfl sH (VR.ofV (V_pickF rfl (dec_f h2091) rfl)) ?_
    refine t' (.bool (decide ((rd a0.f7 x4_45) ≥ a0.f0.f0))) 16 rfl sH mv' ?_
    by_cases h2092 : (rd a0.f7 x4_45) ≥ a0.f0.f0
    ·replace H:=g_ift h2092 H
     refine dn' 17 rfl (dec_t h2092) ?_
     refine dn' 18 rfl (dec_t h2092) ?_
     refine dn' 19 rfl (dec_t h2092) ?_
     refine du' 20 rfl ?_
     refine du' 21 rfl ?_
     refine du' 22 rfl ?_
     refine du' 23 rfl ?_
     refine du' 24 rfl ?_
     refine du' 25 rfl ?_
     refine du' 26 rfl ?_
     refine du' 27 rfl ?_
     refine du' 28 rfl ?_
     refine du' 29 rfl ?_
     refine du' 30 rfl ?_
     refine du' 31 rfl ?_
     refine dn' 32 rfl (dec_t h2092) ?_
     refine r' 33 rfl sH (VR.ofV (V_pickT rfl (dec_t h2092) rfl)) ?_
     refine DH_open dd sH ?_
     refine DN_done (by kernel_rfl) ?_
     have h_:=oi' H;subst h_
     exact sm' [3,0,4,5,1,2]
    replace H:=g_iff h2092 H
    refine ty' (il' x4_45) 17 rfl (dec_f h2092) sH mv' ?_
    refine ty' (.bool (decide (x4_45 > 0))) 18 rfl (dec_f h2092) sH (V_gtr rfl rfl) ?_
    refine ty' (.bool (decide (x4_45 > 0))) 19 rfl (dec_f h2092) sH mv' ?_
    by_cases h2093 : x4_45 > 0
    ·replace H:=g_ift h2093 H
     refine ty' (pa' b5 18) 20 rfl (dec_t h2093) sH (fa' b5 0 18) ?_
     refine ry' 21 rfl (dec_t h2093) sH (ld' b5 18 1) ?_
     refine ty' (il' x4_45) 22 rfl (dec_t h2093) sH mv' ?_
     obtain⟨⟨g1430,g1431⟩,H⟩:=g_pos H
     refine ry' 23 rfl (dec_t h2093) sH (VR_index (i:=x4_45) Tryz.underlying29 sz3 rfl rfl (Src.buf (k:=0) rfl) g1430 g1431) ?_
     refine ry' 24 rfl (dec_t h2093) sH (VR_load_el (enc:=(fun x_ : Int=>[Value.int .i64 x_])) (i:=x4_45) (j:=x4_45.toNat * 1) (m:=0) (sz:=1) Tryz.underlying3 rfl rfl rfl rfl (Src.buf (k:=0) rfl) g1430 g1431 (fun _ _ h=>h) rfl) ?_
     refine ty' (pa' b5 18) 25 rfl (dec_t h2093) sH (fa' b5 0 18) ?_
     refine ry' 26 rfl (dec_t h2093) sH (ld' b5 18 1) ?_
     refine ty' (il' x4_45) 27 rfl (dec_t h2093) sH mv' ?_
     refine ty' (il' (IntKind.i64.wrap (x4_45 - 1))) 28 rfl (dec_t h2093) sH (V_sub rfl rfl) ?_
     obtain⟨⟨g1790,g1791⟩,H⟩:=g_pos H
     refine ry' 29 rfl (dec_t h2093) sH (VR_index (i:=IntKind.i64.wrap (x4_45 - 1)) Tryz.underlying29 sz3 rfl rfl (Src.buf (k:=0) rfl) g1790 g1791) ?_
     refine ry' 30 rfl (dec_t h2093) sH (VR_load_el (enc:=(fun x_ : Int=>[Value.int .i64 x_])) (i:=IntKind.i64.wrap (x4_45 - 1)) (j:=(IntKind.i64.wrap (x4_45 - 1)).toNat * 1) (m:=0) (sz:=1) Tryz.underlying3 rfl rfl rfl rfl (Src.buf (k:=0) rfl) g1790 g1791 (fun _ _ h=>h) rfl) ?_
     refine ty' (.bool (decide ((rd a0.f7 x4_45) ≤ (rd a0.f7 (IntKind.i64.wrap (x4_45 - 1)))))) 31 rfl (dec_t h2093) sH (V_leq rfl rfl) ?_
     refine ry' 32 rfl (dec_f h2092) sH (VR.ofV (V_pickT rfl (dec_t h2093) rfl)) ?_
     refine r' 33 rfl sH (VR.ofV (V_pickF rfl (dec_f h2092) rfl)) ?_
     refine DH_open dd sH ?_
     refine DN_done (by kernel_rfl) ?_
     have h_:=oi' H;subst h_
     exact sm' [3,0,4,5,1,2]
    replace H:=g_iff h2093 H
    refine dn' 20 rfl (dec_f h2093) ?_
    refine dn' 21 rfl (dec_f h2093) ?_
    refine dn' 22 rfl (dec_f h2093) ?_
    refine dn' 23 rfl (dec_f h2093) ?_
    refine dn' 24 rfl (dec_f h2093) ?_
    refine dn' 25 rfl (dec_f h2093) ?_
    refine dn' 26 rfl (dec_f h2093) ?_
    refine dn' 27 rfl (dec_f h2093) ?_
    refine dn' 28 rfl (dec_f h2093) ?_
    refine dn' 29 rfl (dec_f h2093) ?_
    refine dn' 30 rfl (dec_f h2093) ?_
    refine dn' 31 rfl (dec_f h2093) ?_
    refine ry' 32 rfl (dec_f h2092) sH (VR.ofV (V_pickF rfl (dec_f h2093) rfl)) ?_
    refine r' 33 rfl sH (VR.ofV (V_pickF rfl (dec_f h2092) rfl)) ?_
    refine DH_open dd sH ?_
    refine DN_done (by kernel_rfl) ?_
    have h_:=oi' H;subst h_
    exact sm' [3,0,4,5,1,2]
   rintro e ds As hst2094
   clear H
   have H:=Bt49
   clear Bt49
   refine at_normal ?_
   refine SA.of_St hst2094 fun junk=>?_
   by_cases h2095 : t49 = true
   ·replace H:=g_ift h2095 H
    refine SA_condTb rfl h2095 ?_
    refine qr' ?_
    refine s' (.bool false) as' ?_
    refine nt' (inb_ret (thn_ret (thn_ret (inb_ret (thn_ret (thn_ret ?_))))))
    have h_:=oi' H;subst h_
    have hb_:=el_ret Bt44
    have hr_:=Option.some.inj hb_
    clear hb_
    subst hr_
    exact b1' [0,1,2,3] ⟨rfl,rfl⟩
   replace H:=g_iff h2095 H
   refine SA_condFb rfl h2095 ?_
   refine SA_skip (inb_normal (at_normal (SA_region ?_)))
   refine s' (il' x4_45) mv' ?_
   refine s' (il' (IntKind.i64.wrap (x4_45 + 1))) (V_add rfl rfl) ?_
   obtain⟨n2096,hn2096,H⟩:=g_lt H
   refine s' (il' n2096) (V_assign (v:=il' n2096) (congrArg (Value.int .i64) hn2096.symm)) ?_
   refine RA_nil ?_
   exact at_normal ⟨k46,Nat.lt_succ_self _,_,H,sq' [0,1,2,3,4,5]⟩
  replace H:=g_iff h48 H
  refine SA_condF rfl h48 ?_
  refine SA_exit (thn_exit (thn_exit (inb_hit ?_)))
  have h_:=oi' H;subst h_
  exact at_normal ⟨(),rfl,sq' [0,1,2,3,4,5]⟩
 rintro e ds As ⟨s45,ht,hst2097⟩
 clear H
 subst ht
 replace Bt44:=el_go Bt44
 have H:=Bt44
 clear Bt44
 refine at_normal ?_
 refine SA.of_St hst2097 fun junk=>?_
 refine SA_seq (qr' ?_)
 refine s' (pa' b5 43) (fa' b5 0 43) ?_
 refine l' (ld' b5 43 4) ?_
 refine s' (il' (a0.f17.length : Int)) (V_len Tryz.underlying32 rfl) ?_
 refine s' (.bool (decide ((a0.f17.length : Int) > 256))) (V_gtr rfl rfl) ?_
 refine na' ?_
 by_cases h2098 : (a0.f17.length : Int) > 256
 ·replace H:=g_ift h2098 H
  refine SA_condT rfl h2098 ?_
  refine qr' ?_
  refine s' (.bool false) as' ?_
  refine ntt' ?_
  have h_:=oi' H;subst h_
  exact b1' [0,1,2,3] ⟨rfl,rfl⟩
 replace H:=g_iff h2098 H
 refine SA_condF rfl h2098 ?_
 refine SA_skip (at_normal (SA_seq (qr' ?_)))
 refine s' (il' 0) as' ?_
 refine na' ?_
 obtain⟨t2099,H,Bt2099⟩:=g_bind H
 refine SA_mid (fun e ds As=>∃ (s2100 : Unit),t2099 = Out.go s2100∧St [(1,pt' b5),(3,pt' b7)] [Buf k55 55 A0_0 c0_0 a0.f0.f2,bl' 3 A0_1 c0_1 a0.f7,Buf k55 55 A0_2 c0_2 a0.f16.f2,bw' 21 A0_3 c0_3 a0.f17,Blk b5 34 (c34' a0 A0_0 c0_0 A0_1 c0_1 A0_2 c0_2 A0_3 c0_3),Blk b7 26 [il' a0.f0.f0,il' a0.f0.f1,.slice A0_0 a0.f0.f2.length c0_0]] e ds As) ?_ ?_
 ·refine SA_block ?_
  refine SA_loop (fun k_ e ds As=>∃ (x5_2100 : Int),F15b0.l1 a0 k_ x5_2100 = some t2099∧St [(1,pt' b5),(3,pt' b7),(5,il' x5_2100)] [Buf k55 55 A0_0 c0_0 a0.f0.f2,bl' 3 A0_1 c0_1 a0.f7,Buf k55 55 A0_2 c0_2 a0.f16.f2,bw' 21 A0_3 c0_3 a0.f17,Blk b5 34 (c34' a0 A0_0 c0_0 A0_1 c0_1 A0_2 c0_2 A0_3 c0_3),Blk b7 26 [il' a0.f0.f0,il' a0.f0.f1,.slice A0_0 a0.f0.f2.length c0_0]] e ds As) (k:=k) ⟨_,H,sq' [0,1,2,3,4,5]⟩ ?_
  clear H
  rintro k2101 e ds As ⟨x5_2100,H,hst2102⟩
  obtain _ | k2101:=k2101
  ·cases H
  rw [F15b0.l1] at H
  refine SA.of_St hst2102 fun junk=>?_
  refine SA_seq (qr' ?_)
  refine s' (il' x5_2100) mv' ?_
  refine s' (pa' b5 43) (fa' b5 0 43) ?_
  refine l' (ld' b5 43 4) ?_
  refine s' (il' (a0.f17.length : Int)) (V_len Tryz.underlying32 rfl) ?_
  refine s' (.bool (decide (x5_2100 < (a0.f17.length : Int)))) (V_lss rfl rfl) ?_
  refine na' ?_
  by_cases h2103 : x5_2100 < (a0.f17.length : Int)
  ·replace H:=g_ift h2103 H
   refine SA_condT rfl h2103 ?_
   refine SA_skip (at_normal (SA_seq (SA_block (qr' ?_))))
   refine s' (pa' b5 43) (fa' b5 0 43) ?_
   refine l' (ld' b5 43 4) ?_
   refine s' (il' x5_2100) mv' ?_
   obtain⟨⟨g2104,g2105⟩,H⟩:=g_pos H
   refine l' (VR_index (i:=x5_2100) Tryz.underlying32 sz21 rfl rfl (Src.buf (k:=3) rfl) g2104 g2105) ?_
   refine l' (VR_load_el (enc:=(fun x_ : Int=>[Value.int .i32 x_])) (i:=x5_2100) (j:=x5_2100.toNat * 1) (m:=0) (sz:=1) Tryz.underlying21 rfl rfl rfl rfl (Src.buf (k:=3) rfl) g2104 g2105 (fun _ _ h=>h) rfl) ?_
   refine s' (.bool (decide ((rd a0.f17 x5_2100) < 0))) (V_lss rfl rfl) ?_
   refine na' ?_
   by_cases h2106 : (rd a0.f17 x5_2100) < 0
   ·replace H:=g_ift h2106 H
    refine SA_condT rfl h2106 ?_
    refine qr' ?_
    refine s' (.bool false) as' ?_
    refine nt' (inb_ret (thn_ret (thn_ret (inb_ret (thn_ret (thn_ret ?_))))))
    have h_:=oi' H;subst h_
    have hb_:=el_ret Bt2099
    have hr_:=Option.some.inj hb_
    clear hb_
    subst hr_
    exact b1' [0,1,2,3] ⟨rfl,rfl⟩
   replace H:=g_iff h2106 H
   refine SA_condF rfl h2106 ?_
   refine SA_skip (inb_normal (at_normal (SA_region ?_)))
   refine s' (il' x5_2100) mv' ?_
   refine s' (il' (IntKind.i64.wrap (x5_2100 + 1))) (V_add rfl rfl) ?_
   obtain⟨n2107,hn2107,H⟩:=g_lt H
   refine s' (il' n2107) (V_assign (v:=il' n2107) (congrArg (Value.int .i64) hn2107.symm)) ?_
   refine RA_nil ?_
   exact at_normal ⟨k2101,Nat.lt_succ_self _,_,H,sq' [0,1,2,3,4,5]⟩
  replace H:=g_iff h2103 H
  refine SA_condF rfl h2103 ?_
  refine SA_exit (thn_exit (thn_exit (inb_hit ?_)))
  have h_:=oi' H;subst h_
  exact at_normal ⟨(),rfl,sq' [0,1,2,3,4,5]⟩
 rintro e ds As ⟨s2100,ht,hst2108⟩
 clear H
 subst ht
 replace Bt2099:=el_go Bt2099
 have H:=Bt2099
 clear Bt2099
 refine at_normal ?_
 refine SA.of_St hst2108 fun junk=>?_
 refine SA_seq (qr' ?_)
 refine s' (pa' b5 39) (fa' b5 0 39) ?_
 refine l' (ld' b5 39 4) ?_
 refine na' ?_
 by_cases h2109 : a0.f15 = true
 ·replace H:=g_ift h2109 H
  refine SA_condTb rfl h2109 ?_
  refine qr' ?_
  refine s' (pa' b5 40) (fa' b5 0 40) ?_
  refine l' (lA' b5 40 4 [il' a0.f16.f0,il' a0.f16.f1,.slice A0_2 a0.f16.f2.length c0_2]) ?_
  obtain⟨r2110,C2117,H⟩:=g_bind H
  refine o' (ca' [2] [0,1,3,4,5] (xf' [.agg #[il' a0.f16.f0,il' a0.f16.f1,.slice A0_2 a0.f16.f2.length c0_2]]) (F54b0.ok (a0:=a0.f16) C2117) ?_)
  rintro _ _⟨rfl,rfl⟩
  refine s' (.bool r2110) mv' ?_
  obtain⟨q2111,hq2111,H⟩:=g_lt H
  refine cR' 7 [(1,pt' b5),(3,pt' b7),(138,.bool q2111)] [Buf k55 55 A0_0 c0_0 a0.f0.f2,bl' 3 A0_1 c0_1 a0.f7,Buf k55 55 A0_2 c0_2 a0.f16.f2,bw' 21 A0_3 c0_3 a0.f17,Blk b5 34 (c34' a0 A0_0 c0_0 A0_1 c0_1 A0_2 c0_2 A0_3 c0_3),Blk b7 26 [il' a0.f0.f0,il' a0.f0.f1,.slice A0_0 a0.f0.f2.length c0_0]] ?_ fun junk=>?_
  ·by_cases h2112 : r2110 = true
   ·refine y' h2112 (pa' b5 40) (fa' b5 0 40) ?_
    refine y' h2112 (pa' b5 40) (fa' b5 40 40) ?_
    refine z' h2112 (ld' b5 40 4) ?_
    refine y' h2112 (pt' b7) (fa' b7 0 0) ?_
    refine z' h2112 (ld' b7 0 5) ?_
    refine y' h2112 (.bool (decide (a0.f16.f0 = a0.f0.f0))) (V_eql rfl rfl) ?_
    refine pT' h2112 ?_
    refine RA_nil ?_
    exact at_normal (St.mk1 (aeq rfl (aeq rfl (aeq (congrArg Value.bool (and_t hq2111 (h2112))) aeq0))) (gs' [1,2,0,3,4,5]))
   refine no' 6 (bno h2112) ?_
   refine pF' (bno h2112) ?_
   refine RA_nil ?_
   exact at_normal (St.mk1 (aeq rfl (aeq rfl (aeq (congrArg Value.bool (and_f hq2111 (bno h2112))) aeq0))) (gs' [1,2,0,3,4,5]))
  refine s' (.bool q2111) mv' ?_
  obtain⟨q2114,hq2114,H⟩:=g_lt H
  refine cR' 7 [(146,.bool q2114)] [Buf k55 55 A0_0 c0_0 a0.f0.f2,bl' 3 A0_1 c0_1 a0.f7,Buf k55 55 A0_2 c0_2 a0.f16.f2,bw' 21 A0_3 c0_3 a0.f17] ?_ fun junk=>?_
  ·by_cases h2115 : q2111 = true
   ·refine y' h2115 (pa' b5 40) (fa' b5 0 40) ?_
    refine y' h2115 (pa' b5 41) (fa' b5 40 41) ?_
    refine z' h2115 (ld' b5 41 4) ?_
    refine y' h2115 (pa' b7 1) (fa' b7 0 1) ?_
    refine z' h2115 (ld' b7 1 5) ?_
    refine y' h2115 (.bool (decide (a0.f16.f1 = a0.f0.f1))) (V_eql rfl rfl) ?_
    refine pT' h2115 ?_
    refine RA_nil ?_
    exact at_normal (St.mk1 (aeq (congrArg Value.bool (and_t hq2114 (h2115))) aeq0) (gs' [0,1,2,3]))
   refine no' 6 (bno h2115) ?_
   refine pF' (bno h2115) ?_
   refine RA_nil ?_
   exact at_normal (St.mk1 (aeq (congrArg Value.bool (and_f hq2114 (bno h2115))) aeq0) (gs' [0,1,2,3]))
  refine s' (.bool q2114) as' ?_
  refine ntt' ?_
  have h_:=oi' H;subst h_
  exact b1' [0,1,2,3] ⟨rfl,rfl⟩
 replace H:=g_iff h2109 H
 refine SA_condFb rfl h2109 ?_
 refine SA_skip (at_normal (qr' ?_))
 refine s' (pa' b5 40) (fa' b5 0 40) ?_
 refine s' (pa' b5 40) (fa' b5 40 40) ?_
 refine l' (ld' b5 40 4) ?_
 refine s' (.bool (decide (a0.f16.f0 = 0))) (V_eql rfl rfl) ?_
 refine s' (.bool (decide (a0.f16.f0 = 0))) mv' ?_
 obtain⟨q2118,hq2118,H⟩:=g_lt H
 refine cR' 5 [(1,pt' b5),(156,.bool q2118)] [Buf k55 55 A0_0 c0_0 a0.f0.f2,bl' 3 A0_1 c0_1 a0.f7,Buf k55 55 A0_2 c0_2 a0.f16.f2,bw' 21 A0_3 c0_3 a0.f17,Blk b5 34 (c34' a0 A0_0 c0_0 A0_1 c0_1 A0_2 c0_2 A0_3 c0_3)] ?_ fun junk=>?_
 ·by_cases h2119 : a0.f16.f0 = 0
  ·refine y' (dec_t h2119) (pa' b5 40) (fa' b5 0 40) ?_
   refine y' (dec_t h2119) (pa' b5 41) (fa' b5 40 41) ?_
   refine z' (dec_t h2119) (ld' b5 41 4) ?_
   refine y' (dec_t h2119) (.bool (decide (a0.f16.f1 = 0))) (V_eql rfl rfl) ?_
   refine pT' (dec_t h2119) ?_
   refine RA_nil ?_
   exact at_normal (St.mk1 (aeq rfl (aeq (congrArg Value.bool (and_t hq2118 (dec_t h2119))) aeq0)) (gs' [0,1,2,3,4]))
  refine no' 4 (dec_f h2119) ?_
  refine pF' (dec_f h2119) ?_
  refine RA_nil ?_
  exact at_normal (St.mk1 (aeq rfl (aeq (congrArg Value.bool (and_f hq2118 (dec_f h2119))) aeq0)) (gs' [0,1,2,3,4]))
 refine s' (.bool q2118) mv' ?_
 obtain⟨q2121,hq2121,H⟩:=g_lt H
 refine cR' 6 [(163,.bool q2121)] [Buf k55 55 A0_0 c0_0 a0.f0.f2,bl' 3 A0_1 c0_1 a0.f7,Buf k55 55 A0_2 c0_2 a0.f16.f2,bw' 21 A0_3 c0_3 a0.f17] ?_ fun junk=>?_
 ·by_cases h2122 : q2118 = true
  ·refine y' h2122 (pa' b5 40) (fa' b5 0 40) ?_
   refine y' h2122 (pa' b5 42) (fa' b5 40 42) ?_
   refine z' h2122 (ld' b5 42 4) ?_
   refine y' h2122 (il' (a0.f16.f2.length : Int)) (V_len Tryz.underlying24 rfl) ?_
   refine y' h2122 (.bool (decide ((a0.f16.f2.length : Int) = 0))) (V_eql rfl rfl) ?_
   refine pT' h2122 ?_
   refine RA_nil ?_
   exact at_normal (St.mk1 (aeq (congrArg Value.bool (and_t hq2121 (h2122))) aeq0) (gs' [0,1,2,3]))
  refine no' 5 (bno h2122) ?_
  refine pF' (bno h2122) ?_
  refine RA_nil ?_
  exact at_normal (St.mk1 (aeq (congrArg Value.bool (and_f hq2121 (bno h2122))) aeq0) (gs' [0,1,2,3]))
 refine s' (.bool q2121) as' ?_
 refine nt' ?_
 have h_:=oi' H;subst h_
 exact b1' [0,1,2,3] ⟨rfl,rfl⟩

end Go.Proofs.YtckilbegmbaeeaaGreat.Z4

/- What functions compute, and that they do: 12, 39. -/
import Derived.Test.YtckilbegmbaeeaaGreatZ50
import Derived.Test.YtckilbegmbaeeaaGreatZ51
import Derived.Test.YtckilbegmbaeeaaGreatZ52
import Derived.Test.YtckilbegmbaeeaaGreatZ53
import Derived.Test.YtckilbegmbaeeaaGreatZ56
import Derived.Test.YtckilbegmbaeeaaGreatZ57
import Derived.Test.YtckilbegmbaeeaaGreatZ58
import Derived.Test.YtckilbegmbaeeaaGreatZ59
import Derived.Test.YtckilbegmbaeeaaGreatZ510
import Derived.Test.YtckilbegmbaeeaaGreatZ511
import Derived.Test.YtckilbegmbaeeaaGreatZ512
import Derived.Test.YtckilbegmbaeeaaGreatZ513
namespace Go.Proofs.YtckilbegmbaeeaaGreat.Z5
open Go Go.RowKit Go.Proofs.YtckilbegmbaeeaaGreat.SL
set_option linter.unusedVariables false
set_option maxHeartbeats 20000000
set_option maxRecDepth 100000
set_option linter.unusedSimpArgs false
attribute [local irreducible] IntKind.wrap minI maxI shrI shlI andI orI xorI andNotI cplI rd sub bytesOf strOf slA
variable {c0_0 c0_1 c0_2 c0_3 k : Nat}
variable {A0_0 A0_1 A0_2 A0_3 : Option Addr}
def F39.f (k : Nat) (a0 : S34) (a1 : Int) (a2 : Int) : Option (S34 × Int):=(F16b0.f k a0).bind (fun r9=>if (!r9) = true then (some (((S34.mk (S26.mk 0 0 ([] : (List S55))) 0 0 false (S28.mk 0 0 false false false false false false false false) 0 0 ([] : (List Int)) false false false false false false (S31.mk 0 0 false false (S28.mk 0 0 false false false false false false false false)) false (S26.mk 0 0 ([] : (List S55))) ([] : (List Int))),2))) else ((F96.f k a0.f0 a1 a2 a0.f4).bind (fun r15=>if r15.2 ≠ 0 then (some (((S34.mk (S26.mk 0 0 ([] : (List S55))) 0 0 false (S28.mk 0 0 false false false false false false false false) 0 0 ([] : (List Int)) false false false false false false (S31.mk 0 0 false false (S28.mk 0 0 false false false false false false false false)) false (S26.mk 0 0 ([] : (List S55))) ([] : (List Int))),r15.2))) else ((F97.f a0).bind (fun r26=>(if r26.f15 = true then ((F96b0.f k r26.f16 a1 a2 r26.f4).bind (fun r73=>if r73.2 ≠ 0 then (some (Out.ret (((S34.mk (S26.mk 0 0 ([] : (List S55))) 0 0 false (S28.mk 0 0 false false false false false false false false) 0 0 ([] : (List Int)) false false false false false false (S31.mk 0 0 false false (S28.mk 0 0 false false false false false false false false)) false (S26.mk 0 0 ([] : (List S55))) ([] : (List Int))),r73.2)))) else (some (Out.go (({ r26 with f16:=r73.1 }),(S34.mk (S26.mk 0 0 ([] : (List S55))) 0 0 false (S28.mk 0 0 false false false false false false false false) 0 0 ([] : (List Int)) false false false false false false (S31.mk 0 0 false false (S28.mk 0 0 false false false false false false false false)) false (S26.mk 0 0 ([] : (List S55))) ([] : (List Int)))))))) else (some (Out.go (r26,(S34.mk (S26.mk 0 0 ([] : (List S55))) 0 0 false (S28.mk 0 0 false false false false false false false false) 0 0 ([] : (List Int)) false false false false false false (S31.mk 0 0 false false (S28.mk 0 0 false false false false false false false false)) false (S26.mk 0 0 ([] : (List S55))) ([] : (List Int)))))) : Option (Out (S34 × Int) (S34 × S34))).bind (fun t39=>Out.el t39 (fun r_=>some r_) (fun s40=>(F23.f k a1).bind (fun r92=>some (((S34.mk r15.1 (minI s40.1.f1 (IntKind.i64.wrap (a2 - 1))) (minI s40.1.f2 (IntKind.i64.wrap (a1 - 1))) false s40.1.f4 0 (IntKind.i64.wrap (a2 - 1)) r92 s40.1.f8 s40.1.f9 s40.1.f10 s40.1.f11 s40.1.f12 s40.1.f13 (S31.mk (minI s40.1.f14.f0 (IntKind.i64.wrap (a2 - 1))) (minI s40.1.f14.f1 (IntKind.i64.wrap (a1 - 1))) false s40.1.f14.f3 s40.1.f14.f4) s40.1.f15 s40.1.f16 s40.1.f17),0))))))))))
theorem F39.ok {a0 : S34} {a1 : Int} {a2 : Int} {r : S34 × Int} (H : F39.f k a0 a1 a2 = some r) : SCA Tryz.prog 39 #[.agg (c34' a0 A0_0 c0_0 A0_1 c0_1 A0_2 c0_2 A0_3 c0_3).toArray,il' a1,il' a2] [Ro k55 A0_0 c0_0 a0.f0.f2,rl' A0_1 c0_1 a0.f7,Ro k55 A0_2 c0_2 a0.f16.f2,rw' A0_3 c0_3 a0.f17] (fun v B=>∃ A0_0_ c0_0_ A0_1_ c0_1_ A0_2_ c0_2_ A0_3_ c0_3_,v = .tuple #[.agg (c34' r.1 A0_0_ c0_0_ A0_1_ c0_1_ A0_2_ c0_2_ A0_3_ c0_3_).toArray,il' r.2]∧B = [Buf k55 55 A0_0_ c0_0_ r.1.f0.f2,bl' 3 A0_1_ c0_1_ r.1.f7,Buf k55 55 A0_2_ c0_2_ r.1.f16.f2,bw' 21 A0_3_ c0_3_ r.1.f17]):=by
 refine SCA_of_body Tryz.func39 rfl rfl ?_
 unfold F39.f at H
 refine qr' ?_
 refine o' (bx' fun b5=>?_)
 refine o' (al' fun b7=>?_)
 refine s' (il' 0) as' ?_
 refine nq' ?_
 refine l' (lA' b5 0 4 (c34' a0 A0_0 c0_0 A0_1 c0_1 A0_2 c0_2 A0_3 c0_3)) ?_
 obtain⟨r9,C99,H⟩:=g_bind H
 refine o' (ca' [0,1,2,3] [0,1,2,3,4,5] (xf' [.agg (c34' a0 A0_0 c0_0 A0_1 c0_1 A0_2 c0_2 A0_3 c0_3).toArray]) (F16.ok (a0:=a0) C99) ?_)
 rintro _ _⟨rfl,rfl⟩
 refine s' (.bool (!r9)) (V_not rfl) ?_
 refine na' ?_
 by_cases h10 : (!r9) = true
 ·replace H:=g_ift h10 H
  refine SA_condTb rfl h10 ?_
  refine qr' ?_
  refine s' (.agg (c34' z34' none 0 none 0 none 0 none 0).toArray) bd' ?_
  refine o' (su' b7 0 5 (c34' z34' none 0 none 0 none 0 none 0) ?_)
  refine s' (il' 2) as' ?_
  refine ntt' ?_
  have h_:=oi' H;subst h_
  exact BQ_RL (rs:=[.cell 6 34,.tmp 7]) (vs:=[.agg (c34' z34' none 0 none 0 none 0 none 0).toArray,il' 2]) [Buf k55 55 none 0 ([] : (List S55)),bl' 3 none 0 ([] : (List Int)),Buf k55 55 none 0 ([] : (List S55)),bw' 21 none 0 ([] : (List Int))] rfl ⟨RV.cell (k:=5) rfl rfl Tryz.underlying34 rfl sz34,RV.tmp rfl,trivial⟩ rfl ((Gh.nilBuf k55 55).trans ((Gh.nilBuf (Kd.int .i64) 3).trans ((Gh.nilBuf k55 55).trans ((Gh.nilBuf (Kd.int .i32) 21).trans (gs' [6,7,8,9]))))) ⟨none,0,none,0,none,0,none,0,rfl,rfl⟩
 replace H:=g_iff h10 H
 refine SA_condFb rfl h10 ?_
 refine SA_skip (at_normal (qr' ?_))
 refine s' (pt' b5) (fa' b5 0 0) ?_
 refine l' (lA' b5 0 4 [il' a0.f0.f0,il' a0.f0.f1,.slice A0_0 a0.f0.f2.length c0_0]) ?_
 refine s' (il' a1) mv' ?_
 refine s' (il' a2) mv' ?_
 refine s' (pa' b5 6) (fa' b5 0 6) ?_
 refine l' (lA' b5 6 4 (c28' a0.f4)) ?_
 obtain⟨r15,C98,H⟩:=g_bind H
 refine o' (ca' [0] [0,1,2,3,4,5] (xf' [.agg #[il' a0.f0.f0,il' a0.f0.f1,.slice A0_0 a0.f0.f2.length c0_0],il' a1,il' a2,.agg (c28' a0.f4).toArray]) (F96.ok (a0:=a0.f0) (a1:=a1) (a2:=a2) (a3:=a0.f4) C98) ?_)
 rintro _ _⟨A16,c17,rfl,rfl⟩
 refine s' (.tuple #[.agg #[il' r15.1.f0,il' r15.1.f1,.slice A16 r15.1.f2.length c17],il' r15.2]) mv' ?_
 refine s' (.agg #[il' r15.1.f0,il' r15.1.f1,.slice A16 r15.1.f2.length c17]) ex' ?_
 refine s' (il' r15.2) ex' ?_
 refine o' (al' fun b19=>?_)
 refine o' (su' b19 0 7 [il' r15.1.f0,il' r15.1.f1,.slice A16 r15.1.f2.length c17] ?_)
 refine s' (il' r15.2) as' ?_
 refine nq' ?_
 refine s' (il' r15.2) mv' ?_
 refine s' (.bool (decide (r15.2 ≠ 0))) (V_neq rfl rfl) ?_
 refine na' ?_
 by_cases h21 : r15.2 ≠ 0
 ·replace H:=g_ift h21 H
  refine SA_condT rfl h21 ?_
  refine qr' ?_
  refine s' (.agg (c34' z34' none 0 none 0 none 0 none 0).toArray) bd' ?_
  refine s' (il' r15.2) mv' ?_
  refine o' (su' b7 0 6 (c34' z34' none 0 none 0 none 0 none 0) ?_)
  refine s' (il' r15.2) as' ?_
  refine ntt' ?_
  have h_:=oi' H;subst h_
  exact BQ_RL (rs:=[.cell 6 34,.tmp 7]) (vs:=[.agg (c34' z34' none 0 none 0 none 0 none 0).toArray,il' r15.2]) [Buf k55 55 none 0 ([] : (List S55)),bl' 3 none 0 ([] : (List Int)),Buf k55 55 none 0 ([] : (List S55)),bw' 21 none 0 ([] : (List Int))] rfl ⟨RV.cell (k:=6) rfl rfl Tryz.underlying34 rfl sz34,RV.tmp rfl,trivial⟩ rfl ((Gh.nilBuf k55 55).trans ((Gh.nilBuf (Kd.int .i64) 3).trans ((Gh.nilBuf k55 55).trans ((Gh.nilBuf (Kd.int .i32) 21).trans (gs' [8,9,10,11]))))) ⟨none,0,none,0,none,0,none,0,rfl,rfl⟩
 replace H:=g_iff h21 H
 refine SA_condF rfl h21 ?_
 refine SA_skip (at_normal (qr' ?_))
 refine l' (lA' b5 0 5 (c34' a0 A0_0 c0_0 A0_1 c0_1 A0_2 c0_2 A0_3 c0_3)) ?_
 obtain⟨r26,C97,H⟩:=g_bind H
 refine o' (ca' [1,2,3,4] [0,1,2,3,4,5,6,7] (xf' [.agg (c34' a0 A0_0 c0_0 A0_1 c0_1 A0_2 c0_2 A0_3 c0_3).toArray]) (F97.ok (a0:=a0) C97) ?_)
 rintro _ _⟨A27,c28,A30,c31,A33,c34,A36,c37,rfl,rfl⟩
 refine o' (su' b5 0 9 (c34' r26 A27 c28 A30 c31 A33 c34 A36 c37) ?_)
 refine nq' ?_
 refine s' (pa' b5 39) (fa' b5 0 39) ?_
 refine l' (ld' b5 39 9) ?_
 refine na' ?_
 refine SA.of_St (l:=[(1,il' a1),(2,il' a2),(3,pt' b5),(6,pt' b7),(8,pt' b19),(31,.bool r26.f15)]) (B:=[Blk b5 34 (c34' r26 A27 c28 A30 c31 A33 c34 A36 c37),Buf k55 55 A27 c28 r26.f0.f2,bl' 3 A30 c31 r26.f7,Buf k55 55 A33 c34 r26.f16.f2,bw' 21 A36 c37 r26.f17,Blk b7 34 (c34' z34' none 0 none 0 none 0 none 0),Blk b19 26 [il' r15.1.f0,il' r15.1.f1,.slice A16 r15.1.f2.length c17],Buf k55 55 A16 c17 r15.1.f2]) (St.mk1 (aeq rfl (aeq rfl (aeq rfl (aeq rfl (aeq rfl (aeq rfl aeq0)))))) (Gh.sel [9,0,1,2,3,10,11,4] (by kernel_rfl) (by kernel_rfl))) fun junk=>?_
 obtain⟨t39,H,Bt39⟩:=g_bind H
 refine SA_mid (fun e ds As=>∃ (s40 : S34 × S34),t39 = Out.go s40∧∃ (b41 : Nat),∃ (A42 : Option Addr) (c43 : Nat),∃ (A45 : Option Addr) (c46 : Nat),∃ (A48 : Option Addr) (c49 : Nat),∃ (A51 : Option Addr) (c52 : Nat),∃ (b54 : Nat),∃ (A55 : Option Addr) (c56 : Nat),∃ (A58 : Option Addr) (c59 : Nat),∃ (A61 : Option Addr) (c62 : Nat),∃ (A64 : Option Addr) (c65 : Nat),St [(1,il' a1),(2,il' a2),(3,pt' b41),(6,pt' b54),(8,pt' b19)] [Blk b41 34 (c34' s40.1 A42 c43 A45 c46 A48 c49 A51 c52),Buf k55 55 A42 c43 s40.1.f0.f2,bl' 3 A45 c46 s40.1.f7,Buf k55 55 A48 c49 s40.1.f16.f2,bw' 21 A51 c52 s40.1.f17,Blk b54 34 (c34' s40.2 A55 c56 A58 c59 A61 c62 A64 c65),Buf k55 55 A55 c56 s40.2.f0.f2,bl' 3 A58 c59 s40.2.f7,Buf k55 55 A61 c62 s40.2.f16.f2,bw' 21 A64 c65 s40.2.f17,Blk b19 26 [il' r15.1.f0,il' r15.1.f1,.slice A16 r15.1.f2.length c17],Buf k55 55 A16 c17 r15.1.f2] e ds As) ?_ ?_
 ·by_cases h67 : r26.f15 = true
  ·replace H:=g_ift h67 H
   refine SA_condTb rfl h67 ?_
   refine SA_seq ?_
   refine fc' 1 fun hc68=>?_
   refine fc' 2 fun hc69=>?_
   refine fc' 3 fun hc70=>?_
   refine fc' 4 fun hc71=>?_
   refine fc' 7 fun hc72=>?_
   refine SA_region ?_
   refine s' (pa' b5 40) (fa' b5 0 40) ?_
   refine l' (lA' b5 40 0 [il' r26.f16.f0,il' r26.f16.f1,.slice A33 r26.f16.f2.length c34]) ?_
   refine s' (il' a1) mv' ?_
   refine s' (il' a2) mv' ?_
   refine s' (pa' b5 6) (fa' b5 0 6) ?_
   refine l' (lA' b5 6 0 (c28' r26.f4)) ?_
   obtain⟨r73,C86,H⟩:=g_bind H
   refine o' (ca' [3] [0,1,2,4,5,6,7] (xf' [.agg #[il' r26.f16.f0,il' r26.f16.f1,.slice A33 r26.f16.f2.length c34],il' a1,il' a2,.agg (c28' r26.f4).toArray]) (F96b0.ok (a0:=r26.f16) (a1:=a1) (a2:=a2) (a3:=r26.f4) C86) ?_)
   rintro _ _⟨A74,c75,rfl,rfl⟩
   refine s' (.tuple #[.agg #[il' r73.1.f0,il' r73.1.f1,.slice A74 r73.1.f2.length c75],il' r73.2]) mv' ?_
   refine s' (.agg #[il' r73.1.f0,il' r73.1.f1,.slice A74 r73.1.f2.length c75]) ex' ?_
   refine s' (il' r73.2) ex' ?_
   refine s' (pa' b5 40) (fa' b5 0 40) ?_
   refine o' (st' b5 40 2 [il' r73.1.f0,il' r73.1.f1,.slice A74 r73.1.f2.length c75] (c34' ({ r26 with f16:=r73.1 }) A27 c28 A30 c31 A74 c75 A36 c37) ?_)
   refine s' (il' r73.2) as' ?_
   refine nr' ?_
   refine s' (il' r73.2) mv' ?_
   refine s' (.bool (decide (r73.2 ≠ 0))) (V_neq rfl rfl) ?_
   refine na' ?_
   by_cases h77 : r73.2 ≠ 0
   ·replace H:=g_ift h77 H
    refine SA_condT rfl h77 ?_
    refine qr' ?_
    refine s' (.agg (c34' z34' none 0 none 0 none 0 none 0).toArray) bd' ?_
    refine s' (il' r73.2) mv' ?_
    refine o' (su' b7 0 6 (c34' z34' none 0 none 0 none 0 none 0) ?_)
    refine s' (il' r73.2) as' ?_
    refine ntt' (thn_ret ?_)
    have h_:=oi' H;subst h_
    have hb_:=el_ret Bt39
    have hr_:=Option.some.inj hb_
    clear hb_
    subst hr_
    exact BQ_RL (rs:=[.cell 6 34,.tmp 7]) (vs:=[.agg (c34' z34' none 0 none 0 none 0 none 0).toArray,il' r73.2]) [Buf k55 55 none 0 ([] : (List S55)),bl' 3 none 0 ([] : (List Int)),Buf k55 55 none 0 ([] : (List S55)),bw' 21 none 0 ([] : (List Int))] rfl ⟨RV.cell (k:=6) rfl rfl Tryz.underlying34 rfl sz34,RV.tmp rfl,trivial⟩ rfl ((Gh.nilBuf k55 55).trans ((Gh.nilBuf (Kd.int .i64) 3).trans ((Gh.nilBuf k55 55).trans ((Gh.nilBuf (Kd.int .i32) 21).trans (gs' [9,10,11,12]))))) ⟨none,0,none,0,none,0,none,0,rfl,rfl⟩
   replace H:=g_iff h77 H
   refine SA_condF rfl h77 ?_
   refine SA_skip ?_
   have h_:=oi' H;subst h_
   exact at_normal ⟨(({ r26 with f16:=r73.1 }),z34'),rfl,b5,A27,c28,A30,c31,A74,c75,A36,c37,b7,none,0,none,0,none,0,none,0,St.mk1 (aeq rfl (aeq rfl (aeq rfl (aeq rfl (aeq rfl aeq0))))) ((Gh.nilBuf k55 55).trans ((Gh.nilBuf (Kd.int .i64) 3).trans ((Gh.nilBuf k55 55).trans ((Gh.nilBuf (Kd.int .i32) 21).trans (gs' [2,3,4,0,5,6,9,10,11,12,7,8])))))⟩
  replace H:=g_iff h67 H
  refine SA_condFb rfl h67 ?_
  refine SA_skip ?_
  have h_:=oi' H;subst h_
  exact at_normal ⟨(r26,z34'),rfl,b5,A27,c28,A30,c31,A33,c34,A36,c37,b7,none,0,none,0,none,0,none,0,St.mk1 (aeq rfl (aeq rfl (aeq rfl (aeq rfl (aeq rfl aeq0))))) ((Gh.nilBuf k55 55).trans ((Gh.nilBuf (Kd.int .i64) 3).trans ((Gh.nilBuf k55 55).trans ((Gh.nilBuf (Kd.int .i32) 21).trans (gs' [0,1,2,3,4,5,8,9,10,11,6,7])))))⟩
 rintro e ds As ⟨s40,ht,b41,A42,c43,A45,c46,A48,c49,A51,c52,b54,A55,c56,A58,c59,A61,c62,A64,c65,hst91⟩
 clear H
 subst ht
 replace Bt39:=el_go Bt39
 have H:=Bt39
 clear Bt39
 refine at_normal ?_
 refine SA.of_St hst91 fun junk=>?_
 refine qr' ?_
 refine l' (lA' b19 0 10 [il' r15.1.f0,il' r15.1.f1,.slice A16 r15.1.f2.length c17]) ?_
 refine s' (pt' b41) (fa' b41 0 0) ?_
 refine o' (st' b41 0 0 [il' r15.1.f0,il' r15.1.f1,.slice A16 r15.1.f2.length c17] (c34' (S34.mk r15.1 s40.1.f1 s40.1.f2 s40.1.f3 s40.1.f4 s40.1.f5 s40.1.f6 s40.1.f7 s40.1.f8 s40.1.f9 s40.1.f10 s40.1.f11 s40.1.f12 s40.1.f13 s40.1.f14 s40.1.f15 s40.1.f16 s40.1.f17) A16 c17 A45 c46 A48 c49 A51 c52) ?_)
 refine nr' ?_
 refine s' (pa' b41 3) (fa' b41 0 3) ?_
 refine l' (ld' b41 3 0) ?_
 refine s' (il' a2) mv' ?_
 refine s' (il' (IntKind.i64.wrap (a2 - 1))) (V_sub rfl rfl) ?_
 refine s' (il' (minI s40.1.f1 (IntKind.i64.wrap (a2 - 1)))) (V_min rfl rfl) ?_
 refine s' (pa' b41 4) (fa' b41 0 4) ?_
 refine l' (ld' b41 4 0) ?_
 refine s' (il' a1) mv' ?_
 refine s' (il' (IntKind.i64.wrap (a1 - 1))) (V_sub rfl rfl) ?_
 refine s' (il' (minI s40.1.f2 (IntKind.i64.wrap (a1 - 1)))) (V_min rfl rfl) ?_
 refine s' (pa' b41 3) (fa' b41 0 3) ?_
 refine o' (st' b41 3 0 [il' (minI s40.1.f1 (IntKind.i64.wrap (a2 - 1)))] (c34' (S34.mk r15.1 (minI s40.1.f1 (IntKind.i64.wrap (a2 - 1))) s40.1.f2 s40.1.f3 s40.1.f4 s40.1.f5 s40.1.f6 s40.1.f7 s40.1.f8 s40.1.f9 s40.1.f10 s40.1.f11 s40.1.f12 s40.1.f13 s40.1.f14 s40.1.f15 s40.1.f16 s40.1.f17) A16 c17 A45 c46 A48 c49 A51 c52) ?_)
 refine s' (pa' b41 4) (fa' b41 0 4) ?_
 refine o' (st' b41 4 0 [il' (minI s40.1.f2 (IntKind.i64.wrap (a1 - 1)))] (c34' (S34.mk r15.1 (minI s40.1.f1 (IntKind.i64.wrap (a2 - 1))) (minI s40.1.f2 (IntKind.i64.wrap (a1 - 1))) s40.1.f3 s40.1.f4 s40.1.f5 s40.1.f6 s40.1.f7 s40.1.f8 s40.1.f9 s40.1.f10 s40.1.f11 s40.1.f12 s40.1.f13 s40.1.f14 s40.1.f15 s40.1.f16 s40.1.f17) A16 c17 A45 c46 A48 c49 A51 c52) ?_)
 refine s' (pa' b41 5) (fa' b41 0 5) ?_
 refine o' (st' b41 5 0 [.bool false] (c34' (S34.mk r15.1 (minI s40.1.f1 (IntKind.i64.wrap (a2 - 1))) (minI s40.1.f2 (IntKind.i64.wrap (a1 - 1))) false s40.1.f4 s40.1.f5 s40.1.f6 s40.1.f7 s40.1.f8 s40.1.f9 s40.1.f10 s40.1.f11 s40.1.f12 s40.1.f13 s40.1.f14 s40.1.f15 s40.1.f16 s40.1.f17) A16 c17 A45 c46 A48 c49 A51 c52) ?_)
 refine nr' ?_
 refine s' (pa' b41 25) (fa' b41 0 25) ?_
 refine s' (pa' b41 25) (fa' b41 25 25) ?_
 refine l' (ld' b41 25 0) ?_
 refine s' (il' a2) mv' ?_
 refine s' (il' (IntKind.i64.wrap (a2 - 1))) (V_sub rfl rfl) ?_
 refine s' (il' (minI s40.1.f14.f0 (IntKind.i64.wrap (a2 - 1)))) (V_min rfl rfl) ?_
 refine s' (pa' b41 25) (fa' b41 0 25) ?_
 refine s' (pa' b41 26) (fa' b41 25 26) ?_
 refine l' (ld' b41 26 0) ?_
 refine s' (il' a1) mv' ?_
 refine s' (il' (IntKind.i64.wrap (a1 - 1))) (V_sub rfl rfl) ?_
 refine s' (il' (minI s40.1.f14.f1 (IntKind.i64.wrap (a1 - 1)))) (V_min rfl rfl) ?_
 refine s' (pa' b41 25) (fa' b41 0 25) ?_
 refine s' (pa' b41 25) (fa' b41 25 25) ?_
 refine o' (st' b41 25 0 [il' (minI s40.1.f14.f0 (IntKind.i64.wrap (a2 - 1)))] (c34' (S34.mk r15.1 (minI s40.1.f1 (IntKind.i64.wrap (a2 - 1))) (minI s40.1.f2 (IntKind.i64.wrap (a1 - 1))) false s40.1.f4 s40.1.f5 s40.1.f6 s40.1.f7 s40.1.f8 s40.1.f9 s40.1.f10 s40.1.f11 s40.1.f12 s40.1.f13 (S31.mk (minI s40.1.f14.f0 (IntKind.i64.wrap (a2 - 1))) s40.1.f14.f1 s40.1.f14.f2 s40.1.f14.f3 s40.1.f14.f4) s40.1.f15 s40.1.f16 s40.1.f17) A16 c17 A45 c46 A48 c49 A51 c52) ?_)
 refine s' (pa' b41 25) (fa' b41 0 25) ?_
 refine s' (pa' b41 26) (fa' b41 25 26) ?_
 refine o' (st' b41 26 0 [il' (minI s40.1.f14.f1 (IntKind.i64.wrap (a1 - 1)))] (c34' (S34.mk r15.1 (minI s40.1.f1 (IntKind.i64.wrap (a2 - 1))) (minI s40.1.f2 (IntKind.i64.wrap (a1 - 1))) false s40.1.f4 s40.1.f5 s40.1.f6 s40.1.f7 s40.1.f8 s40.1.f9 s40.1.f10 s40.1.f11 s40.1.f12 s40.1.f13 (S31.mk (minI s40.1.f14.f0 (IntKind.i64.wrap (a2 - 1))) (minI s40.1.f14.f1 (IntKind.i64.wrap (a1 - 1))) s40.1.f14.f2 s40.1.f14.f3 s40.1.f14.f4) s40.1.f15 s40.1.f16 s40.1.f17) A16 c17 A45 c46 A48 c49 A51 c52) ?_)
 refine s' (pa' b41 25) (fa' b41 0 25) ?_
 refine s' (pa' b41 27) (fa' b41 25 27) ?_
 refine o' (st' b41 27 0 [.bool false] (c34' (S34.mk r15.1 (minI s40.1.f1 (IntKind.i64.wrap (a2 - 1))) (minI s40.1.f2 (IntKind.i64.wrap (a1 - 1))) false s40.1.f4 s40.1.f5 s40.1.f6 s40.1.f7 s40.1.f8 s40.1.f9 s40.1.f10 s40.1.f11 s40.1.f12 s40.1.f13 (S31.mk (minI s40.1.f14.f0 (IntKind.i64.wrap (a2 - 1))) (minI s40.1.f14.f1 (IntKind.i64.wrap (a1 - 1))) false s40.1.f14.f3 s40.1.f14.f4) s40.1.f15 s40.1.f16 s40.1.f17) A16 c17 A45 c46 A48 c49 A51 c52) ?_)
 refine na' ?_
 refine SA.of_St (l:=[(1,il' a1),(2,il' a2),(3,pt' b41),(6,pt' b54)]) (B:=[Blk b41 34 (c34' (S34.mk r15.1 (minI s40.1.f1 (IntKind.i64.wrap (a2 - 1))) (minI s40.1.f2 (IntKind.i64.wrap (a1 - 1))) false s40.1.f4 s40.1.f5 s40.1.f6 s40.1.f7 s40.1.f8 s40.1.f9 s40.1.f10 s40.1.f11 s40.1.f12 s40.1.f13 (S31.mk (minI s40.1.f14.f0 (IntKind.i64.wrap (a2 - 1))) (minI s40.1.f14.f1 (IntKind.i64.wrap (a1 - 1))) false s40.1.f14.f3 s40.1.f14.f4) s40.1.f15 s40.1.f16 s40.1.f17) A16 c17 A45 c46 A48 c49 A51 c52),Buf k55 55 A16 c17 r15.1.f2,bl' 3 A45 c46 s40.1.f7,Buf k55 55 A48 c49 s40.1.f16.f2,bw' 21 A51 c52 s40.1.f17,Blk b54 34 (c34' s40.2 A55 c56 A58 c59 A61 c62 A64 c65),Buf k55 55 A55 c56 s40.2.f0.f2,bl' 3 A58 c59 s40.2.f7,Buf k55 55 A61 c62 s40.2.f16.f2,bw' 21 A64 c65 s40.2.f17]) (St.mk1 (aeq rfl (aeq rfl (aeq rfl (aeq rfl aeq0)))) (Gh.sel [0,11,2,3,4,5,6,7,8,9] (by kernel_rfl) (by kernel_rfl))) fun junk=>?_
 refine qr' ?_
 refine s' (il' a2) mv' ?_
 refine s' (il' (IntKind.i64.wrap (a2 - 1))) (V_sub rfl rfl) ?_
 refine s' (il' a1) mv' ?_
 obtain⟨r92,C96,H⟩:=g_bind H
 refine o' (ca' [] [0,1,2,3,4,5,6,7,8,9] (xf' [il' a1]) (F23.ok (a0:=a1) C96) ?_)
 rintro _ _⟨A93,c94,rfl,rfl⟩
 refine s' (pa' b41 16) (fa' b41 0 16) ?_
 refine o' (st' b41 16 1 [il' 0] (c34' (S34.mk r15.1 (minI s40.1.f1 (IntKind.i64.wrap (a2 - 1))) (minI s40.1.f2 (IntKind.i64.wrap (a1 - 1))) false s40.1.f4 0 s40.1.f6 s40.1.f7 s40.1.f8 s40.1.f9 s40.1.f10 s40.1.f11 s40.1.f12 s40.1.f13 (S31.mk (minI s40.1.f14.f0 (IntKind.i64.wrap (a2 - 1))) (minI s40.1.f14.f1 (IntKind.i64.wrap (a1 - 1))) false s40.1.f14.f3 s40.1.f14.f4) s40.1.f15 s40.1.f16 s40.1.f17) A16 c17 A45 c46 A48 c49 A51 c52) ?_)
 refine s' (pa' b41 17) (fa' b41 0 17) ?_
 refine o' (st' b41 17 1 [il' (IntKind.i64.wrap (a2 - 1))] (c34' (S34.mk r15.1 (minI s40.1.f1 (IntKind.i64.wrap (a2 - 1))) (minI s40.1.f2 (IntKind.i64.wrap (a1 - 1))) false s40.1.f4 0 (IntKind.i64.wrap (a2 - 1)) s40.1.f7 s40.1.f8 s40.1.f9 s40.1.f10 s40.1.f11 s40.1.f12 s40.1.f13 (S31.mk (minI s40.1.f14.f0 (IntKind.i64.wrap (a2 - 1))) (minI s40.1.f14.f1 (IntKind.i64.wrap (a1 - 1))) false s40.1.f14.f3 s40.1.f14.f4) s40.1.f15 s40.1.f16 s40.1.f17) A16 c17 A45 c46 A48 c49 A51 c52) ?_)
 refine s' (pa' b41 18) (fa' b41 0 18) ?_
 refine o' (st' b41 18 1 [.slice A93 r92.length c94] (c34' (S34.mk r15.1 (minI s40.1.f1 (IntKind.i64.wrap (a2 - 1))) (minI s40.1.f2 (IntKind.i64.wrap (a1 - 1))) false s40.1.f4 0 (IntKind.i64.wrap (a2 - 1)) r92 s40.1.f8 s40.1.f9 s40.1.f10 s40.1.f11 s40.1.f12 s40.1.f13 (S31.mk (minI s40.1.f14.f0 (IntKind.i64.wrap (a2 - 1))) (minI s40.1.f14.f1 (IntKind.i64.wrap (a1 - 1))) false s40.1.f14.f3 s40.1.f14.f4) s40.1.f15 s40.1.f16 s40.1.f17) A16 c17 A93 c94 A48 c49 A51 c52) ?_)
 refine nr' ?_
 refine l' (lA' b41 0 1 (c34' (S34.mk r15.1 (minI s40.1.f1 (IntKind.i64.wrap (a2 - 1))) (minI s40.1.f2 (IntKind.i64.wrap (a1 - 1))) false s40.1.f4 0 (IntKind.i64.wrap (a2 - 1)) r92 s40.1.f8 s40.1.f9 s40.1.f10 s40.1.f11 s40.1.f12 s40.1.f13 (S31.mk (minI s40.1.f14.f0 (IntKind.i64.wrap (a2 - 1))) (minI s40.1.f14.f1 (IntKind.i64.wrap (a1 - 1))) false s40.1.f14.f3 s40.1.f14.f4) s40.1.f15 s40.1.f16 s40.1.f17) A16 c17 A93 c94 A48 c49 A51 c52)) ?_
 refine o' (su' b54 0 6 (c34' (S34.mk r15.1 (minI s40.1.f1 (IntKind.i64.wrap (a2 - 1))) (minI s40.1.f2 (IntKind.i64.wrap (a1 - 1))) false s40.1.f4 0 (IntKind.i64.wrap (a2 - 1)) r92 s40.1.f8 s40.1.f9 s40.1.f10 s40.1.f11 s40.1.f12 s40.1.f13 (S31.mk (minI s40.1.f14.f0 (IntKind.i64.wrap (a2 - 1))) (minI s40.1.f14.f1 (IntKind.i64.wrap (a1 - 1))) false s40.1.f14.f3 s40.1.f14.f4) s40.1.f15 s40.1.f16 s40.1.f17) A16 c17 A93 c94 A48 c49 A51 c52) ?_)
 refine s' (il' 0) as' ?_
 refine nt' ?_
 have h_:=oi' H;subst h_
 exact b2' [.cell 6 34,.tmp 7] [2,0,4,5] ⟨A16,c17,A93,c94,A48,c49,A51,c52,rfl,rfl⟩ ⟨RV.cell (k:=6) rfl rfl Tryz.underlying34 rfl sz34,RV.tmp rfl,trivial⟩


def F12.f (k : Nat) (a0 : S34) (a1 : S44) : Option (S34 × Int):=if a1.f0 = 0 then ((F27.f k a0 (IntKind.i32.wrap (a1.f1))).bind (fun r12=>some ((r12.1,r12.2)))) else (if a1.f0 = 1 then ((F28.f k a0 (IntKind.i32.wrap (a1.f1))).bind (fun r27=>some ((r27.1,r27.2)))) else (if a1.f0 = 2 then ((F29.f k a0 a1.f1 a1.f2).bind (fun r42=>some ((r42.1,r42.2)))) else (if a1.f0 = 3 then ((F30.f k a0 a1.f1 a1.f2).bind (fun r57=>some ((r57.1,r57.2)))) else (if a1.f0 = 4 then ((F31.f k a0 a1.f3 a1.f1).bind (fun r72=>some ((r72.1,r72.2)))) else (if a1.f0 = 5 then ((F32.f k a0 a1.f1).bind (fun r87=>some ((r87.1,r87.2)))) else (if a1.f0 = 6 then ((F33.f k a0 a1.f1).bind (fun r102=>some ((r102.1,r102.2)))) else (if a1.f0 = 7 then ((F34.f k a0 a1.f1).bind (fun r117=>some ((r117.1,r117.2)))) else (if a1.f0 = 8 then ((F35.f k a0 a1.f1 a1.f2).bind (fun r132=>some ((r132.1,r132.2)))) else (if a1.f0 = 9 then ((F17.f k a0 a1.f3).bind (fun r147=>some ((r147.1,r147.2)))) else (if a1.f0 = 10 then ((F36.f k a0 a1.f3 a1.f1 (decide (a1.f2 > 0))).bind (fun r162=>some ((r162.1,r162.2)))) else (if a1.f0 = 11 then ((F37.f k a0 a1.f1).bind (fun r177=>some ((r177.1,r177.2)))) else (if a1.f0 = 12 then ((F38.f k a0 a1.f1).bind (fun r192=>some ((r192.1,r192.2)))) else ((F39.f k a0 a1.f1 a1.f2).bind (fun r206=>some ((r206.1,r206.2))))))))))))))))
theorem F12.ok {a0 : S34} {a1 : S44} {r : S34 × Int} (H : F12.f k a0 a1 = some r) : SCA Tryz.prog 12 #[.agg (c34' a0 A0_0 c0_0 A0_1 c0_1 A0_2 c0_2 A0_3 c0_3).toArray,.agg #[.int .u8 a1.f0,il' a1.f1,il' a1.f2,.bool a1.f3]] [Ro k55 A0_0 c0_0 a0.f0.f2,rl' A0_1 c0_1 a0.f7,Ro k55 A0_2 c0_2 a0.f16.f2,rw' A0_3 c0_3 a0.f17] (fun v B=>∃ A0_0_ c0_0_ A0_1_ c0_1_ A0_2_ c0_2_ A0_3_ c0_3_,v = .tuple #[.agg (c34' r.1 A0_0_ c0_0_ A0_1_ c0_1_ A0_2_ c0_2_ A0_3_ c0_3_).toArray,il' r.2]∧B = [Buf k55 55 A0_0_ c0_0_ r.1.f0.f2,bl' 3 A0_1_ c0_1_ r.1.f7,Buf k55 55 A0_2_ c0_2_ r.1.f16.f2,bw' 21 A0_3_ c0_3_ r.1.f17]):=by
 refine SCA_of_body Tryz.func12 rfl rfl ?_
 unfold F12.f at H
 refine qr' ?_
 refine o' (bx' fun b5=>?_)
 refine o' (bx' fun b7=>?_)
 refine o' (al' fun b9=>?_)
 refine s' (il' 0) as' ?_
 refine nq' ?_
 refine s' (pt' b7) (fa' b7 0 0) ?_
 refine l' (ld' b7 0 5) ?_
 refine na' (SA_block (qr' ?_))
 refine s' (.bool (decide (a1.f0 = 0))) (V_eql rfl rfl) ?_
 refine s' (.bool (decide (a1.f0 = 0))) as' ?_
 refine na' ?_
 by_cases h11 : a1.f0 = 0
 ·replace H:=g_ift h11 H
  refine SA_condT rfl h11 ?_
  refine qr' ?_
  refine l' (lA' b5 0 4 (c34' a0 A0_0 c0_0 A0_1 c0_1 A0_2 c0_2 A0_3 c0_3)) ?_
  refine s' (pa' b7 1) (fa' b7 0 1) ?_
  refine l' (ld' b7 1 5) ?_
  refine s' (iw' (IntKind.i32.wrap (a1.f1))) (V_conv (T:=3) (by kernel_rfl) Tryz.underlying21 rfl) ?_
  obtain⟨r12,C25,H⟩:=g_bind H
  refine o' (ca' [0,1,2,3] [0,1,2,3,4,5,6] (xf' [.agg (c34' a0 A0_0 c0_0 A0_1 c0_1 A0_2 c0_2 A0_3 c0_3).toArray,iw' (IntKind.i32.wrap (a1.f1))]) (F27.ok (a0:=a0) (a1:=IntKind.i32.wrap (a1.f1)) C25) ?_)
  rintro _ _⟨A13,c14,A16,c17,A19,c20,A22,c23,rfl,rfl⟩
  refine s' (.agg (c34' r12.1 A13 c14 A16 c17 A19 c20 A22 c23).toArray) ex' ?_
  refine s' (il' r12.2) ex' ?_
  refine o' (su' b9 0 10 (c34' r12.1 A13 c14 A16 c17 A19 c20 A22 c23) ?_)
  refine s' (il' r12.2) as' ?_
  refine nt' (inb_ret (thn_ret ?_))
  have h_:=oi' H;subst h_
  exact b2' [.cell 4 34,.tmp 5] [0,1,2,3] ⟨A13,c14,A16,c17,A19,c20,A22,c23,rfl,rfl⟩ ⟨RV.cell (k:=10) rfl rfl Tryz.underlying34 rfl sz34,RV.tmp rfl,trivial⟩
 replace H:=g_iff h11 H
 refine SA_condF rfl h11 ?_
 refine qr' ?_
 refine s' (.bool (decide (a1.f0 = 1))) (V_eql rfl rfl) ?_
 refine s' (.bool (decide (a1.f0 = 1))) as' ?_
 refine na' ?_
 by_cases h26 : a1.f0 = 1
 ·replace H:=g_ift h26 H
  refine SA_condT rfl h26 ?_
  refine qr' ?_
  refine l' (lA' b5 0 4 (c34' a0 A0_0 c0_0 A0_1 c0_1 A0_2 c0_2 A0_3 c0_3)) ?_
  refine s' (pa' b7 1) (fa' b7 0 1) ?_
  refine l' (ld' b7 1 5) ?_
  refine s' (iw' (IntKind.i32.wrap (a1.f1))) (V_conv (T:=3) (by kernel_rfl) Tryz.underlying21 rfl) ?_
  obtain⟨r27,C40,H⟩:=g_bind H
  refine o' (ca' [0,1,2,3] [0,1,2,3,4,5,6] (xf' [.agg (c34' a0 A0_0 c0_0 A0_1 c0_1 A0_2 c0_2 A0_3 c0_3).toArray,iw' (IntKind.i32.wrap (a1.f1))]) (F28.ok (a0:=a0) (a1:=IntKind.i32.wrap (a1.f1)) C40) ?_)
  rintro _ _⟨A28,c29,A31,c32,A34,c35,A37,c38,rfl,rfl⟩
  refine s' (.agg (c34' r27.1 A28 c29 A31 c32 A34 c35 A37 c38).toArray) ex' ?_
  refine s' (il' r27.2) ex' ?_
  refine o' (su' b9 0 10 (c34' r27.1 A28 c29 A31 c32 A34 c35 A37 c38) ?_)
  refine s' (il' r27.2) as' ?_
  refine nt' (inb_ret (thn_ret ?_))
  have h_:=oi' H;subst h_
  exact b2' [.cell 4 34,.tmp 5] [0,1,2,3] ⟨A28,c29,A31,c32,A34,c35,A37,c38,rfl,rfl⟩ ⟨RV.cell (k:=10) rfl rfl Tryz.underlying34 rfl sz34,RV.tmp rfl,trivial⟩
 replace H:=g_iff h26 H
 refine SA_condF rfl h26 ?_
 refine qr' ?_
 refine s' (.bool (decide (a1.f0 = 2))) (V_eql rfl rfl) ?_
 refine s' (.bool (decide (a1.f0 = 2))) as' ?_
 refine na' ?_
 by_cases h41 : a1.f0 = 2
 ·replace H:=g_ift h41 H
  refine SA_condT rfl h41 ?_
  refine qr' ?_
  refine l' (lA' b5 0 4 (c34' a0 A0_0 c0_0 A0_1 c0_1 A0_2 c0_2 A0_3 c0_3)) ?_
  refine s' (pa' b7 1) (fa' b7 0 1) ?_
  refine l' (ld' b7 1 5) ?_
  refine s' (pa' b7 2) (fa' b7 0 2) ?_
  refine l' (ld' b7 2 5) ?_
  obtain⟨r42,C55,H⟩:=g_bind H
  refine o' (ca' [0,1,2,3] [0,1,2,3,4,5,6] (xf' [.agg (c34' a0 A0_0 c0_0 A0_1 c0_1 A0_2 c0_2 A0_3 c0_3).toArray,il' a1.f1,il' a1.f2]) (F29.ok (a0:=a0) (a1:=a1.f1) (a2:=a1.f2) C55) ?_)
  rintro _ _⟨A43,c44,A46,c47,A49,c50,A52,c53,rfl,rfl⟩
  refine s' (.agg (c34' r42.1 A43 c44 A46 c47 A49 c50 A52 c53).toArray) ex' ?_
  refine s' (il' r42.2) ex' ?_
  refine o' (su' b9 0 10 (c34' r42.1 A43 c44 A46 c47 A49 c50 A52 c53) ?_)
  refine s' (il' r42.2) as' ?_
  refine nt' (inb_ret (thn_ret ?_))
  have h_:=oi' H;subst h_
  exact b2' [.cell 4 34,.tmp 5] [0,1,2,3] ⟨A43,c44,A46,c47,A49,c50,A52,c53,rfl,rfl⟩ ⟨RV.cell (k:=10) rfl rfl Tryz.underlying34 rfl sz34,RV.tmp rfl,trivial⟩
 replace H:=g_iff h41 H
 refine SA_condF rfl h41 ?_
 refine qr' ?_
 refine s' (.bool (decide (a1.f0 = 3))) (V_eql rfl rfl) ?_
 refine s' (.bool (decide (a1.f0 = 3))) as' ?_
 refine na' ?_
 by_cases h56 : a1.f0 = 3
 ·replace H:=g_ift h56 H
  refine SA_condT rfl h56 ?_
  refine qr' ?_
  refine l' (lA' b5 0 4 (c34' a0 A0_0 c0_0 A0_1 c0_1 A0_2 c0_2 A0_3 c0_3)) ?_
  refine s' (pa' b7 1) (fa' b7 0 1) ?_
  refine l' (ld' b7 1 5) ?_
  refine s' (pa' b7 2) (fa' b7 0 2) ?_
  refine l' (ld' b7 2 5) ?_
  obtain⟨r57,C70,H⟩:=g_bind H
  refine o' (ca' [0,1,2,3] [0,1,2,3,4,5,6] (xf' [.agg (c34' a0 A0_0 c0_0 A0_1 c0_1 A0_2 c0_2 A0_3 c0_3).toArray,il' a1.f1,il' a1.f2]) (F30.ok (a0:=a0) (a1:=a1.f1) (a2:=a1.f2) C70) ?_)
  rintro _ _⟨A58,c59,A61,c62,A64,c65,A67,c68,rfl,rfl⟩
  refine s' (.agg (c34' r57.1 A58 c59 A61 c62 A64 c65 A67 c68).toArray) ex' ?_
  refine s' (il' r57.2) ex' ?_
  refine o' (su' b9 0 10 (c34' r57.1 A58 c59 A61 c62 A64 c65 A67 c68) ?_)
  refine s' (il' r57.2) as' ?_
  refine nt' (inb_ret (thn_ret ?_))
  have h_:=oi' H;subst h_
  exact b2' [.cell 4 34,.tmp 5] [0,1,2,3] ⟨A58,c59,A61,c62,A64,c65,A67,c68,rfl,rfl⟩ ⟨RV.cell (k:=10) rfl rfl Tryz.underlying34 rfl sz34,RV.tmp rfl,trivial⟩
 replace H:=g_iff h56 H
 refine SA_condF rfl h56 ?_
 refine qr' ?_
 refine s' (.bool (decide (a1.f0 = 4))) (V_eql rfl rfl) ?_
 refine s' (.bool (decide (a1.f0 = 4))) as' ?_
 refine na' ?_
 by_cases h71 : a1.f0 = 4
 ·replace H:=g_ift h71 H
  refine SA_condT rfl h71 ?_
  refine qr' ?_
  refine l' (lA' b5 0 4 (c34' a0 A0_0 c0_0 A0_1 c0_1 A0_2 c0_2 A0_3 c0_3)) ?_
  refine s' (pa' b7 3) (fa' b7 0 3) ?_
  refine l' (ld' b7 3 5) ?_
  refine s' (pa' b7 1) (fa' b7 0 1) ?_
  refine l' (ld' b7 1 5) ?_
  obtain⟨r72,C85,H⟩:=g_bind H
  refine o' (ca' [0,1,2,3] [0,1,2,3,4,5,6] (xf' [.agg (c34' a0 A0_0 c0_0 A0_1 c0_1 A0_2 c0_2 A0_3 c0_3).toArray,.bool a1.f3,il' a1.f1]) (F31.ok (a0:=a0) (a1:=a1.f3) (a2:=a1.f1) C85) ?_)
  rintro _ _⟨A73,c74,A76,c77,A79,c80,A82,c83,rfl,rfl⟩
  refine s' (.agg (c34' r72.1 A73 c74 A76 c77 A79 c80 A82 c83).toArray) ex' ?_
  refine s' (il' r72.2) ex' ?_
  refine o' (su' b9 0 10 (c34' r72.1 A73 c74 A76 c77 A79 c80 A82 c83) ?_)
  refine s' (il' r72.2) as' ?_
  refine nt' (inb_ret (thn_ret ?_))
  have h_:=oi' H;subst h_
  exact b2' [.cell 4 34,.tmp 5] [0,1,2,3] ⟨A73,c74,A76,c77,A79,c80,A82,c83,rfl,rfl⟩ ⟨RV.cell (k:=10) rfl rfl Tryz.underlying34 rfl sz34,RV.tmp rfl,trivial⟩
 replace H:=g_iff h71 H
 refine SA_condF rfl h71 ?_
 refine qr' ?_
 refine s' (.bool (decide (a1.f0 = 5))) (V_eql rfl rfl) ?_
 refine s' (.bool (decide (a1.f0 = 5))) as' ?_
 refine na' ?_
 by_cases h86 : a1.f0 = 5
 ·replace H:=g_ift h86 H
  refine SA_condT rfl h86 ?_
  refine qr' ?_
  refine l' (lA' b5 0 4 (c34' a0 A0_0 c0_0 A0_1 c0_1 A0_2 c0_2 A0_3 c0_3)) ?_
  refine s' (pa' b7 1) (fa' b7 0 1) ?_
  refine l' (ld' b7 1 5) ?_
  obtain⟨r87,C100,H⟩:=g_bind H
  refine o' (ca' [0,1,2,3] [0,1,2,3,4,5,6] (xf' [.agg (c34' a0 A0_0 c0_0 A0_1 c0_1 A0_2 c0_2 A0_3 c0_3).toArray,il' a1.f1]) (F32.ok (a0:=a0) (a1:=a1.f1) C100) ?_)
  rintro _ _⟨A88,c89,A91,c92,A94,c95,A97,c98,rfl,rfl⟩
  refine s' (.agg (c34' r87.1 A88 c89 A91 c92 A94 c95 A97 c98).toArray) ex' ?_
  refine s' (il' r87.2) ex' ?_
  refine o' (su' b9 0 10 (c34' r87.1 A88 c89 A91 c92 A94 c95 A97 c98) ?_)
  refine s' (il' r87.2) as' ?_
  refine nt' (inb_ret (thn_ret ?_))
  have h_:=oi' H;subst h_
  exact b2' [.cell 4 34,.tmp 5] [0,1,2,3] ⟨A88,c89,A91,c92,A94,c95,A97,c98,rfl,rfl⟩ ⟨RV.cell (k:=10) rfl rfl Tryz.underlying34 rfl sz34,RV.tmp rfl,trivial⟩
 replace H:=g_iff h86 H
 refine SA_condF rfl h86 ?_
 refine qr' ?_
 refine s' (.bool (decide (a1.f0 = 6))) (V_eql rfl rfl) ?_
 refine s' (.bool (decide (a1.f0 = 6))) as' ?_
 refine na' ?_
 by_cases h101 : a1.f0 = 6
 ·replace H:=g_ift h101 H
  refine SA_condT rfl h101 ?_
  refine qr' ?_
  refine l' (lA' b5 0 4 (c34' a0 A0_0 c0_0 A0_1 c0_1 A0_2 c0_2 A0_3 c0_3)) ?_
  refine s' (pa' b7 1) (fa' b7 0 1) ?_
  refine l' (ld' b7 1 5) ?_
  obtain⟨r102,C115,H⟩:=g_bind H
  refine o' (ca' [0,1,2,3] [0,1,2,3,4,5,6] (xf' [.agg (c34' a0 A0_0 c0_0 A0_1 c0_1 A0_2 c0_2 A0_3 c0_3).toArray,il' a1.f1]) (F33.ok (a0:=a0) (a1:=a1.f1) C115) ?_)
  rintro _ _⟨A103,c104,A106,c107,A109,c110,A112,c113,rfl,rfl⟩
  refine s' (.agg (c34' r102.1 A103 c104 A106 c107 A109 c110 A112 c113).toArray) ex' ?_
  refine s' (il' r102.2) ex' ?_
  refine o' (su' b9 0 10 (c34' r102.1 A103 c104 A106 c107 A109 c110 A112 c113) ?_)
  refine s' (il' r102.2) as' ?_
  refine nt' (inb_ret (thn_ret ?_))
  have h_:=oi' H;subst h_
  exact b2' [.cell 4 34,.tmp 5] [0,1,2,3] ⟨A103,c104,A106,c107,A109,c110,A112,c113,rfl,rfl⟩ ⟨RV.cell (k:=10) rfl rfl Tryz.underlying34 rfl sz34,RV.tmp rfl,trivial⟩
 replace H:=g_iff h101 H
 refine SA_condF rfl h101 ?_
 refine qr' ?_
 refine s' (.bool (decide (a1.f0 = 7))) (V_eql rfl rfl) ?_
 refine s' (.bool (decide (a1.f0 = 7))) as' ?_
 refine na' ?_
 by_cases h116 : a1.f0 = 7
 ·replace H:=g_ift h116 H
  refine SA_condT rfl h116 ?_
  refine qr' ?_
  refine l' (lA' b5 0 4 (c34' a0 A0_0 c0_0 A0_1 c0_1 A0_2 c0_2 A0_3 c0_3)) ?_
  refine s' (pa' b7 1) (fa' b7 0 1) ?_
  refine l' (ld' b7 1 5) ?_
  obtain⟨r117,C130,H⟩:=g_bind H
  refine o' (ca' [0,1,2,3] [0,1,2,3,4,5,6] (xf' [.agg (c34' a0 A0_0 c0_0 A0_1 c0_1 A0_2 c0_2 A0_3 c0_3).toArray,il' a1.f1]) (F34.ok (a0:=a0) (a1:=a1.f1) C130) ?_)
  rintro _ _⟨A118,c119,A121,c122,A124,c125,A127,c128,rfl,rfl⟩
  refine s' (.agg (c34' r117.1 A118 c119 A121 c122 A124 c125 A127 c128).toArray) ex' ?_
  refine s' (il' r117.2) ex' ?_
  refine o' (su' b9 0 10 (c34' r117.1 A118 c119 A121 c122 A124 c125 A127 c128) ?_)
  refine s' (il' r117.2) as' ?_
  refine nt' (inb_ret (thn_ret ?_))
  have h_:=oi' H;subst h_
  exact b2' [.cell 4 34,.tmp 5] [0,1,2,3] ⟨A118,c119,A121,c122,A124,c125,A127,c128,rfl,rfl⟩ ⟨RV.cell (k:=10) rfl rfl Tryz.underlying34 rfl sz34,RV.tmp rfl,trivial⟩
 replace H:=g_iff h116 H
 refine SA_condF rfl h116 ?_
 refine qr' ?_
 refine s' (.bool (decide (a1.f0 = 8))) (V_eql rfl rfl) ?_
 refine s' (.bool (decide (a1.f0 = 8))) as' ?_
 refine na' ?_
 by_cases h131 : a1.f0 = 8
 ·replace H:=g_ift h131 H
  refine SA_condT rfl h131 ?_
  refine qr' ?_
  refine l' (lA' b5 0 4 (c34' a0 A0_0 c0_0 A0_1 c0_1 A0_2 c0_2 A0_3 c0_3)) ?_
  refine s' (pa' b7 1) (fa' b7 0 1) ?_
  refine l' (ld' b7 1 5) ?_
  refine s' (pa' b7 2) (fa' b7 0 2) ?_
  refine l' (ld' b7 2 5) ?_
  obtain⟨r132,C145,H⟩:=g_bind H
  refine o' (ca' [0,1,2,3] [0,1,2,3,4,5,6] (xf' [.agg (c34' a0 A0_0 c0_0 A0_1 c0_1 A0_2 c0_2 A0_3 c0_3).toArray,il' a1.f1,il' a1.f2]) (F35.ok (a0:=a0) (a1:=a1.f1) (a2:=a1.f2) C145) ?_)
  rintro _ _⟨A133,c134,A136,c137,A139,c140,A142,c143,rfl,rfl⟩
  refine s' (.agg (c34' r132.1 A133 c134 A136 c137 A139 c140 A142 c143).toArray) ex' ?_
  refine s' (il' r132.2) ex' ?_
  refine o' (su' b9 0 10 (c34' r132.1 A133 c134 A136 c137 A139 c140 A142 c143) ?_)
  refine s' (il' r132.2) as' ?_
  refine nt' (inb_ret (thn_ret ?_))
  have h_:=oi' H;subst h_
  exact b2' [.cell 4 34,.tmp 5] [0,1,2,3] ⟨A133,c134,A136,c137,A139,c140,A142,c143,rfl,rfl⟩ ⟨RV.cell (k:=10) rfl rfl Tryz.underlying34 rfl sz34,RV.tmp rfl,trivial⟩
 replace H:=g_iff h131 H
 refine SA_condF rfl h131 ?_
 refine qr' ?_
 refine s' (.bool (decide (a1.f0 = 9))) (V_eql rfl rfl) ?_
 refine s' (.bool (decide (a1.f0 = 9))) as' ?_
 refine na' ?_
 refine SA.of_St (l:=[(2,pt' b5),(3,pt' b7),(4,pt' b9),(7,.int .u8 a1.f0),(90,.bool (decide (a1.f0 = 9)))]) (B:=[Blk b5 34 (c34' a0 A0_0 c0_0 A0_1 c0_1 A0_2 c0_2 A0_3 c0_3),Ro k55 A0_0 c0_0 a0.f0.f2,rl' A0_1 c0_1 a0.f7,Ro k55 A0_2 c0_2 a0.f16.f2,rw' A0_3 c0_3 a0.f17,Blk b7 44 [.int .u8 a1.f0,il' a1.f1,il' a1.f2,.bool a1.f3],Blk b9 34 (c34' z34' none 0 none 0 none 0 none 0)]) (St.mk1 (aeq rfl (aeq rfl (aeq rfl (aeq rfl (aeq rfl aeq0))))) (Gh.sel [4,0,1,2,3,5,6] (by kernel_rfl) (by kernel_rfl))) fun junk=>?_
 by_cases h146 : a1.f0 = 9
 ·replace H:=g_ift h146 H
  refine SA_condT rfl h146 ?_
  refine qr' ?_
  refine l' (lA' b5 0 0 (c34' a0 A0_0 c0_0 A0_1 c0_1 A0_2 c0_2 A0_3 c0_3)) ?_
  refine s' (pa' b7 3) (fa' b7 0 3) ?_
  refine l' (ld' b7 3 5) ?_
  obtain⟨r147,C160,H⟩:=g_bind H
  refine o' (ca' [1,2,3,4] [0,1,2,3,4,5,6] (xf' [.agg (c34' a0 A0_0 c0_0 A0_1 c0_1 A0_2 c0_2 A0_3 c0_3).toArray,.bool a1.f3]) (F17.ok (a0:=a0) (a1:=a1.f3) C160) ?_)
  rintro _ _⟨A148,c149,A151,c152,A154,c155,A157,c158,rfl,rfl⟩
  refine s' (.agg (c34' r147.1 A148 c149 A151 c152 A154 c155 A157 c158).toArray) ex' ?_
  refine s' (il' r147.2) ex' ?_
  refine o' (su' b9 0 10 (c34' r147.1 A148 c149 A151 c152 A154 c155 A157 c158) ?_)
  refine s' (il' r147.2) as' ?_
  refine nt' (inb_ret (thn_ret ?_))
  have h_:=oi' H;subst h_
  exact b2' [.cell 4 34,.tmp 5] [0,1,2,3] ⟨A148,c149,A151,c152,A154,c155,A157,c158,rfl,rfl⟩ ⟨RV.cell (k:=10) rfl rfl Tryz.underlying34 rfl sz34,RV.tmp rfl,trivial⟩
 replace H:=g_iff h146 H
 refine SA_condF rfl h146 ?_
 refine qr' ?_
 refine s' (.bool (decide (a1.f0 = 10))) (V_eql rfl rfl) ?_
 refine s' (.bool (decide (a1.f0 = 10))) as' ?_
 refine na' ?_
 by_cases h161 : a1.f0 = 10
 ·replace H:=g_ift h161 H
  refine SA_condT rfl h161 ?_
  refine qr' ?_
  refine l' (lA' b5 0 0 (c34' a0 A0_0 c0_0 A0_1 c0_1 A0_2 c0_2 A0_3 c0_3)) ?_
  refine s' (pa' b7 3) (fa' b7 0 3) ?_
  refine l' (ld' b7 3 5) ?_
  refine s' (pa' b7 1) (fa' b7 0 1) ?_
  refine l' (ld' b7 1 5) ?_
  refine s' (pa' b7 2) (fa' b7 0 2) ?_
  refine l' (ld' b7 2 5) ?_
  refine s' (.bool (decide (a1.f2 > 0))) (V_gtr rfl rfl) ?_
  obtain⟨r162,C175,H⟩:=g_bind H
  refine o' (ca' [1,2,3,4] [0,1,2,3,4,5,6] (xf' [.agg (c34' a0 A0_0 c0_0 A0_1 c0_1 A0_2 c0_2 A0_3 c0_3).toArray,.bool a1.f3,il' a1.f1,.bool (decide (a1.f2 > 0))]) (F36.ok (a0:=a0) (a1:=a1.f3) (a2:=a1.f1) (a3:=decide (a1.f2 > 0)) C175) ?_)
  rintro _ _⟨A163,c164,A166,c167,A169,c170,A172,c173,rfl,rfl⟩
  refine s' (.agg (c34' r162.1 A163 c164 A166 c167 A169 c170 A172 c173).toArray) ex' ?_
  refine s' (il' r162.2) ex' ?_
  refine o' (su' b9 0 10 (c34' r162.1 A163 c164 A166 c167 A169 c170 A172 c173) ?_)
  refine s' (il' r162.2) as' ?_
  refine nt' (inb_ret (thn_ret ?_))
  have h_:=oi' H;subst h_
  exact b2' [.cell 4 34,.tmp 5] [0,1,2,3] ⟨A163,c164,A166,c167,A169,c170,A172,c173,rfl,rfl⟩ ⟨RV.cell (k:=10) rfl rfl Tryz.underlying34 rfl sz34,RV.tmp rfl,trivial⟩
 replace H:=g_iff h161 H
 refine SA_condF rfl h161 ?_
 refine qr' ?_
 refine s' (.bool (decide (a1.f0 = 11))) (V_eql rfl rfl) ?_
 refine s' (.bool (decide (a1.f0 = 11))) as' ?_
 refine na' ?_
 by_cases h176 : a1.f0 = 11
 ·replace H:=g_ift h176 H
  refine SA_condT rfl h176 ?_
  refine qr' ?_
  refine l' (lA' b5 0 0 (c34' a0 A0_0 c0_0 A0_1 c0_1 A0_2 c0_2 A0_3 c0_3)) ?_
  refine s' (pa' b7 1) (fa' b7 0 1) ?_
  refine l' (ld' b7 1 5) ?_
  obtain⟨r177,C190,H⟩:=g_bind H
  refine o' (ca' [1,2,3,4] [0,1,2,3,4,5,6] (xf' [.agg (c34' a0 A0_0 c0_0 A0_1 c0_1 A0_2 c0_2 A0_3 c0_3).toArray,il' a1.f1]) (F37.ok (a0:=a0) (a1:=a1.f1) C190) ?_)
  rintro _ _⟨A178,c179,A181,c182,A184,c185,A187,c188,rfl,rfl⟩
  refine s' (.agg (c34' r177.1 A178 c179 A181 c182 A184 c185 A187 c188).toArray) ex' ?_
  refine s' (il' r177.2) ex' ?_
  refine o' (su' b9 0 10 (c34' r177.1 A178 c179 A181 c182 A184 c185 A187 c188) ?_)
  refine s' (il' r177.2) as' ?_
  refine nt' (inb_ret (thn_ret ?_))
  have h_:=oi' H;subst h_
  exact b2' [.cell 4 34,.tmp 5] [0,1,2,3] ⟨A178,c179,A181,c182,A184,c185,A187,c188,rfl,rfl⟩ ⟨RV.cell (k:=10) rfl rfl Tryz.underlying34 rfl sz34,RV.tmp rfl,trivial⟩
 replace H:=g_iff h176 H
 refine SA_condF rfl h176 ?_
 refine qr' ?_
 refine s' (.bool (decide (a1.f0 = 12))) (V_eql rfl rfl) ?_
 refine s' (.bool (decide (a1.f0 = 12))) as' ?_
 refine na' ?_
 by_cases h191 : a1.f0 = 12
 ·replace H:=g_ift h191 H
  refine SA_condT rfl h191 ?_
  refine qr' ?_
  refine l' (lA' b5 0 0 (c34' a0 A0_0 c0_0 A0_1 c0_1 A0_2 c0_2 A0_3 c0_3)) ?_
  refine s' (pa' b7 1) (fa' b7 0 1) ?_
  refine l' (ld' b7 1 5) ?_
  obtain⟨r192,C205,H⟩:=g_bind H
  refine o' (ca' [1,2,3,4] [0,1,2,3,4,5,6] (xf' [.agg (c34' a0 A0_0 c0_0 A0_1 c0_1 A0_2 c0_2 A0_3 c0_3).toArray,il' a1.f1]) (F38.ok (a0:=a0) (a1:=a1.f1) C205) ?_)
  rintro _ _⟨A193,c194,A196,c197,A199,c200,A202,c203,rfl,rfl⟩
  refine s' (.agg (c34' r192.1 A193 c194 A196 c197 A199 c200 A202 c203).toArray) ex' ?_
  refine s' (il' r192.2) ex' ?_
  refine o' (su' b9 0 10 (c34' r192.1 A193 c194 A196 c197 A199 c200 A202 c203) ?_)
  refine s' (il' r192.2) as' ?_
  refine nt' (inb_ret (thn_ret ?_))
  have h_:=oi' H;subst h_
  exact b2' [.cell 4 34,.tmp 5] [0,1,2,3] ⟨A193,c194,A196,c197,A199,c200,A202,c203,rfl,rfl⟩ ⟨RV.cell (k:=10) rfl rfl Tryz.underlying34 rfl sz34,RV.tmp rfl,trivial⟩
 replace H:=g_iff h191 H
 refine SA_condF rfl h191 ?_
 refine SA_skip (inb_normal (at_normal (qr' ?_)))
 refine l' (lA' b5 0 0 (c34' a0 A0_0 c0_0 A0_1 c0_1 A0_2 c0_2 A0_3 c0_3)) ?_
 refine s' (pa' b7 1) (fa' b7 0 1) ?_
 refine l' (ld' b7 1 5) ?_
 refine s' (pa' b7 2) (fa' b7 0 2) ?_
 refine l' (ld' b7 2 5) ?_
 obtain⟨r206,C219,H⟩:=g_bind H
 refine o' (ca' [1,2,3,4] [0,1,2,3,4,5,6] (xf' [.agg (c34' a0 A0_0 c0_0 A0_1 c0_1 A0_2 c0_2 A0_3 c0_3).toArray,il' a1.f1,il' a1.f2]) (F39.ok (a0:=a0) (a1:=a1.f1) (a2:=a1.f2) C219) ?_)
 rintro _ _⟨A207,c208,A210,c211,A213,c214,A216,c217,rfl,rfl⟩
 refine s' (.agg (c34' r206.1 A207 c208 A210 c211 A213 c214 A216 c217).toArray) ex' ?_
 refine s' (il' r206.2) ex' ?_
 refine o' (su' b9 0 10 (c34' r206.1 A207 c208 A210 c211 A213 c214 A216 c217) ?_)
 refine s' (il' r206.2) as' ?_
 refine nt' ?_
 have h_:=oi' H;subst h_
 exact b2' [.cell 4 34,.tmp 5] [0,1,2,3] ⟨A207,c208,A210,c211,A213,c214,A216,c217,rfl,rfl⟩ ⟨RV.cell (k:=10) rfl rfl Tryz.underlying34 rfl sz34,RV.tmp rfl,trivial⟩

end Go.Proofs.YtckilbegmbaeeaaGreat.Z5

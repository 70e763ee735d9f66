/- What functions compute, and that they do: 135, 135b0, 38, 62f94x_1_, 96, 96b0. -/
import Derived.Test.YtckilbegmbaeeaaGreatZ50
import Derived.Test.YtckilbegmbaeeaaGreatZ51
import Derived.Test.YtckilbegmbaeeaaGreatZ52
import Derived.Test.YtckilbegmbaeeaaGreatZ53
import Derived.Test.YtckilbegmbaeeaaGreatZ54
import Derived.Test.YtckilbegmbaeeaaGreatZ55
import Derived.Test.YtckilbegmbaeeaaGreatZ56
import Derived.Test.YtckilbegmbaeeaaGreatZ512
namespace Go.Proofs.YtckilbegmbaeeaaGreat.Z5
open Go Go.RowKit Go.Proofs.YtckilbegmbaeeaaGreat.SL
set_option linter.unusedVariables false
set_option maxHeartbeats 20000000
set_option maxRecDepth 100000
set_option linter.unusedSimpArgs false
attribute [local irreducible] IntKind.wrap minI maxI shrI shlI andI orI xorI andNotI cplI rd sub bytesOf strOf slA
variable {b0_ b2000_ c0_0 c0_1 c0_2 c0_3 k : Nat}
variable {A0_0 A0_1 A0_2 A0_3 : Option Addr}
def F62f94x_1_.f (k : Nat) (a0 : S34) (p2000 : Int) : Option (S34 × Int):=(F16b0.f k a0).bind (fun r10=>if (!r10) = true then (some (((S34.mk (S26.mk 0 0 ([] : (List S55))) 0 0 false (S28.mk 0 0 false false false false false false false false) 0 0 ([] : (List Int)) false false false false false false (S31.mk 0 0 false false (S28.mk 0 0 false false false false false false false false)) false (S26.mk 0 0 ([] : (List S55))) ([] : (List Int))),2))) else ((F97.f a0).bind (fun r16=>(F94Lb_0_.f k r16 p2000).bind (fun r29=>some ((r29,0))))))
theorem F62f94x_1_.ok {a0 : S34} {p2000 : Int} {r : S34 × Int} (H : F62f94x_1_.f k a0 p2000 = some r) : SCA Tryz.prog 62 #[.agg (c34' a0 A0_0 c0_0 A0_1 c0_1 A0_2 c0_2 A0_3 c0_3).toArray,.func (.func 94) #[] #[.pointer (some ⟨b2000_,0,none⟩)]] [Ro k55 A0_0 c0_0 a0.f0.f2,rl' A0_1 c0_1 a0.f7,Ro k55 A0_2 c0_2 a0.f16.f2,rw' A0_3 c0_3 a0.f17,Blk b2000_ 3 [il' p2000]] (fun v B=>∃ A0_0_ c0_0_ A0_1_ c0_1_ A0_2_ c0_2_ A0_3_ c0_3_,v = .tuple #[.agg (c34' r.1 A0_0_ c0_0_ A0_1_ c0_1_ A0_2_ c0_2_ A0_3_ c0_3_).toArray,il' r.2]∧B = [Buf k55 55 A0_0_ c0_0_ r.1.f0.f2,bl' 3 A0_1_ c0_1_ r.1.f7,Buf k55 55 A0_2_ c0_2_ r.1.f16.f2,bw' 21 A0_3_ c0_3_ r.1.f17,Blk b2000_ 3 [il' p2000]]):=by
 refine SCA_of_body Tryz.func62 rfl rfl ?_
 unfold F62f94x_1_.f at H
 refine qr' ?_
 refine o' (bx' fun b6=>?_)
 refine o' (al' fun b8=>?_)
 refine s' (il' 0) as' ?_
 refine nq' ?_
 refine l' (lA' b6 0 5 (c34' a0 A0_0 c0_0 A0_1 c0_1 A0_2 c0_2 A0_3 c0_3)) ?_
 obtain⟨r10,C44,H⟩:=g_bind H
 refine o' (ca' [0,1,2,3] [0,1,2,3,4,5,6] (xf' [.agg (c34' a0 A0_0 c0_0 A0_1 c0_1 A0_2 c0_2 A0_3 c0_3).toArray]) (F16.ok (a0:=a0) C44) ?_)
 rintro _ _⟨rfl,rfl⟩
 refine s' (.bool (!r10)) (V_not rfl) ?_
 refine na' ?_
 by_cases h11 : (!r10) = true
 ·replace H:=g_ift h11 H
  refine SA_condTb rfl h11 ?_
  refine qr' ?_
  refine s' (.agg (c34' z34' none 0 none 0 none 0 none 0).toArray) bd' ?_
  refine o' (su' b8 0 6 (c34' z34' none 0 none 0 none 0 none 0) ?_)
  refine s' (il' 2) as' ?_
  refine ntt' ?_
  have h_:=oi' H;subst h_
  exact BQ_RL (rs:=[.cell 4 34,.tmp 5]) (vs:=[.agg (c34' z34' none 0 none 0 none 0 none 0).toArray,il' 2]) [Buf k55 55 none 0 ([] : (List S55)),bl' 3 none 0 ([] : (List Int)),Buf k55 55 none 0 ([] : (List S55)),bw' 21 none 0 ([] : (List Int)),Blk b2000_ 3 [il' p2000]] rfl ⟨RV.cell (k:=6) rfl rfl Tryz.underlying34 rfl sz34,RV.tmp rfl,trivial⟩ rfl ((Gh.nilBuf k55 55).trans ((Gh.nilBuf (Kd.int .i64) 3).trans ((Gh.nilBuf k55 55).trans ((Gh.nilBuf (Kd.int .i32) 21).trans (gs' [7,8,9,10,4]))))) ⟨none,0,none,0,none,0,none,0,rfl,rfl⟩
 replace H:=g_iff h11 H
 refine SA_condFb rfl h11 ?_
 refine SA_skip (at_normal (qr' ?_))
 refine l' (lA' b6 0 5 (c34' a0 A0_0 c0_0 A0_1 c0_1 A0_2 c0_2 A0_3 c0_3)) ?_
 obtain⟨r16,C43,H⟩:=g_bind H
 refine o' (ca' [0,1,2,3] [0,1,2,3,4,5,6] (xf' [.agg (c34' a0 A0_0 c0_0 A0_1 c0_1 A0_2 c0_2 A0_3 c0_3).toArray]) (F97.ok (a0:=a0) C43) ?_)
 rintro _ _⟨A17,c18,A20,c21,A23,c24,A26,c27,rfl,rfl⟩
 refine o' (su' b6 0 9 (c34' r16 A17 c18 A20 c21 A23 c24 A26 c27) ?_)
 refine nr' ?_
 refine s' (.func (.func 94) #[] #[pt' b2000_]) mv' ?_
 refine s' (.agg #[pt' b6]) bd' ?_
 obtain⟨r29,C42,H⟩:=g_bind H
 refine o' (ca' [9,0,1,2,3,8] [4,5,6,7,10] (X_fnV (vs:=[.agg #[pt' b6]]) (cap:=[pt' b2000_]) rfl Tryz.func94 nm94 rfl rfl) (F94Lb_0_.ok (b0_:=b6) (p0:=r16) (b1_:=b2000_) (p1:=p2000) C42) ?_)
 rintro _ _⟨A30,c31,A33,c34,A36,c37,A39,c40,rfl,rfl⟩
 refine nr' ?_
 refine l' (lA' b6 0 0 (c34' r29 A30 c31 A33 c34 A36 c37 A39 c40)) ?_
 refine o' (su' b8 0 10 (c34' r29 A30 c31 A33 c34 A36 c37 A39 c40) ?_)
 refine s' (il' 0) as' ?_
 refine nt' ?_
 have h_:=oi' H;subst h_
 exact b2' [.cell 4 34,.tmp 5] [1,2,3,4,5] ⟨A30,c31,A33,c34,A36,c37,A39,c40,rfl,rfl⟩ ⟨RV.cell (k:=10) rfl rfl Tryz.underlying34 rfl sz34,RV.tmp rfl,trivial⟩


def F38.f (k : Nat) (a0 : S34) (a1 : Int) : Option (S34 × Int):=(F62f94x_1_.f k a0 a1).bind (fun r11=>some ((r11.1,r11.2)))
theorem F38.ok {a0 : S34} {a1 : Int} {r : S34 × Int} (H : F38.f k a0 a1 = some r) : SCA Tryz.prog 38 #[.agg (c34' a0 A0_0 c0_0 A0_1 c0_1 A0_2 c0_2 A0_3 c0_3).toArray,il' a1] [Ro k55 A0_0 c0_0 a0.f0.f2,rl' A0_1 c0_1 a0.f7,Ro k55 A0_2 c0_2 a0.f16.f2,rw' A0_3 c0_3 a0.f17] (fun v B=>∃ A0_0_ c0_0_ A0_1_ c0_1_ A0_2_ c0_2_ A0_3_ c0_3_,v = .tuple #[.agg (c34' r.1 A0_0_ c0_0_ A0_1_ c0_1_ A0_2_ c0_2_ A0_3_ c0_3_).toArray,il' r.2]∧B = [Buf k55 55 A0_0_ c0_0_ r.1.f0.f2,bl' 3 A0_1_ c0_1_ r.1.f7,Buf k55 55 A0_2_ c0_2_ r.1.f16.f2,bw' 21 A0_3_ c0_3_ r.1.f17]):=by
 refine SCA_of_body Tryz.func38 rfl rfl ?_
 unfold F38.f at H
 refine qr' ?_
 refine o' (bx' fun b5=>?_)
 refine o' (bx' fun b7=>?_)
 refine o' (al' fun b9=>?_)
 refine s' (il' 0) as' ?_
 refine nr' ?_
 refine l' (lA' b5 0 4 (c34' a0 A0_0 c0_0 A0_1 c0_1 A0_2 c0_2 A0_3 c0_3)) ?_
 refine s' (.func (.func 94) #[] #[pt' b7]) (V_makeFuncL (us:=[pt' b7]) rfl) ?_
 obtain⟨r11,C24,H⟩:=g_bind H
 refine o' (ca' [0,1,2,3,5] [0,1,2,3,4,6] (xf' [.agg (c34' a0 A0_0 c0_0 A0_1 c0_1 A0_2 c0_2 A0_3 c0_3).toArray,.func (.func 94) #[] #[pt' b7]]) (F62f94x_1_.ok (a0:=a0) (b2000_:=b7) (p2000:=a1) C24) ?_)
 rintro _ _⟨A12,c13,A15,c16,A18,c19,A21,c22,rfl,rfl⟩
 refine s' (.agg (c34' r11.1 A12 c13 A15 c16 A18 c19 A21 c22).toArray) ex' ?_
 refine s' (il' r11.2) ex' ?_
 refine o' (su' b9 0 10 (c34' r11.1 A12 c13 A15 c16 A18 c19 A21 c22) ?_)
 refine s' (il' r11.2) as' ?_
 refine nt' ?_
 have h_:=oi' H;subst h_
 exact b2' [.cell 4 34,.tmp 5] [0,1,2,3] ⟨A12,c13,A15,c16,A18,c19,A21,c22,rfl,rfl⟩ ⟨RV.cell (k:=10) rfl rfl Tryz.underlying34 rfl sz34,RV.tmp rfl,trivial⟩


def F135b0.f (p0 : S26) (a1 : Int) : Option ((Int × Int)):=lt (IntKind.i64.wrap (a1 * p0.f0)) fun n3=>if 0 ≤ n3∧n3 ≤ (IntKind.i64.wrap (n3 + p0.f0))∧(IntKind.i64.wrap (n3 + p0.f0)) ≤ (p0.f2.length : Int)∧(IntKind.i64.wrap (n3 + p0.f0)) ≤ (IntKind.i64.wrap (n3 + p0.f0))∧(IntKind.i64.wrap (n3 + p0.f0)) ≤ (p0.f2.length : Int) then (some (((0 + n3 : Int),((IntKind.i64.wrap (n3 + p0.f0)) - n3 : Int)))) else none
theorem F135b0.ok {p0 : S26} {a1 : Int} {r : (Int × Int)} (H : F135b0.f p0 a1 = some r) : SCA Tryz.prog 135 #[.pointer (some ⟨b0_,0,none⟩),il' a1] [Blk b0_ 26 [il' p0.f0,il' p0.f1,.slice A0_0 p0.f2.length c0_0],Buf k55 55 A0_0 c0_0 p0.f2] (fun v B=>∃ (V0_ : Option Addr) (v0_ : Nat) (_ : Win A0_0 V0_ 15 r.1 r.2 v0_),v = .slice V0_ r.2.toNat v0_∧B = [Blk b0_ 26 [il' p0.f0,il' p0.f1,.slice A0_0 p0.f2.length c0_0],Buf k55 55 A0_0 c0_0 p0.f2]):=by
 refine SCA_of_body Tryz.func135 rfl rfl ?_
 unfold F135b0.f at H
 refine qr' ?_
 refine s' (.slice none 0 0) as' ?_
 refine nr' ?_
 refine s' (il' a1) mv' ?_
 refine s' (pt' b0_) mv' ?_
 refine s' (pt' b0_) nc' ?_
 refine s' (pt' b0_) (fa' b0_ 0 0) ?_
 refine l' (ld' b0_ 0 0) ?_
 refine s' (il' (IntKind.i64.wrap (a1 * p0.f0))) (V_mul rfl rfl) ?_
 obtain⟨n3,hn3,H⟩:=g_lt H
 refine s' (il' n3) (V_assign (v:=il' n3) (congrArg (Value.int .i64) hn3.symm)) ?_
 refine na' (SA_seq ?_)
 refine fc' 1 fun hc4=>?_
 refine SA_drawHq (rg' 0 19) (List.toArray ([]::[0]::[0,1]::[0,1,2]::[]::[]::[]::[6]::[6,7]::[6,7,8]::(rg' 5 5)::[]::[]::[12]::[12,13]::[12,13,14]::(rg' 11 5)::(rg' 0 17)::(rg' 0 18)::[])) [0] [1] mixed rfl rfl rfl (PanOk.thn PanOk.body) fun I0 hS h0 hh0 w0 sH dd pk=>?_
 refine t' (pt' b0_) 0 rfl sH mv' ?_
 refine t' (pt' b0_) 1 rfl sH nc' ?_
 refine t' (pa' b0_ 2) 2 rfl sH (fa' b0_ 0 2) ?_
 refine r' 3 rfl sH (ld' b0_ 2 0) ?_
 refine t' (il' n3) 4 rfl sH mv' ?_
 refine t' (il' n3) 5 rfl sH mv' ?_
 refine t' (pt' b0_) 6 rfl sH mv' ?_
 refine t' (pt' b0_) 7 rfl sH nc' ?_
 refine t' (pt' b0_) 8 rfl sH (fa' b0_ 0 0) ?_
 refine r' 9 rfl sH (ld' b0_ 0 0) ?_
 refine t' (il' (IntKind.i64.wrap (n3 + p0.f0))) 10 rfl sH (V_add rfl rfl) ?_
 refine t' (il' n3) 11 rfl sH mv' ?_
 refine t' (pt' b0_) 12 rfl sH mv' ?_
 refine t' (pt' b0_) 13 rfl sH nc' ?_
 refine t' (pt' b0_) 14 rfl sH (fa' b0_ 0 0) ?_
 refine r' 15 rfl sH (ld' b0_ 0 0) ?_
 refine t' (il' (IntKind.i64.wrap (n3 + p0.f0))) 16 rfl sH (V_add rfl rfl) ?_
 obtain⟨⟨g1025,g1026,g1027,g1028,g1029⟩,H⟩:=g_pos H
 refine t' (.slice (slA A0_0 n3 (IntKind.i64.wrap (n3 + p0.f0)) 15) ((IntKind.i64.wrap (n3 + p0.f0)) - n3).toNat ((IntKind.i64.wrap (n3 + p0.f0)).toNat - n3.toNat)) 17 rfl sH (V_sliceW (l:=0) (m:=(p0.f2.length : Int)) (a:=n3) (b:=IntKind.i64.wrap (n3 + p0.f0)) (q:=IntKind.i64.wrap (n3 + p0.f0)) (Win.whole (A:=A0_0) (sz:=15) (xs:=p0.f2) (c:=c0_0) (by omega)) Tryz.underlying24 sz55 rfl rfl rfl rfl (.inr ⟨_,rfl⟩) (.inr ⟨_,rfl⟩) (.inr ⟨⟨_,rfl⟩,⟨_,rfl⟩,g1028,g1029⟩) g1025 g1026 g1027) ?_
 have hW1030 : Win A0_0 (slA A0_0 n3 (IntKind.i64.wrap (n3 + p0.f0)) 15) 15 (0 + n3) ((IntKind.i64.wrap (n3 + p0.f0)) - n3) ((IntKind.i64.wrap (n3 + p0.f0)).toNat - n3.toNat):=Win.sub (Win.whole (A:=A0_0) (sz:=15) (xs:=p0.f2) (c:=c0_0) (by omega)) g1025 g1026 g1027 (.inr g1028) (Int.le_trans g1029 ((Win.whole (A:=A0_0) (sz:=15) (xs:=p0.f2) (c:=c0_0) (by omega))).cap)
 refine t' (.slice (slA A0_0 n3 (IntKind.i64.wrap (n3 + p0.f0)) 15) ((IntKind.i64.wrap (n3 + p0.f0)) - n3).toNat ((IntKind.i64.wrap (n3 + p0.f0)).toNat - n3.toNat)) 18 rfl sH as' ?_
 refine DH_open dd sH ?_
 refine DN_done (by kernel_rfl) ?_
 refine at_normal (SA_ret ?_)
 have h_:=oi' H;subst h_
 exact b1' [0,1] ⟨slA A0_0 n3 (IntKind.i64.wrap (n3 + p0.f0)) 15,(IntKind.i64.wrap (n3 + p0.f0)).toNat - n3.toNat,hW1030,rfl,rfl⟩


def F135.f (p0 : S26) (a1 : Int) : Option ((List S55)):=lt (IntKind.i64.wrap (a1 * p0.f0)) fun n3=>if 0 ≤ n3∧n3 ≤ (IntKind.i64.wrap (n3 + p0.f0))∧(IntKind.i64.wrap (n3 + p0.f0)) ≤ (p0.f2.length : Int)∧(IntKind.i64.wrap (n3 + p0.f0)) ≤ (IntKind.i64.wrap (n3 + p0.f0))∧(IntKind.i64.wrap (n3 + p0.f0)) ≤ (p0.f2.length : Int) then lt (sub p0.f2 n3 (IntKind.i64.wrap (n3 + p0.f0))) fun n1030=>(some (n1030)) else none
theorem F135.ok {p0 : S26} {a1 : Int} {r : (List S55)} (H : F135.f p0 a1 = some r) : SCA Tryz.prog 135 #[.pointer (some ⟨b0_,0,none⟩),il' a1] [Blk b0_ 26 [il' p0.f0,il' p0.f1,.slice A0_0 p0.f2.length c0_0],Ro k55 A0_0 c0_0 p0.f2] (fun v B=>∃ A0_0_ c0_0_,v = .slice A0_0_ r.length c0_0_∧B = [Ro k55 A0_0_ c0_0_ r,Blk b0_ 26 [il' p0.f0,il' p0.f1,.slice A0_0 p0.f2.length c0_0]]):=by
 refine SCA_of_body Tryz.func135 rfl rfl ?_
 unfold F135.f at H
 refine qr' ?_
 refine s' (.slice none 0 0) as' ?_
 refine nr' ?_
 refine s' (il' a1) mv' ?_
 refine s' (pt' b0_) mv' ?_
 refine s' (pt' b0_) nc' ?_
 refine s' (pt' b0_) (fa' b0_ 0 0) ?_
 refine l' (ld' b0_ 0 0) ?_
 refine s' (il' (IntKind.i64.wrap (a1 * p0.f0))) (V_mul rfl rfl) ?_
 obtain⟨n3,hn3,H⟩:=g_lt H
 refine s' (il' n3) (V_assign (v:=il' n3) (congrArg (Value.int .i64) hn3.symm)) ?_
 refine na' (SA_seq ?_)
 refine SA_drawHq (rg' 0 19) (List.toArray ([]::[0]::[0,1]::[0,1,2]::[]::[]::[]::[6]::[6,7]::[6,7,8]::(rg' 5 5)::[]::[]::[12]::[12,13]::[12,13,14]::(rg' 11 5)::(rg' 0 17)::(rg' 0 18)::[])) [0,1] [1] mixed rfl rfl rfl (PanOk.thn PanOk.body) fun I0 hS h0 hh0 w0 sH dd pk=>?_
 refine t' (pt' b0_) 0 rfl sH mv' ?_
 refine t' (pt' b0_) 1 rfl sH nc' ?_
 refine t' (pa' b0_ 2) 2 rfl sH (fa' b0_ 0 2) ?_
 refine r' 3 rfl sH (ld' b0_ 2 0) ?_
 refine t' (il' n3) 4 rfl sH mv' ?_
 refine t' (il' n3) 5 rfl sH mv' ?_
 refine t' (pt' b0_) 6 rfl sH mv' ?_
 refine t' (pt' b0_) 7 rfl sH nc' ?_
 refine t' (pt' b0_) 8 rfl sH (fa' b0_ 0 0) ?_
 refine r' 9 rfl sH (ld' b0_ 0 0) ?_
 refine t' (il' (IntKind.i64.wrap (n3 + p0.f0))) 10 rfl sH (V_add rfl rfl) ?_
 refine t' (il' n3) 11 rfl sH mv' ?_
 refine t' (pt' b0_) 12 rfl sH mv' ?_
 refine t' (pt' b0_) 13 rfl sH nc' ?_
 refine t' (pt' b0_) 14 rfl sH (fa' b0_ 0 0) ?_
 refine r' 15 rfl sH (ld' b0_ 0 0) ?_
 refine t' (il' (IntKind.i64.wrap (n3 + p0.f0))) 16 rfl sH (V_add rfl rfl) ?_
 obtain⟨⟨g1024,g1025,g1026,g1027,g1028⟩,H⟩:=g_pos H
 obtain⟨n1030,hn1030,H⟩:=g_lt H
 replace sH:=held (GP.subN (k:=1) (l:=n3) (h:=IntKind.i64.wrap (n3 + p0.f0)) (m:=IntKind.i64.wrap (n3 + p0.f0)) (sz:=15) hn1030 rfl rfl g1024 g1025 g1026 (.inr g1027)) sH
 refine DH_dup 2 sH rfl rfl ?_
 refine r' 17 rfl sH (VR_sub (k:=1) (l:=n3) (h:=IntKind.i64.wrap (n3 + p0.f0)) (m:=IntKind.i64.wrap (n3 + p0.f0)) hn1030 rfl Tryz.underlying24 sz55 rfl rfl rfl rfl (.inr ⟨_,rfl⟩) (.inr ⟨_,rfl⟩) (.inr ⟨⟨_,rfl⟩,⟨_,rfl⟩,g1027,g1028⟩) g1024 g1025 g1026) ?_
 refine t' (.slice (slA A0_0 n3 (IntKind.i64.wrap (n3 + p0.f0)) 15) n1030.length ((IntKind.i64.wrap (n3 + p0.f0)).toNat - n3.toNat)) 18 rfl sH as' ?_
 refine DH_open dd sH ?_
 refine DN_done (by kernel_rfl) ?_
 refine at_normal (SA_ret ?_)
 have h_:=oi' H;subst h_
 exact b1' [2,0] ⟨slA A0_0 n3 (IntKind.i64.wrap (n3 + p0.f0)) 15,(IntKind.i64.wrap (n3 + p0.f0)).toNat - n3.toNat,rfl,rfl⟩


def F96.l0 (a0 : S26) (a2 : Int) (r21 : S26) : Nat → Int → (List S55) → Option ((List S55))
  | 0,_,_=>none
  | k + 1,x36_27,z10_2_27=>if z10_2_27.length = r21.f2.length then (if x36_27 < (minI a2 a0.f1) then ((F135b0.f (S26.mk r21.f0 r21.f1 z10_2_27) x36_27).bind (fun r32=>if (0 ≤ r32.1∧0 ≤ r32.2∧r32.1 + r32.2 ≤ (z10_2_27.length : Int)) then ((F135.f a0 x36_27).bind (fun r37=>lt (over z10_2_27 r32.1.toNat (r37.take r32.2.toNat)) fun n41=>((F136w0.f k n41 r32.1 r32.2).bind (fun r42=>if r42.length = n41.length then (F96.l0 a0 a2 r21 k (IntKind.i64.wrap (x36_27 + 1)) r42) else none)))) else none)) else (some z10_2_27)) else none
def F96.f (k : Nat) (a0 : S26) (a1 : Int) (a2 : Int) (a3 : S28) : Option (S26 × Int):=(F57b0.f k a0).bind (fun r8=>(if (!r8) = true then (some true) else ((F68.f a1 a2).bind (fun r11=>some (!r11))) : Option Bool).bind (fun q9=>(if q9 = true then (some true) else ((F58.f a3).bind (fun r16=>some (!r16))) : Option Bool).bind (fun q14=>if q14 = true then (some (((S26.mk 0 0 ([] : (List S55))),2))) else ((F69.f k a1 a2 a3).bind (fun r21=>(F96.l0 a0 a2 r21 k 0 r21.f2 : Option ((List S55))).bind (fun t27=>if t27.length = r21.f2.length then (some (((S26.mk r21.f0 r21.f1 t27),0))) else none))))))
theorem F96.ok {a0 : S26} {a1 : Int} {a2 : Int} {a3 : S28} {r : S26 × Int} (H : F96.f k a0 a1 a2 a3 = some r) : SCA Tryz.prog 96 #[.agg #[il' a0.f0,il' a0.f1,.slice A0_0 a0.f2.length c0_0],il' a1,il' a2,.agg (c28' a3).toArray] [Ro k55 A0_0 c0_0 a0.f2] (fun v B=>∃ A0_0_ c0_0_,v = .tuple #[.agg #[il' r.1.f0,il' r.1.f1,.slice A0_0_ r.1.f2.length c0_0_],il' r.2]∧B = [Buf k55 55 A0_0_ c0_0_ r.1.f2]):=by
 refine SCA_of_body Tryz.func96 rfl rfl ?_
 unfold F96.f at H
 refine qr' ?_
 refine o' (bx' fun b2=>?_)
 refine o' (bx' fun b4=>?_)
 refine o' (al' fun b6=>?_)
 refine s' (il' 0) as' ?_
 refine nq' ?_
 refine l' (lA' b2 0 1 [il' a0.f0,il' a0.f1,.slice A0_0 a0.f2.length c0_0]) ?_
 obtain⟨r8,C51,H⟩:=g_bind H
 refine o' (ca' [0] [0,1,2,3] (xf' [.agg #[il' a0.f0,il' a0.f1,.slice A0_0 a0.f2.length c0_0]]) (F57.ok (a0:=a0) C51) ?_)
 rintro _ _⟨rfl,rfl⟩
 refine s' (.bool (!r8)) (V_not rfl) ?_
 refine s' (.bool (!r8)) mv' ?_
 obtain⟨q9,H,Bq9⟩:=g_bind H
 refine cR' 5 [(1,il' a1),(2,il' a2),(4,pt' b2),(7,pt' b4),(8,pt' b6),(21,.bool q9)] [Blk b2 26 [il' a0.f0,il' a0.f1,.slice A0_0 a0.f2.length c0_0],Ro k55 A0_0 c0_0 a0.f2,Blk b4 28 (c28' a3),Blk b6 26 [il' 0,il' 0,.slice none 0 0]] ?_ fun junk=>?_
 ·by_cases h10 : (!r8) = true
  ·replace H:=g_ift h10 H
   refine no' 4 h10 ?_
   refine pT' h10 ?_
   have h_:=oi' H;subst h_
   exact rm' [1,0,2,3]
  replace H:=g_iff h10 H
  refine y' (bno h10) (il' a1) mv' ?_
  refine y' (bno h10) (il' a2) mv' ?_
  obtain⟨r11,C12,H⟩:=g_bind H
  refine yo' (bno h10) (ca' [] [0,1,2,3] (xf' [il' a1,il' a2]) (F68.ok (a0:=a1) (a1:=a2) C12) ?_)
  rintro _ _⟨rfl,rfl⟩
  refine y' (bno h10) (.bool (!r11)) (V_not rfl) ?_
  refine pF' (bno h10) ?_
  have h_:=oi' H;subst h_
  exact rm' [1,0,2,3]
 replace H:=Bq9
 refine s' (.bool q9) mv' ?_
 obtain⟨q14,H,Bq14⟩:=g_bind H
 refine RA_cut 4 (fun e ds As=>St [(1,il' a1),(2,il' a2),(4,pt' b2),(7,pt' b4),(8,pt' b6),(26,.bool q14)] [Blk b2 26 [il' a0.f0,il' a0.f1,.slice A0_0 a0.f2.length c0_0],Ro k55 A0_0 c0_0 a0.f2,Blk b4 28 (c28' a3),Blk b6 26 [il' 0,il' 0,.slice none 0 0]] e ds As) ?_ ?_
 ·by_cases h15 : q9 = true
  ·replace H:=g_ift h15 H
   refine no' 3 h15 ?_
   refine pT' h15 ?_
   have h_:=oi' H;subst h_
   exact rm' [0,1,2,3]
  replace H:=g_iff h15 H
  refine z' (bno h15) (lA' b4 0 2 (c28' a3)) ?_
  obtain⟨r16,C17,H⟩:=g_bind H
  refine yo' (bno h15) (ca' [] [0,1,2,3] (xf' [.agg (c28' a3).toArray]) (F58.ok (a0:=a3) C17) ?_)
  rintro _ _⟨rfl,rfl⟩
  refine y' (bno h15) (.bool (!r16)) (V_not rfl) ?_
  refine pF' (bno h15) ?_
  have h_:=oi' H;subst h_
  exact rm' [0,1,2,3]
 rintro e ds As hst18
 clear H
 have H:=Bq14
 clear Bq14
 refine na' ?_
 refine SA.of_St hst18 fun junk=>?_
 by_cases h19 : q14 = true
 ·replace H:=g_ift h19 H
  refine SA_condTb rfl h19 ?_
  refine qr' ?_
  refine s' (.agg #[il' 0,il' 0,.slice none 0 0]) bd' ?_
  refine o' (su' b6 0 3 [il' 0,il' 0,.slice none 0 0] ?_)
  refine s' (il' 2) as' ?_
  refine ntt' ?_
  have h_:=oi' H;subst h_
  exact BQ_RL (rs:=[.cell 8 26,.tmp 9]) (vs:=[.agg #[il' 0,il' 0,.slice none 0 0],il' 2]) [Buf k55 55 none 0 ([] : (List S55))] rfl ⟨RV.cell (k:=3) rfl rfl Tryz.underlying26 rfl sz26,RV.tmp rfl,trivial⟩ rfl ((Gh.nilBuf k55 55).trans (gs' [4])) ⟨none,0,rfl,rfl⟩
 replace H:=g_iff h19 H
 refine SA_condFb rfl h19 ?_
 refine SA_skip (at_normal (qr' ?_))
 refine s' (il' a1) mv' ?_
 refine s' (il' a2) mv' ?_
 refine l' (lA' b4 0 2 (c28' a3)) ?_
 obtain⟨r21,C50,H⟩:=g_bind H
 refine o' (ca' [] [0,1,2,3] (xf' [il' a1,il' a2,.agg (c28' a3).toArray]) (F69.ok (a0:=a1) (a1:=a2) (a2:=a3) C50) ?_)
 rintro _ _⟨A22,c23,rfl,rfl⟩
 refine o' (al' fun b25=>?_)
 refine o' (su' b25 0 5 [il' r21.f0,il' r21.f1,.slice A22 r21.f2.length c23] ?_)
 refine nq' ?_
 refine s' (il' a2) mv' ?_
 refine s' (pa' b2 1) (fa' b2 0 1) ?_
 refine l' (ld' b2 1 1) ?_
 refine s' (il' (minI a2 a0.f1)) (V_min rfl rfl) ?_
 refine s' (il' 0) mv' ?_
 refine na' ?_
 obtain⟨t27,H,Bt27⟩:=g_bind H
 refine SA_mid (fun e ds As=>St [(8,pt' b6),(10,pt' b25)] [Blk b6 26 [il' 0,il' 0,.slice none 0 0],Blk b25 26 [il' r21.f0,il' r21.f1,.slice A22 t27.length c23],Buf k55 55 A22 c23 t27] e ds As) ?_ ?_
 ·refine SA_block ?_
  refine SA_loop (fun k_ e ds As=>∃ (x36_27 : Int) (z10_2_27 : (List S55)),F96.l0 a0 a2 r21 k_ x36_27 z10_2_27 = some t27∧St [(4,pt' b2),(8,pt' b6),(10,pt' b25),(35,il' (minI a2 a0.f1)),(36,il' x36_27)] [Blk b2 26 [il' a0.f0,il' a0.f1,.slice A0_0 a0.f2.length c0_0],Ro k55 A0_0 c0_0 a0.f2,Blk b6 26 [il' 0,il' 0,.slice none 0 0],Blk b25 26 [il' r21.f0,il' r21.f1,.slice A22 z10_2_27.length c23],Buf k55 55 A22 c23 z10_2_27] e ds As) (k:=k) ⟨_,_,H,sq' [1,2,4,5,0]⟩ ?_
  clear H
  rintro k28 e ds As ⟨x36_27,z10_2_27,H,hst29⟩
  obtain _ | k28:=k28
  ·cases H
  rw [F96.l0] at H
  obtain⟨hl47,H⟩:=g_pos H
  refine SA.of_St hst29 fun junk=>?_
  refine qr' ?_
  refine s' (.bool (decide (x36_27 < (minI a2 a0.f1)))) (V_lss rfl rfl) ?_
  refine na' (SA_seq ?_)
  by_cases h30 : x36_27 < (minI a2 a0.f1)
  ·replace H:=g_ift h30 H
   refine SA_condT rfl h30 ?_
   refine SA_skip (at_normal (SA_seq (SA_block (qr' ?_))))
   refine s' (il' x36_27) mv' ?_
   refine s' (il' x36_27) as' ?_
   refine na' (SA_seq ?_)
   refine fc' 4 fun hc31=>?_
   refine SA_region ?_
   refine s' (il' x36_27) mv' ?_
   obtain⟨r32,C46,H⟩:=g_bind H
   obtain⟨⟨hl36a,hl36b,hl36c⟩,H⟩:=g_pos H
   refine o' (ca' [3,4] [0,1,2] (xf' [pt' b25,il' x36_27]) (F135b0.ok (b0_:=b25) (p0:=(S26.mk r21.f0 r21.f1 z10_2_27)) (a1:=x36_27) C46) ?_)
   rintro _ _⟨V33,v34,hW35,rfl,rfl⟩
   refine s' (.slice V33 r32.2.toNat v34) as' ?_
   refine nr' ?_
   refine s' (.slice V33 r32.2.toNat v34) mv' ?_
   refine s' (il' x36_27) mv' ?_
   obtain⟨r37,C45,H⟩:=g_bind H
   refine o' (ca' [2,3] [0,1,3,4] (xf' [pt' b2,il' x36_27]) (F135.ok (b0_:=b2) (p0:=a0) (a1:=x36_27) C45) ?_)
   rintro _ _⟨A38,c39,rfl,rfl⟩
   obtain⟨n41,hn41,H⟩:=g_lt H
   have hl_n41 : n41.length = z10_2_27.length:=by rw [hn41]; exact over_len (by rw [List.length_take]; omega)
   refine o' (OA_copyV (k:=3) (l:=r32.1) (m:=r32.2) (xs:=z10_2_27) (ys:=r37) n41 hn41 hW35 rfl Tryz.underlying116 sz55 rfl rfl rfl (by omega) rfl (Cpy.slice (Src.ro (k:=0) rfl)) ?_)
   try unfold c28'
   try rewrite [← hl_n41]
   refine na' (SA_region ?_)
   refine s' (.slice V33 r32.2.toNat v34) mv' ?_
   obtain⟨r42,C44,H⟩:=g_bind H
   obtain⟨hl43,H⟩:=g_pos H
   refine o' (ca' [3] [0,1,2,4,5] (xf' [.slice V33 r32.2.toNat v34]) (F136w0.ok (l0:=n41) (o0:=r32.1) (n0:=r32.2) (A0:=A22) (c0:=c23) (V0:=V33) (v0:=v34) (hw0:=hW35) C44) ?_)
   rintro _ _⟨rfl,rfl⟩
   try unfold c28'
   try rewrite [← hl43]
   refine RA_nil (inb_normal (at_normal (SA_region ?_)))
   refine s' (il' (IntKind.i64.wrap (x36_27 + 1))) (V_add rfl rfl) ?_
   refine s' (il' (IntKind.i64.wrap (x36_27 + 1))) mv' ?_
   refine RA_nil ?_
   exact at_normal ⟨k28,Nat.lt_succ_self _,_,_,H,sq' [2,4,5,3,0]⟩
  replace H:=g_iff h30 H
  refine SA_condF rfl h30 ?_
  refine SA_exit (thn_exit (thn_exit (inb_hit ?_)))
  have h_:=oi' H;subst h_
  exact sm' [2,3,4]
 rintro e ds As hst48
 clear H
 have H:=Bt27
 clear Bt27
 obtain⟨hl49,H⟩:=g_pos H
 refine at_normal ?_
 refine SA.of_St hst48 fun junk=>?_
 refine qr' ?_
 refine l' (lA' b25 0 1 [il' r21.f0,il' r21.f1,.slice A22 t27.length c23]) ?_
 refine o' (su' b6 0 0 [il' r21.f0,il' r21.f1,.slice A22 t27.length c23] ?_)
 refine s' (il' 0) as' ?_
 refine nt' ?_
 have h_:=oi' H;subst h_
 exact b2' [.cell 8 26,.tmp 9] [2] ⟨A22,c23,rfl,rfl⟩ ⟨RV.cell (k:=0) rfl rfl Tryz.underlying26 rfl sz26,RV.tmp rfl,trivial⟩


def F96b0.l0 (a0 : S26) (a2 : Int) (r22 : S26) : Nat → Int → (List S55) → Option ((List S55))
  | 0,_,_=>none
  | k + 1,x36_28,z10_2_28=>if z10_2_28.length = r22.f2.length then (if x36_28 < (minI a2 a0.f1) then ((F135b0.f (S26.mk r22.f0 r22.f1 z10_2_28) x36_28).bind (fun r33=>if (0 ≤ r33.1∧0 ≤ r33.2∧r33.1 + r33.2 ≤ (z10_2_28.length : Int)) then ((F135b0.f a0 x36_28).bind (fun r38=>if (0 ≤ r38.1∧0 ≤ r38.2∧r38.1 + r38.2 ≤ (a0.f2.length : Int)) then (lt (over z10_2_28 r33.1.toNat ((sub a0.f2 r38.1 (r38.1 + r38.2)).take r33.2.toNat)) fun n43=>((F136w0.f k n43 r33.1 r33.2).bind (fun r44=>if r44.length = n43.length then (F96b0.l0 a0 a2 r22 k (IntKind.i64.wrap (x36_28 + 1)) r44) else none))) else none)) else none)) else (some z10_2_28)) else none
def F96b0.f (k : Nat) (a0 : S26) (a1 : Int) (a2 : Int) (a3 : S28) : Option (S26 × Int):=(F57b0.f k a0).bind (fun r9=>(if (!r9) = true then (some true) else ((F68.f a1 a2).bind (fun r12=>some (!r12))) : Option Bool).bind (fun q10=>(if q10 = true then (some true) else ((F58.f a3).bind (fun r17=>some (!r17))) : Option Bool).bind (fun q15=>if q15 = true then (some (((S26.mk 0 0 ([] : (List S55))),2))) else ((F69.f k a1 a2 a3).bind (fun r22=>(F96b0.l0 a0 a2 r22 k 0 r22.f2 : Option ((List S55))).bind (fun t28=>if t28.length = r22.f2.length then (some (((S26.mk r22.f0 r22.f1 t28),0))) else none))))))
theorem F96b0.ok {a0 : S26} {a1 : Int} {a2 : Int} {a3 : S28} {r : S26 × Int} (H : F96b0.f k a0 a1 a2 a3 = some r) : SCA Tryz.prog 96 #[.agg #[il' a0.f0,il' a0.f1,.slice A0_0 a0.f2.length c0_0],il' a1,il' a2,.agg (c28' a3).toArray] [Buf k55 55 A0_0 c0_0 a0.f2] (fun v B=>∃ A0_0_ c0_0_,v = .tuple #[.agg #[il' r.1.f0,il' r.1.f1,.slice A0_0_ r.1.f2.length c0_0_],il' r.2]∧B = [Buf k55 55 A0_0_ c0_0_ r.1.f2,Buf k55 55 A0_0 c0_0 a0.f2]):=by
 refine SCA_of_body Tryz.func96 rfl rfl ?_
 unfold F96b0.f at H
 refine qr' ?_
 refine o' (bx' fun b2=>?_)
 refine o' (bx' fun b4=>?_)
 refine o' (al' fun b6=>?_)
 refine s' (il' 0) as' ?_
 refine na' (SA_seq (SA_seq ?_))
 refine fc' 0 fun hc8=>?_
 refine SA_region ?_
 refine l' (lA' b2 0 1 [il' a0.f0,il' a0.f1,.slice A0_0 a0.f2.length c0_0]) ?_
 obtain⟨r9,C53,H⟩:=g_bind H
 refine o' (ca' [0] [1,2,3] (xf' [.agg #[il' a0.f0,il' a0.f1,.slice A0_0 a0.f2.length c0_0]]) (F57b0.ok (a0:=a0) C53) ?_)
 rintro _ _⟨rfl,rfl⟩
 refine s' (.bool (!r9)) (V_not rfl) ?_
 refine s' (.bool (!r9)) mv' ?_
 obtain⟨q10,H,Bq10⟩:=g_bind H
 refine cR' 5 [(1,il' a1),(2,il' a2),(4,pt' b2),(7,pt' b4),(8,pt' b6),(21,.bool q10)] [Buf k55 55 A0_0 c0_0 a0.f2,Blk b2 26 [il' a0.f0,il' a0.f1,.slice A0_0 a0.f2.length c0_0],Blk b4 28 (c28' a3),Blk b6 26 [il' 0,il' 0,.slice none 0 0]] ?_ fun junk=>?_
 ·by_cases h11 : (!r9) = true
  ·replace H:=g_ift h11 H
   refine no' 4 h11 ?_
   refine pT' h11 ?_
   have h_:=oi' H;subst h_
   exact rm' [0,1,2,3]
  replace H:=g_iff h11 H
  refine y' (bno h11) (il' a1) mv' ?_
  refine y' (bno h11) (il' a2) mv' ?_
  obtain⟨r12,C13,H⟩:=g_bind H
  refine yo' (bno h11) (ca' [] [0,1,2,3] (xf' [il' a1,il' a2]) (F68.ok (a0:=a1) (a1:=a2) C13) ?_)
  rintro _ _⟨rfl,rfl⟩
  refine y' (bno h11) (.bool (!r12)) (V_not rfl) ?_
  refine pF' (bno h11) ?_
  have h_:=oi' H;subst h_
  exact rm' [0,1,2,3]
 replace H:=Bq10
 refine s' (.bool q10) mv' ?_
 obtain⟨q15,H,Bq15⟩:=g_bind H
 refine RA_cut 4 (fun e ds As=>St [(1,il' a1),(2,il' a2),(4,pt' b2),(7,pt' b4),(8,pt' b6),(26,.bool q15)] [Buf k55 55 A0_0 c0_0 a0.f2,Blk b2 26 [il' a0.f0,il' a0.f1,.slice A0_0 a0.f2.length c0_0],Blk b4 28 (c28' a3),Blk b6 26 [il' 0,il' 0,.slice none 0 0]] e ds As) ?_ ?_
 ·by_cases h16 : q10 = true
  ·replace H:=g_ift h16 H
   refine no' 3 h16 ?_
   refine pT' h16 ?_
   have h_:=oi' H;subst h_
   exact rm' [0,1,2,3]
  replace H:=g_iff h16 H
  refine z' (bno h16) (lA' b4 0 2 (c28' a3)) ?_
  obtain⟨r17,C18,H⟩:=g_bind H
  refine yo' (bno h16) (ca' [] [0,1,2,3] (xf' [.agg (c28' a3).toArray]) (F58.ok (a0:=a3) C18) ?_)
  rintro _ _⟨rfl,rfl⟩
  refine y' (bno h16) (.bool (!r17)) (V_not rfl) ?_
  refine pF' (bno h16) ?_
  have h_:=oi' H;subst h_
  exact rm' [0,1,2,3]
 rintro e ds As hst19
 clear H
 have H:=Bq15
 clear Bq15
 refine na' ?_
 refine SA.of_St hst19 fun junk=>?_
 by_cases h20 : q15 = true
 ·replace H:=g_ift h20 H
  refine SA_condTb rfl h20 ?_
  refine qr' ?_
  refine s' (.agg #[il' 0,il' 0,.slice none 0 0]) bd' ?_
  refine o' (su' b6 0 3 [il' 0,il' 0,.slice none 0 0] ?_)
  refine s' (il' 2) as' ?_
  refine ntt' ?_
  have h_:=oi' H;subst h_
  exact BQ_RL (rs:=[.cell 8 26,.tmp 9]) (vs:=[.agg #[il' 0,il' 0,.slice none 0 0],il' 2]) [Buf k55 55 none 0 ([] : (List S55)),Buf k55 55 A0_0 c0_0 a0.f2] rfl ⟨RV.cell (k:=3) rfl rfl Tryz.underlying26 rfl sz26,RV.tmp rfl,trivial⟩ rfl ((Gh.nilBuf k55 55).trans (gs' [4,0])) ⟨none,0,rfl,rfl⟩
 replace H:=g_iff h20 H
 refine SA_condFb rfl h20 ?_
 refine SA_skip (at_normal (qr' ?_))
 refine s' (il' a1) mv' ?_
 refine s' (il' a2) mv' ?_
 refine l' (lA' b4 0 2 (c28' a3)) ?_
 obtain⟨r22,C52,H⟩:=g_bind H
 refine o' (ca' [] [0,1,2,3] (xf' [il' a1,il' a2,.agg (c28' a3).toArray]) (F69.ok (a0:=a1) (a1:=a2) (a2:=a3) C52) ?_)
 rintro _ _⟨A23,c24,rfl,rfl⟩
 refine o' (al' fun b26=>?_)
 refine o' (su' b26 0 5 [il' r22.f0,il' r22.f1,.slice A23 r22.f2.length c24] ?_)
 refine nq' ?_
 refine s' (il' a2) mv' ?_
 refine s' (pa' b2 1) (fa' b2 0 1) ?_
 refine l' (ld' b2 1 2) ?_
 refine s' (il' (minI a2 a0.f1)) (V_min rfl rfl) ?_
 refine s' (il' 0) mv' ?_
 refine na' ?_
 obtain⟨t28,H,Bt28⟩:=g_bind H
 refine SA_mid (fun e ds As=>St [(8,pt' b6),(10,pt' b26)] [Buf k55 55 A0_0 c0_0 a0.f2,Blk b6 26 [il' 0,il' 0,.slice none 0 0],Blk b26 26 [il' r22.f0,il' r22.f1,.slice A23 t28.length c24],Buf k55 55 A23 c24 t28] e ds As) ?_ ?_
 ·refine SA_block ?_
  refine SA_loop (fun k_ e ds As=>∃ (x36_28 : Int) (z10_2_28 : (List S55)),F96b0.l0 a0 a2 r22 k_ x36_28 z10_2_28 = some t28∧St [(4,pt' b2),(8,pt' b6),(10,pt' b26),(35,il' (minI a2 a0.f1)),(36,il' x36_28)] [Buf k55 55 A0_0 c0_0 a0.f2,Blk b2 26 [il' a0.f0,il' a0.f1,.slice A0_0 a0.f2.length c0_0],Blk b6 26 [il' 0,il' 0,.slice none 0 0],Blk b26 26 [il' r22.f0,il' r22.f1,.slice A23 z10_2_28.length c24],Buf k55 55 A23 c24 z10_2_28] e ds As) (k:=k) ⟨_,_,H,sq' [1,2,4,5,0]⟩ ?_
  clear H
  rintro k29 e ds As ⟨x36_28,z10_2_28,H,hst30⟩
  obtain _ | k29:=k29
  ·cases H
  rw [F96b0.l0] at H
  obtain⟨hl49,H⟩:=g_pos H
  refine SA.of_St hst30 fun junk=>?_
  refine qr' ?_
  refine s' (.bool (decide (x36_28 < (minI a2 a0.f1)))) (V_lss rfl rfl) ?_
  refine na' (SA_seq ?_)
  by_cases h31 : x36_28 < (minI a2 a0.f1)
  ·replace H:=g_ift h31 H
   refine SA_condT rfl h31 ?_
   refine SA_skip (at_normal (SA_seq (SA_block (qr' ?_))))
   refine s' (il' x36_28) mv' ?_
   refine s' (il' x36_28) as' ?_
   refine na' (SA_seq ?_)
   refine fc' 4 fun hc32=>?_
   refine SA_region ?_
   refine s' (il' x36_28) mv' ?_
   obtain⟨r33,C48,H⟩:=g_bind H
   obtain⟨⟨hl37a,hl37b,hl37c⟩,H⟩:=g_pos H
   refine o' (ca' [3,4] [0,1,2] (xf' [pt' b26,il' x36_28]) (F135b0.ok (b0_:=b26) (p0:=(S26.mk r22.f0 r22.f1 z10_2_28)) (a1:=x36_28) C48) ?_)
   rintro _ _⟨V34,v35,hW36,rfl,rfl⟩
   refine s' (.slice V34 r33.2.toNat v35) as' ?_
   refine nr' ?_
   refine s' (.slice V34 r33.2.toNat v35) mv' ?_
   refine s' (il' x36_28) mv' ?_
   obtain⟨r38,C47,H⟩:=g_bind H
   obtain⟨⟨hl42a,hl42b,hl42c⟩,H⟩:=g_pos H
   refine o' (ca' [3,2] [0,1,4] (xf' [pt' b2,il' x36_28]) (F135b0.ok (b0_:=b2) (p0:=a0) (a1:=x36_28) C47) ?_)
   rintro _ _⟨V39,v40,hW41,rfl,rfl⟩
   obtain⟨n43,hn43,H⟩:=g_lt H
   have hl_n43 : n43.length = z10_2_28.length:=by rw [hn43]; exact over_len (by rw [List.length_take]; omega)
   refine o' (OA_copyV (k:=3) (l:=r33.1) (m:=r33.2) (xs:=z10_2_28) (ys:=sub a0.f2 r38.1 (r38.1 + r38.2)) n43 hn43 hW36 rfl Tryz.underlying116 sz55 rfl rfl rfl (by omega) rfl (Cpy.win (Src.buf (k:=1) rfl) hW41 rfl (by omega)) ?_)
   try unfold c28'
   try rewrite [← hl_n43]
   refine na' (SA_region ?_)
   refine s' (.slice V34 r33.2.toNat v35) mv' ?_
   obtain⟨r44,C46,H⟩:=g_bind H
   obtain⟨hl45,H⟩:=g_pos H
   refine o' (ca' [3] [0,1,2,4] (xf' [.slice V34 r33.2.toNat v35]) (F136w0.ok (l0:=n43) (o0:=r33.1) (n0:=r33.2) (A0:=A23) (c0:=c24) (V0:=V34) (v0:=v35) (hw0:=hW36) C46) ?_)
   rintro _ _⟨rfl,rfl⟩
   try unfold c28'
   try rewrite [← hl45]
   refine RA_nil (inb_normal (at_normal (SA_region ?_)))
   refine s' (il' (IntKind.i64.wrap (x36_28 + 1))) (V_add rfl rfl) ?_
   refine s' (il' (IntKind.i64.wrap (x36_28 + 1))) mv' ?_
   refine RA_nil ?_
   exact at_normal ⟨k29,Nat.lt_succ_self _,_,_,H,sq' [2,1,4,3,0]⟩
  replace H:=g_iff h31 H
  refine SA_condF rfl h31 ?_
  refine SA_exit (thn_exit (thn_exit (inb_hit ?_)))
  have h_:=oi' H;subst h_
  exact sm' [0,2,3,4]
 rintro e ds As hst50
 clear H
 have H:=Bt28
 clear Bt28
 obtain⟨hl51,H⟩:=g_pos H
 refine at_normal ?_
 refine SA.of_St hst50 fun junk=>?_
 refine qr' ?_
 refine l' (lA' b26 0 2 [il' r22.f0,il' r22.f1,.slice A23 t28.length c24]) ?_
 refine o' (su' b6 0 1 [il' r22.f0,il' r22.f1,.slice A23 t28.length c24] ?_)
 refine s' (il' 0) as' ?_
 refine nt' ?_
 have h_:=oi' H;subst h_
 exact b2' [.cell 8 26,.tmp 9] [3,0] ⟨A23,c24,rfl,rfl⟩ ⟨RV.cell (k:=1) rfl rfl Tryz.underlying26 rfl sz26,RV.tmp rfl,trivial⟩

end Go.Proofs.YtckilbegmbaeeaaGreat.Z5

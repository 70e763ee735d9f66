/- What functions compute, and that they do: 116w0, 118Lb_0_, 121Lb_0_, 131i34m0b_0_, 135i34m0b_0_, 138, 139, 151, 97. -/
import Derived.Test.YtckilbegmbaeeaaGreatZ50
import Derived.Test.YtckilbegmbaeeaaGreatZ51
import Derived.Test.YtckilbegmbaeeaaGreatZ52
namespace Go.Proofs.YtckilbegmbaeeaaGreat.Z5
open Go Go.RowKit Go.Proofs.YtckilbegmbaeeaaGreat.SL
set_option linter.unusedVariables false
set_option maxHeartbeats 20000000
set_option maxRecDepth 100000
set_option linter.unusedSimpArgs false
attribute [local irreducible] IntKind.wrap minI maxI shrI shlI andI orI xorI andNotI cplI rd sub bytesOf strOf slA
variable {b0_ c0_0 c0_1 c0_2 c0_3 k : Nat}
variable {A0_0 A0_1 A0_2 A0_3 : Option Addr}
def F138.f (l0 : (List Int)) : Option ((List Int)):=if ([] : (List Int)).length + l0.length ≤ 17592186044416 then lt (([] : (List Int)) ++ l0) fun n9=>(some (n9)) else none
theorem F138.ok {l0 : (List Int)} {A0 : Option Addr} {c0 : Nat} {r : (List Int)} (H : F138.f l0 = some r) : SCA Tryz.prog 138 #[.slice A0 l0.length c0] [rl' A0 c0 l0] (fun v B=>∃ A0_0_ c0_0_,v = .slice A0_0_ r.length c0_0_∧B = [bl' 3 A0_0_ c0_0_ r]):=by
 refine SCA_of_body Tryz.func138 rfl rfl ?_
 unfold F138.f at H
 refine qr' ?_
 refine s' (.slice none 0 0) as' ?_
 refine nq' ?_
 refine s' (.slice A0 l0.length c0) mv' ?_
 refine s' (.bool A0.isNone) (V_eqlNil Tryz.underlying29 rfl rfl) ?_
 refine na' ?_
 by_cases h2 : A0 = none
 ·subst h2
  refine SA_nilRo (k:=0) rfl fun e_=>?_
  subst e_
  replace H:=g_nil (x:=some (([] : (List Int)))) H (by simp [lt])
  refine SA_condTb rfl rfl ?_
  refine qr' ?_
  refine s' (.slice none 0 0) as' ?_
  refine ntt' ?_
  have h_:=oi' H;subst h_
  exact BQ_R1 [bl' 3 none 0 ([] : (List Int))] rfl rfl ((Gh.nilBuf (Kd.int .i64) 3).trans (gs' [1])) ⟨none,0,rfl,rfl⟩
 obtain⟨a_,rfl⟩:=Option.ne_none_iff_exists'.1 h2
 refine SA_condFb rfl (by first | decide | simp) ?_
 refine SA_skip (at_normal (qr' ?_))
 refine o' (OA_bs (kd:=(Kd.int .i64)) (zv:=(il' 0)) (sz:=1) (cells:=[]) (xs:=([] : (List Int))) rfl Tryz.underlying29 zero3 sz3 rfl rfl rfl (by kernel_rfl) rfl rfl (RL_enc (fun x_ : Int=>[Value.int .i64 x_]) (fun _ _=>rfl) (by kernel_rfl)) fun b3=>?_)
 refine s' (.slice (some a_) l0.length c0) mv' ?_
 obtain⟨g6,H⟩:=g_pos H
 obtain⟨n9,hn9,H⟩:=g_lt H
 refine o' (OA_app (k:=1) (A:=some ⟨b3,0,none⟩) (c:=0) (xs:=([] : (List Int))) (ys:=l0) n9 hn9 rfl Tryz.underlying29 inf3 rfl rfl rfl rfl rfl (Yld.slice Tryz.underlying29 (Src.ro (k:=0) rfl)) (by omega) (by omega) fun A7 c8=>?_)
 refine s' (.slice A7 n9.length c8) as' ?_
 refine nt' ?_
 have h_:=oi' H;subst h_
 exact b1' [1] ⟨A7,c8,rfl,rfl⟩


def F139.f (l0 : (List Int)) : Option ((List Int)):=if ([] : (List Int)).length + l0.length ≤ 35184372088832 then lt (([] : (List Int)) ++ l0) fun n9=>(some (n9)) else none
theorem F139.ok {l0 : (List Int)} {A0 : Option Addr} {c0 : Nat} {r : (List Int)} (H : F139.f l0 = some r) : SCA Tryz.prog 139 #[.slice A0 l0.length c0] [rw' A0 c0 l0] (fun v B=>∃ A0_0_ c0_0_,v = .slice A0_0_ r.length c0_0_∧B = [bw' 21 A0_0_ c0_0_ r]):=by
 refine SCA_of_body Tryz.func139 rfl rfl ?_
 unfold F139.f at H
 refine qr' ?_
 refine s' (.slice none 0 0) as' ?_
 refine nq' ?_
 refine s' (.slice A0 l0.length c0) mv' ?_
 refine s' (.bool A0.isNone) (V_eqlNil Tryz.underlying32 rfl rfl) ?_
 refine na' ?_
 by_cases h2 : A0 = none
 ·subst h2
  refine SA_nilRo (k:=0) rfl fun e_=>?_
  subst e_
  replace H:=g_nil (x:=some (([] : (List Int)))) H (by simp [lt])
  refine SA_condTb rfl rfl ?_
  refine qr' ?_
  refine s' (.slice none 0 0) as' ?_
  refine ntt' ?_
  have h_:=oi' H;subst h_
  exact BQ_R1 [bw' 21 none 0 ([] : (List Int))] rfl rfl ((Gh.nilBuf (Kd.int .i32) 21).trans (gs' [1])) ⟨none,0,rfl,rfl⟩
 obtain⟨a_,rfl⟩:=Option.ne_none_iff_exists'.1 h2
 refine SA_condFb rfl (by first | decide | simp) ?_
 refine SA_skip (at_normal (qr' ?_))
 refine o' (OA_bs (kd:=(Kd.int .i32)) (zv:=(iw' 0)) (sz:=1) (cells:=[]) (xs:=([] : (List Int))) rfl Tryz.underlying32 zero21 sz21 rfl rfl rfl (by kernel_rfl) rfl rfl (RL_enc (fun x_ : Int=>[Value.int .i32 x_]) (fun _ _=>rfl) (by kernel_rfl)) fun b3=>?_)
 refine s' (.slice (some a_) l0.length c0) mv' ?_
 obtain⟨g6,H⟩:=g_pos H
 obtain⟨n9,hn9,H⟩:=g_lt H
 refine o' (OA_app (k:=1) (A:=some ⟨b3,0,none⟩) (c:=0) (xs:=([] : (List Int))) (ys:=l0) n9 hn9 rfl Tryz.underlying32 inf21 rfl rfl rfl rfl rfl (Yld.slice Tryz.underlying32 (Src.ro (k:=0) rfl)) (by omega) (by omega) fun A7 c8=>?_)
 refine s' (.slice A7 n9.length c8) as' ?_
 refine nt' ?_
 have h_:=oi' H;subst h_
 exact b1' [1] ⟨A7,c8,rfl,rfl⟩


def F97.f (a0 : S34) : Option (S34):=(F137.f a0.f0).bind (fun r129=>(F137.f a0.f16).bind (fun r309=>(F138.f a0.f7).bind (fun r730=>(F139.f a0.f17).bind (fun r910=>some (({ a0 with f0:=r129,f7:=r730,f16:=r309,f17:=r910 }))))))
theorem F97.ok {a0 : S34} {r : S34} (H : F97.f a0 = some r) : SCA Tryz.prog 97 #[.agg (c34' a0 A0_0 c0_0 A0_1 c0_1 A0_2 c0_2 A0_3 c0_3).toArray] [Ro k55 A0_0 c0_0 a0.f0.f2,rl' A0_1 c0_1 a0.f7,Ro k55 A0_2 c0_2 a0.f16.f2,rw' A0_3 c0_3 a0.f17] (fun v B=>∃ A0_0_ c0_0_ A0_1_ c0_1_ A0_2_ c0_2_ A0_3_ c0_3_,v = .agg (c34' r A0_0_ c0_0_ A0_1_ c0_1_ A0_2_ c0_2_ A0_3_ c0_3_).toArray∧B = [Buf k55 55 A0_0_ c0_0_ r.f0.f2,bl' 3 A0_1_ c0_1_ r.f7,Buf k55 55 A0_2_ c0_2_ r.f16.f2,bw' 21 A0_3_ c0_3_ r.f17]):=by
 refine SCA_of_body Tryz.func97 rfl rfl ?_
 unfold F97.f at H
 refine qr' ?_
 refine o' (bx' fun b5=>?_)
 refine o' (al' fun b7=>?_)
 refine na' (SA_seq ?_)
 refine SA_drawHq [0,1,3,4,6] #[[],[0],[0,1],[],[3],[0,1,3,4],[0,1,3,4],[0,1,3,4,6],[0,1,3,4,6],[0,1,3,4,6]] (rg' 0 5) [0,1,2,3,5] mixed rfl rfl rfl (PanOk.thn PanOk.body) fun I0 hS h0 hh0 w0 sH dd pk=>?_
 refine t' (pt' b5) 0 rfl sH (fa' b5 0 0) ?_
 refine r' 1 rfl sH (lA' b5 0 4 [il' a0.f0.f0,il' a0.f0.f1,.slice A0_0 a0.f0.f2.length c0_0]) ?_
 refine t' (pa' b5 40) 3 rfl sH (fa' b5 0 40) ?_
 refine r' 4 rfl sH (lA' b5 40 4 [il' a0.f16.f0,il' a0.f16.f1,.slice A0_2 a0.f16.f2.length c0_2]) ?_
 obtain⟨r129,C133,H⟩:=g_bind H
 refine DH_one 2 dd (by kernel_rfl) rfl (.no rfl) (ca' [0] [0,1,2,3,4] (xf' [.agg #[il' a0.f0.f0,il' a0.f0.f1,.slice A0_0 a0.f0.f2.length c0_0]]) (F137.ok (a0:=a0.f0) C133) ?_)
 rintro _ _⟨A130,c131,rfl,rfl⟩
 refine t' (pt' b5) 6 rfl sH (fa' b5 0 0) ?_
 obtain⟨r309,C313,H⟩:=g_bind H
 refine DH_one 5 dd (by kernel_rfl) rfl (.no rfl) (ca' [3] [0,1,2,3,4,5] (xf' [.agg #[il' a0.f16.f0,il' a0.f16.f1,.slice A0_2 a0.f16.f2.length c0_2]]) (F137.ok (a0:=a0.f16) C313) ?_)
 rintro _ _⟨A310,c311,rfl,rfl⟩
 refine DH_open dd sH ?_
 refine DN_one 7 (by kernel_rfl) rfl rfl (.no rfl) (st' b5 0 4 [il' r129.f0,il' r129.f1,.slice A130 r129.f2.length c131] (c34' ({ a0 with f0:=r129 }) A130 c131 A0_1 c0_1 A0_2 c0_2 A0_3 c0_3) ?_)
 refine DN_take (v:=pa' b5 40) 8 (by kernel_rfl) rfl rfl (.no rfl) pk rfl (fa' b5 0 40) ?_
 refine DN_one 9 (by kernel_rfl) rfl rfl (.no rfl) (st' b5 40 4 [il' r309.f0,il' r309.f1,.slice A310 r309.f2.length c311] (c34' ({ a0 with f0:=r129,f16:=r309 }) A130 c131 A0_1 c0_1 A310 c311 A0_3 c0_3) ?_)
 refine DN_done (by kernel_rfl) ?_
 refine at_normal (SA_seq ?_)
 refine SA_drawHq [0,1,3,4,6] #[[],[0],[0,1],[],[3],[0,1,3,4],[0,1,3,4],[0,1,3,4,6],[0,1,3,4,6],[0,1,3,4,6]] [0,1,2,3,4,0,1,2,3] [0,1,2,3,5,6,0,1,2,3,11] mixed rfl rfl rfl (PanOk.thn PanOk.body) fun I0 hS h0 hh0 w0 sH dd pk=>?_
 refine t' (pa' b5 18) 0 rfl sH (fa' b5 0 18) ?_
 refine r' 1 rfl sH (ld' b5 18 4) ?_
 refine t' (pa' b5 43) 3 rfl sH (fa' b5 0 43) ?_
 refine r' 4 rfl sH (ld' b5 43 4) ?_
 obtain⟨r730,C734,H⟩:=g_bind H
 refine DH_one 2 dd (by kernel_rfl) rfl (.no rfl) (ca' [1] [0,1,2,3,4,5,6,7,8,9,10] (xf' [.slice A0_1 a0.f7.length c0_1]) (F138.ok (l0:=a0.f7) (A0:=A0_1) (c0:=c0_1) C734) ?_)
 rintro _ _⟨A731,c732,rfl,rfl⟩
 refine t' (pa' b5 18) 6 rfl sH (fa' b5 0 18) ?_
 obtain⟨r910,C914,H⟩:=g_bind H
 refine DH_one 5 dd (by kernel_rfl) rfl (.no rfl) (ca' [4] [0,1,2,3,4,5,6,7,8,9,10,11] (xf' [.slice A0_3 a0.f17.length c0_3]) (F139.ok (l0:=a0.f17) (A0:=A0_3) (c0:=c0_3) C914) ?_)
 rintro _ _⟨A911,c912,rfl,rfl⟩
 refine DH_open dd sH ?_
 refine DN_one 7 (by kernel_rfl) rfl rfl (.no rfl) (st' b5 18 4 [.slice A731 r730.length c732] (c34' ({ a0 with f0:=r129,f7:=r730,f16:=r309 }) A130 c131 A731 c732 A310 c311 A0_3 c0_3) ?_)
 refine DN_take (v:=pa' b5 43) 8 (by kernel_rfl) rfl rfl (.no rfl) pk rfl (fa' b5 0 43) ?_
 refine DN_one 9 (by kernel_rfl) rfl rfl (.no rfl) (st' b5 43 4 [.slice A911 r910.length c912] (c34' ({ a0 with f0:=r129,f7:=r730,f16:=r309,f17:=r910 }) A130 c131 A731 c732 A310 c311 A911 c912) ?_)
 refine DN_done (by kernel_rfl) ?_
 refine at_normal ?_
 refine SA.of_St (l:=[(1,pt' b5),(2,pt' b7)]) (B:=[Blk b5 34 (c34' ({ a0 with f0:=r129,f7:=r730,f16:=r309,f17:=r910 }) A130 c131 A731 c732 A310 c311 A911 c912),Buf k55 55 A130 c131 r129.f2,bl' 3 A731 c732 r730,Buf k55 55 A310 c311 r309.f2,bw' 21 A911 c912 r910,Blk b7 34 (c34' z34' none 0 none 0 none 0 none 0)]) (St.mk1 (aeq rfl (aeq rfl aeq0)) (Gh.sel [4,16,10,15,9,21] (by kernel_rfl) (by kernel_rfl))) fun junk=>?_
 refine qr' ?_
 refine l' (lA' b5 0 0 (c34' ({ a0 with f0:=r129,f7:=r730,f16:=r309,f17:=r910 }) A130 c131 A731 c732 A310 c311 A911 c912)) ?_
 refine o' (su' b7 0 5 (c34' ({ a0 with f0:=r129,f7:=r730,f16:=r309,f17:=r910 }) A130 c131 A731 c732 A310 c311 A911 c912) ?_)
 refine nt' ?_
 have h_:=oi' H;subst h_
 exact BQ_RL (rs:=[.cell 2 34]) (vs:=[.agg (c34' ({ a0 with f0:=r129,f7:=r730,f16:=r309,f17:=r910 }) A130 c131 A731 c732 A310 c311 A911 c912).toArray]) [Buf k55 55 A130 c131 r129.f2,bl' 3 A731 c732 r730,Buf k55 55 A310 c311 r309.f2,bw' 21 A911 c912 r910] rfl ⟨RV.cell (k:=5) rfl rfl Tryz.underlying34 rfl sz34,trivial⟩ rfl (gs' [1,2,3,4]) ⟨A130,c131,A731,c732,A310,c311,A911,c912,rfl,rfl⟩


def F135i34m0b_0_.f (p0 : S34) (a1 : Int) : Option ((Int × Int)):=lt (IntKind.i64.wrap (a1 * p0.f0.f0)) fun n6=>if 0 ≤ n6∧n6 ≤ (IntKind.i64.wrap (n6 + p0.f0.f0))∧(IntKind.i64.wrap (n6 + p0.f0.f0)) ≤ (p0.f0.f2.length : Int)∧(IntKind.i64.wrap (n6 + p0.f0.f0)) ≤ (IntKind.i64.wrap (n6 + p0.f0.f0))∧(IntKind.i64.wrap (n6 + p0.f0.f0)) ≤ (p0.f0.f2.length : Int) then (some (((0 + n6 : Int),((IntKind.i64.wrap (n6 + p0.f0.f0)) - n6 : Int)))) else none
theorem F135i34m0b_0_.ok {p0 : S34} {a1 : Int} {r : (Int × Int)} (H : F135i34m0b_0_.f p0 a1 = some r) : SCA Tryz.prog 135 #[.pointer (some ⟨b0_,0,none⟩),il' a1] [Blk b0_ 34 (c34' p0 A0_0 c0_0 A0_1 c0_1 A0_2 c0_2 A0_3 c0_3),Buf k55 55 A0_0 c0_0 p0.f0.f2,bl' 3 A0_1 c0_1 p0.f7,Buf k55 55 A0_2 c0_2 p0.f16.f2,bw' 21 A0_3 c0_3 p0.f17] (fun v B=>∃ (V0_ : Option Addr) (v0_ : Nat) (_ : Win A0_0 V0_ 15 r.1 r.2 v0_),v = .slice V0_ r.2.toNat v0_∧B = [Blk b0_ 34 (c34' p0 A0_0 c0_0 A0_1 c0_1 A0_2 c0_2 A0_3 c0_3),Buf k55 55 A0_0 c0_0 p0.f0.f2,bl' 3 A0_1 c0_1 p0.f7,Buf k55 55 A0_2 c0_2 p0.f16.f2,bw' 21 A0_3 c0_3 p0.f17]):=by
 refine SCA_of_body Tryz.func135 rfl rfl ?_
 unfold F135i34m0b_0_.f at H
 refine qr' ?_
 refine s' (.slice none 0 0) as' ?_
 refine nr' ?_
 refine s' (il' a1) mv' ?_
 refine s' (pt' b0_) mv' ?_
 refine s' (pt' b0_) nc' ?_
 refine s' (pt' b0_) (fa' b0_ 0 0) ?_
 refine l' (ld' b0_ 0 0) ?_
 refine s' (il' (IntKind.i64.wrap (a1 * p0.f0.f0))) (V_mul rfl rfl) ?_
 obtain⟨n6,hn6,H⟩:=g_lt H
 refine s' (il' n6) (V_assign (v:=il' n6) (congrArg (Value.int .i64) hn6.symm)) ?_
 refine na' (SA_seq ?_)
 refine fc' 1 fun hc7=>?_
 refine fc' 2 fun hc8=>?_
 refine fc' 3 fun hc9=>?_
 refine fc' 4 fun hc10=>?_
 refine SA_drawHq (rg' 0 19) (List.toArray ([]::[0]::[0,1]::[0,1,2]::[]::[]::[]::[6]::[6,7]::[6,7,8]::(rg' 5 5)::[]::[]::[12]::[12,13]::[12,13,14]::(rg' 11 5)::(rg' 0 17)::(rg' 0 18)::[])) [0] (rg' 1 4) mixed rfl rfl rfl (PanOk.thn PanOk.body) fun I0 hS h0 hh0 w0 sH dd pk=>?_
 refine t' (pt' b0_) 0 rfl sH mv' ?_
 refine t' (pt' b0_) 1 rfl sH nc' ?_
 refine t' (pa' b0_ 2) 2 rfl sH (fa' b0_ 0 2) ?_
 refine r' 3 rfl sH (ld' b0_ 2 0) ?_
 refine t' (il' n6) 4 rfl sH mv' ?_
 refine t' (il' n6) 5 rfl sH mv' ?_
 refine t' (pt' b0_) 6 rfl sH mv' ?_
 refine t' (pt' b0_) 7 rfl sH nc' ?_
 refine t' (pt' b0_) 8 rfl sH (fa' b0_ 0 0) ?_
 refine r' 9 rfl sH (ld' b0_ 0 0) ?_
 refine t' (il' (IntKind.i64.wrap (n6 + p0.f0.f0))) 10 rfl sH (V_add rfl rfl) ?_
 refine t' (il' n6) 11 rfl sH mv' ?_
 refine t' (pt' b0_) 12 rfl sH mv' ?_
 refine t' (pt' b0_) 13 rfl sH nc' ?_
 refine t' (pt' b0_) 14 rfl sH (fa' b0_ 0 0) ?_
 refine r' 15 rfl sH (ld' b0_ 0 0) ?_
 refine t' (il' (IntKind.i64.wrap (n6 + p0.f0.f0))) 16 rfl sH (V_add rfl rfl) ?_
 obtain⟨⟨g1031,g1032,g1033,g1034,g1035⟩,H⟩:=g_pos H
 refine t' (.slice (slA A0_0 n6 (IntKind.i64.wrap (n6 + p0.f0.f0)) 15) ((IntKind.i64.wrap (n6 + p0.f0.f0)) - n6).toNat ((IntKind.i64.wrap (n6 + p0.f0.f0)).toNat - n6.toNat)) 17 rfl sH (V_sliceW (l:=0) (m:=(p0.f0.f2.length : Int)) (a:=n6) (b:=IntKind.i64.wrap (n6 + p0.f0.f0)) (q:=IntKind.i64.wrap (n6 + p0.f0.f0)) (Win.whole (A:=A0_0) (sz:=15) (xs:=p0.f0.f2) (c:=c0_0) (by omega)) Tryz.underlying24 sz55 rfl rfl rfl rfl (.inr ⟨_,rfl⟩) (.inr ⟨_,rfl⟩) (.inr ⟨⟨_,rfl⟩,⟨_,rfl⟩,g1034,g1035⟩) g1031 g1032 g1033) ?_
 have hW1036 : Win A0_0 (slA A0_0 n6 (IntKind.i64.wrap (n6 + p0.f0.f0)) 15) 15 (0 + n6) ((IntKind.i64.wrap (n6 + p0.f0.f0)) - n6) ((IntKind.i64.wrap (n6 + p0.f0.f0)).toNat - n6.toNat):=Win.sub (Win.whole (A:=A0_0) (sz:=15) (xs:=p0.f0.f2) (c:=c0_0) (by omega)) g1031 g1032 g1033 (.inr g1034) (Int.le_trans g1035 ((Win.whole (A:=A0_0) (sz:=15) (xs:=p0.f0.f2) (c:=c0_0) (by omega))).cap)
 refine t' (.slice (slA A0_0 n6 (IntKind.i64.wrap (n6 + p0.f0.f0)) 15) ((IntKind.i64.wrap (n6 + p0.f0.f0)) - n6).toNat ((IntKind.i64.wrap (n6 + p0.f0.f0)).toNat - n6.toNat)) 18 rfl sH as' ?_
 refine DH_open dd sH ?_
 refine DN_done (by kernel_rfl) ?_
 refine at_normal (SA_ret ?_)
 have h_:=oi' H;subst h_
 exact b1' [0,1,2,3,4] ⟨slA A0_0 n6 (IntKind.i64.wrap (n6 + p0.f0.f0)) 15,(IntKind.i64.wrap (n6 + p0.f0.f0)).toNat - n6.toNat,hW1036,rfl,rfl⟩


def F121Lb_0_.f (p0 : S34) : Option ((Int × Int)):=(F135i34m0b_0_.f p0 p0.f1).bind (fun r552=>if (0 ≤ r552.1∧0 ≤ r552.2∧r552.1 + r552.2 ≤ (p0.f0.f2.length : Int)) then (some (((r552.1 : Int),(r552.2 : Int)))) else none)
theorem F121Lb_0_.ok {p0 : S34} {r : (Int × Int)} (H : F121Lb_0_.f p0 = some r) : SCA Tryz.prog 121 #[.agg #[.pointer (some ⟨b0_,0,none⟩)]] [Blk b0_ 34 (c34' p0 A0_0 c0_0 A0_1 c0_1 A0_2 c0_2 A0_3 c0_3),Buf k55 55 A0_0 c0_0 p0.f0.f2,bl' 3 A0_1 c0_1 p0.f7,Buf k55 55 A0_2 c0_2 p0.f16.f2,bw' 21 A0_3 c0_3 p0.f17] (fun v B=>∃ (V0_ : Option Addr) (v0_ : Nat) (_ : Win A0_0 V0_ 15 r.1 r.2 v0_),v = .slice V0_ r.2.toNat v0_∧B = [Blk b0_ 34 (c34' p0 A0_0 c0_0 A0_1 c0_1 A0_2 c0_2 A0_3 c0_3),Buf k55 55 A0_0 c0_0 p0.f0.f2,bl' 3 A0_1 c0_1 p0.f7,Buf k55 55 A0_2 c0_2 p0.f16.f2,bw' 21 A0_3 c0_3 p0.f17]):=by
 refine SCA_of_body Tryz.func121 rfl rfl ?_
 unfold F121Lb_0_.f at H
 refine qr' ?_
 refine o' (bx' fun b6=>?_)
 refine s' (.slice none 0 0) as' ?_
 refine na' (SA_seq ?_)
 refine fc' 1 fun hc8=>?_
 refine fc' 2 fun hc9=>?_
 refine fc' 3 fun hc10=>?_
 refine fc' 4 fun hc11=>?_
 refine SA_drawHq (rg' 0 9) #[[],[0],[0,1],[0,1,2],[],[4],[4,5],[4,5,6],(rg' 4 4),(rg' 0 9),(rg' 0 9)] [0,5] (rg' 1 4) mixed rfl rfl rfl (PanOk.thn PanOk.body) fun I0 hS h0 hh0 w0 sH dd pk=>?_
 refine t' (pt' b6) 0 rfl sH (fa' b6 0 0) ?_
 refine r' 1 rfl sH (ld' b6 0 1) ?_
 refine t' (pt' b0_) 2 rfl sH nc' ?_
 refine t' (pt' b0_) 3 rfl sH (fa' b0_ 0 0) ?_
 refine t' (pt' b6) 4 rfl sH (fa' b6 0 0) ?_
 refine r' 5 rfl sH (ld' b6 0 1) ?_
 refine t' (pt' b0_) 6 rfl sH nc' ?_
 refine t' (pa' b0_ 3) 7 rfl sH (fa' b0_ 0 3) ?_
 refine r' 8 rfl sH (ld' b0_ 3 0) ?_
 refine DH_open dd sH ?_
 obtain⟨r552,C557,H⟩:=g_bind H
 obtain⟨⟨hl556a,hl556b,hl556c⟩,H⟩:=g_pos H
 refine DN_one 9 (by kernel_rfl) rfl rfl (.no rfl) (ca' [0,2,3,4,5] [1] (xf' [pt' b0_,il' p0.f1]) (F135i34m0b_0_.ok (b0_:=b0_) (p0:=p0) (a1:=p0.f1) C557) ?_)
 rintro _ _⟨V553,v554,hW555,rfl,rfl⟩
 refine DN_take (v:=.slice V553 r552.2.toNat v554) 10 (by kernel_rfl) rfl rfl (.no rfl) pk rfl as' ?_
 refine DN_done (by kernel_rfl) ?_
 refine at_normal (SA_ret ?_)
 have h_:=oi' H;subst h_
 exact b1' [0,1,2,3,4] ⟨V553,v554,hW555,rfl,rfl⟩


def F151.l0 (a0 : S55) (a1 : Int) : Nat → S55 → Int → Option (S55)
  | 0,_,_=>none
  | k + 1,x2_14,x23_14=>if x23_14 < 3 then (if 0 ≤ x23_14∧x23_14 < (3 : Int) then (lt (rd ([a0.f1.f0,a0.f1.f1,a0.f1.f2] : List Int) x23_14) fun n21=>if n21 = 0 then (if 0 ≤ x23_14∧x23_14 < (3 : Int) then (some (S55.mk x2_14.f0 (S53.mk (if x23_14 = 0 then a1 else x2_14.f1.f0) (if x23_14 = 1 then a1 else x2_14.f1.f1) (if x23_14 = 2 then a1 else x2_14.f1.f2)) x2_14.f2 x2_14.f3)) else none) else (F151.l0 a0 a1 k x2_14 (IntKind.i64.wrap (x23_14 + 1)))) else none) else (some x2_14)
def F151.f (k : Nat) (a0 : S55) (a1 : Int) : Option (S55):=(F117.f k a1).bind (fun r5=>lt ((decide (r5 ≠ 0)) || (decide (a0.f2 = 0))) fun q6=>lt (q6 || (decide (a0.f2 > 2))) fun q9=>if q9 = true then (some (a0)) else ((F151.l0 a0 a1 k a0 0 : Option (S55)).bind (fun t13=>some (t13))))
theorem F151.ok {a0 : S55} {a1 : Int} {r : S55} (H : F151.f k a0 a1 = some r) : SCA Tryz.prog 151 #[.agg (c55' a0).toArray,iw' a1] [] (fun v B=>v = .agg (c55' r).toArray∧B = []):=by
 refine SCA_of_body Tryz.func151 rfl rfl ?_
 unfold F151.f at H
 refine qr' ?_
 refine o' (bx' fun b1=>?_)
 refine o' (al' fun b3=>?_)
 refine nq' ?_
 refine s' (iw' a1) mv' ?_
 obtain⟨r5,C26,H⟩:=g_bind H
 refine o' (ca' [] [0,1] (xf' [iw' a1]) (F117.ok (a0:=a1) C26) ?_)
 rintro _ _⟨rfl,rfl⟩
 refine s' (.bool (decide (r5 ≠ 0))) (V_neq rfl rfl) ?_
 refine s' (.bool (decide (r5 ≠ 0))) mv' ?_
 obtain⟨q6,hq6,H⟩:=g_lt H
 refine cR' 4 [(1,iw' a1),(2,pt' b1),(4,pt' b3),(14,.bool q6)] [Blk b1 55 (c55' a0),Blk b3 55 (c55' z55')] ?_ fun junk=>?_
 ·by_cases h7 : r5 ≠ 0
  ·refine no' 3 (dec_t h7) ?_
   refine pT' (dec_t h7) ?_
   refine RA_nil ?_
   exact at_normal (St.mk1 (aeq rfl (aeq rfl (aeq rfl (aeq (congrArg Value.bool (or_t hq6 (dec_t h7))) aeq0)))) (gs' [0,1]))
  refine y' (dec_f h7) (pa' b1 4) (fa' b1 0 4) ?_
  refine z' (dec_f h7) (ld' b1 4 0) ?_
  refine y' (dec_f h7) (.bool (decide (a0.f2 = 0))) (V_eql rfl rfl) ?_
  refine pF' (dec_f h7) ?_
  refine RA_nil ?_
  exact at_normal (St.mk1 (aeq rfl (aeq rfl (aeq rfl (aeq (congrArg Value.bool (or_f hq6 (dec_f h7))) aeq0)))) (gs' [0,1]))
 refine s' (.bool q6) mv' ?_
 obtain⟨q9,hq9,H⟩:=g_lt H
 refine RA_cut 4 (fun e ds As=>St [(1,iw' a1),(2,pt' b1),(4,pt' b3),(19,.bool q9)] [Blk b1 55 (c55' a0),Blk b3 55 (c55' z55')] e ds As) ?_ ?_
 ·by_cases h10 : q6 = true
  ·refine no' 3 h10 ?_
   refine pT' h10 ?_
   refine RA_nil ?_
   exact at_normal (St.mk1 (aeq rfl (aeq rfl (aeq rfl (aeq (congrArg Value.bool (or_t hq9 (h10))) aeq0)))) (gs' [0,1]))
  refine y' (bno h10) (pa' b1 4) (fa' b1 0 4) ?_
  refine z' (bno h10) (ld' b1 4 0) ?_
  refine y' (bno h10) (.bool (decide (a0.f2 > 2))) (V_gtr rfl rfl) ?_
  refine pF' (bno h10) ?_
  refine RA_nil ?_
  exact at_normal (St.mk1 (aeq rfl (aeq rfl (aeq rfl (aeq (congrArg Value.bool (or_f hq9 (bno h10))) aeq0)))) (gs' [0,1]))
 rintro e ds As hst11
 refine na' ?_
 refine SA.of_St hst11 fun junk=>?_
 by_cases h12 : q9 = true
 ·replace H:=g_ift h12 H
  refine SA_condTb rfl h12 ?_
  refine qr' ?_
  refine l' (lA' b1 0 0 (c55' a0)) ?_
  refine o' (su' b3 0 1 (c55' a0) ?_)
  refine ntt' ?_
  have h_:=oi' H;subst h_
  exact BQ_RL (rs:=[.cell 4 55]) (vs:=[.agg (c55' a0).toArray]) [] rfl ⟨RV.cell (k:=1) rfl rfl Tryz.underlying55 rfl sz55,trivial⟩ rfl (gs' []) ⟨rfl,rfl⟩
 replace H:=g_iff h12 H
 refine SA_condFb rfl h12 ?_
 refine SA_skip (at_normal (SA_seq (qr' ?_)))
 refine s' (pa' b1 1) (fa' b1 0 1) ?_
 refine l' (lA' b1 1 0 [iw' a0.f1.f0,iw' a0.f1.f1,iw' a0.f1.f2]) ?_
 refine s' (il' 0) mv' ?_
 refine na' ?_
 obtain⟨t13,H,Bt13⟩:=g_bind H
 refine SA_mid (fun e ds As=>∃ (b14 : Nat),St [(2,pt' b14),(4,pt' b3)] [Blk b14 55 (c55' t13),Blk b3 55 (c55' z55')] e ds As) ?_ ?_
 ·refine SA_block ?_
  refine SA_loop (fun k_ e ds As=>∃ (x2_14 : S55) (x23_14 : Int),∃ (b15 : Nat),F151.l0 a0 a1 k_ x2_14 x23_14 = some t13∧St [(1,iw' a1),(2,pt' b15),(4,pt' b3),(22,.agg #[iw' a0.f1.f0,iw' a0.f1.f1,iw' a0.f1.f2]),(23,il' x23_14)] [Blk b15 55 (c55' x2_14),Blk b3 55 (c55' z55')] e ds As) (k:=k) ⟨_,_,b1,H,sq' [0,1]⟩ ?_
  clear H
  rintro k16 e ds As ⟨x2_14,x23_14,b15,H,hst17⟩
  obtain _ | k16:=k16
  ·cases H
  rw [F151.l0] at H
  refine SA.of_St hst17 fun junk=>?_
  refine qr' ?_
  refine s' (.bool (decide (x23_14 < 3))) (V_lss rfl rfl) ?_
  refine na' (SA_seq ?_)
  by_cases h18 : x23_14 < 3
  ·replace H:=g_ift h18 H
   refine SA_condT rfl h18 ?_
   refine SA_skip (at_normal (SA_seq (SA_block (qr' ?_))))
   refine s' (il' x23_14) mv' ?_
   obtain⟨⟨g19,g20⟩,H⟩:=g_pos H
   refine s' (iw' (rd ([a0.f1.f0,a0.f1.f1,a0.f1.f2] : List Int) x23_14)) (V_indexV1 (kd:=(Kd.int .i32)) (i:=x23_14) (cs:=[iw' a0.f1.f0,iw' a0.f1.f1,iw' a0.f1.f2]) (xs:=([a0.f1.f0,a0.f1.f1,a0.f1.f2] : List Int)) (v:=iw' (rd ([a0.f1.f0,a0.f1.f1,a0.f1.f2] : List Int) x23_14)) Tryz.underlying53 sz21 Tryz.underlying21 rfl rfl rfl (RL_enc (fun x_ : Int=>[Value.int .i32 x_]) (fun _ _=>rfl) (by kernel_rfl) _) rfl rfl g19 g20 (fun _ h_=>by rw [h_]; rfl)) ?_
   refine s' (il' x23_14) as' ?_
   obtain⟨n21,hn21,H⟩:=g_lt H
   refine s' (iw' n21) (V_assign (v:=iw' n21) (congrArg (Value.int .i32) hn21.symm)) ?_
   refine nr' ?_
   refine s' (iw' n21) mv' ?_
   refine s' (.bool (decide (n21 = 0))) (V_eql rfl rfl) ?_
   refine na' ?_
   by_cases h22 : n21 = 0
   ·replace H:=g_ift h22 H
    refine SA_condT rfl h22 ?_
    refine qr' ?_
    refine s' (il' x23_14) mv' ?_
    refine s' (iw' a1) mv' ?_
    refine s' (pa' b15 1) (fa' b15 0 1) ?_
    obtain⟨⟨g23,g24⟩,H⟩:=g_pos H
    refine s' (.pointer (some ((⟨b15,0,none⟩ : Addr).add (1 + x23_14.toNat * 1 + 0)))) (V_indexArr (B:=⟨b15,0,none⟩) (m:=1) (o:=1 + x23_14.toNat * 1 + 0) Tryz.underlying53 sz21 rfl rfl g23 g24 rfl) ?_
    refine o' (OA_storeI (b:=b15) (m:=1 + x23_14.toNat * 1 + 0) (k:=0) (vs:=[iw' a1]) (cs':=(c55' (S55.mk x2_14.f0 (S53.mk (if x23_14 = 0 then a1 else x2_14.f1.f0) (if x23_14 = 1 then a1 else x2_14.f1.f1) (if x23_14 = 2 then a1 else x2_14.f1.f2)) x2_14.f2 x2_14.f3))) rfl rfl rfl rfl rfl rfl sz21 (by show 1 + x23_14.toNat * 1 + 0 + 1 ≤ 15; omega) (by rcases (show x23_14 = 0 ∨ x23_14 = 1 ∨ x23_14 = 2 by omega) with h_ | h_ | h_ <;> (rewrite [h_]; kernel_rfl)) ?_)
    refine na' (SA_exit ?_)
    refine inb_miss rfl ?_
    refine thn_exit (thn_exit (inb_hit ?_))
    have h_:=oi' H;subst h_
    exact at_normal ⟨b15,sq' [0,1]⟩
   replace H:=g_iff h22 H
   refine SA_condF rfl h22 ?_
   refine SA_skip (inb_normal (at_normal (SA_region ?_)))
   refine s' (il' (IntKind.i64.wrap (x23_14 + 1))) (V_add rfl rfl) ?_
   refine s' (il' (IntKind.i64.wrap (x23_14 + 1))) mv' ?_
   refine RA_nil ?_
   exact at_normal ⟨k16,Nat.lt_succ_self _,_,_,b15,H,sq' [0,1]⟩
  replace H:=g_iff h18 H
  refine SA_condF rfl h18 ?_
  refine SA_exit (thn_exit (thn_exit (inb_hit ?_)))
  have h_:=oi' H;subst h_
  exact at_normal ⟨b15,sq' [0,1]⟩
 rintro e ds As ⟨b14,hst25⟩
 clear H
 have H:=Bt13
 clear Bt13
 refine at_normal ?_
 refine SA.of_St hst25 fun junk=>?_
 refine qr' ?_
 refine l' (lA' b14 0 0 (c55' t13)) ?_
 refine o' (su' b3 0 1 (c55' t13) ?_)
 refine nt' ?_
 have h_:=oi' H;subst h_
 exact BQ_RL (rs:=[.cell 4 55]) (vs:=[.agg (c55' t13).toArray]) [] rfl ⟨RV.cell (k:=1) rfl rfl Tryz.underlying55 rfl sz55,trivial⟩ rfl (gs' []) ⟨rfl,rfl⟩


def F118Lb_0_.f (k : Nat) (p0 : S34) (a1 : Int) : Option (S34):=(if (!p0.f3) = true then (lt (IntKind.i64.wrap (p0.f2 - 1)) fun n10=>some n10) else (some p0.f2) : Option (Int)).bind (fun t8=>if t8 < 0 then (some (p0)) else ((F121Lb_0_.f p0).bind (fun r17=>if (0 ≤ r17.1∧0 ≤ r17.2∧r17.1 + r17.2 ≤ (p0.f0.f2.length : Int)) then (if 0 ≤ t8∧t8 < r17.2 then ((if ((rd p0.f0.f2 (r17.1 + t8)).f2) = 0 then (lt (IntKind.i64.wrap (t8 - 1)) fun n28=>some n28) else (some t8) : Option (Int)).bind (fun t26=>if 0 ≤ t26∧t26 < r17.2 then ((F151.f k (rd p0.f0.f2 (r17.1 + t26)) a1).bind (fun r34=>if 0 ≤ t26∧t26 < r17.2 then (lt (p0.f0.f2.set (r17.1 + t26).toNat r34) fun n39=>(some (({ p0 with f0:=(S26.mk p0.f0.f0 p0.f0.f1 n39) })))) else none)) else none)) else none) else none)))
theorem F118Lb_0_.ok {p0 : S34} {a1 : Int} {r : S34} (H : F118Lb_0_.f k p0 a1 = some r) : SCA Tryz.prog 118 #[.agg #[.pointer (some ⟨b0_,0,none⟩)],iw' a1] [Blk b0_ 34 (c34' p0 A0_0 c0_0 A0_1 c0_1 A0_2 c0_2 A0_3 c0_3),Buf k55 55 A0_0 c0_0 p0.f0.f2,bl' 3 A0_1 c0_1 p0.f7,Buf k55 55 A0_2 c0_2 p0.f16.f2,bw' 21 A0_3 c0_3 p0.f17] (fun v B=>∃ P0_0_ q0_0_ P0_1_ q0_1_ P0_2_ q0_2_ P0_3_ q0_3_,v = .tuple #[]∧B = [Blk b0_ 34 (c34' r P0_0_ q0_0_ P0_1_ q0_1_ P0_2_ q0_2_ P0_3_ q0_3_),Buf k55 55 P0_0_ q0_0_ r.f0.f2,bl' 3 P0_1_ q0_1_ r.f7,Buf k55 55 P0_2_ q0_2_ r.f16.f2,bw' 21 P0_3_ q0_3_ r.f17]):=by
 refine SCA_of_body Tryz.func118 rfl rfl ?_
 unfold F118Lb_0_.f at H
 refine qr' ?_
 refine o' (bx' fun b6=>?_)
 refine nr' ?_
 refine s' (pt' b6) (fa' b6 0 0) ?_
 refine l' (ld' b6 0 5) ?_
 refine s' (pt' b0_) nc' ?_
 refine s' (pa' b0_ 4) (fa' b0_ 0 4) ?_
 refine l' (ld' b0_ 4 0) ?_
 refine s' (il' p0.f2) as' ?_
 refine nq' ?_
 refine s' (pt' b6) (fa' b6 0 0) ?_
 refine l' (ld' b6 0 5) ?_
 refine s' (pt' b0_) nc' ?_
 refine s' (pa' b0_ 5) (fa' b0_ 0 5) ?_
 refine l' (ld' b0_ 5 0) ?_
 refine s' (.bool (!p0.f3)) (V_not rfl) ?_
 refine na' ?_
 obtain⟨t8,H,Bt8⟩:=g_bind H
 refine SA_mid (fun e ds As=>St [(1,iw' a1),(2,pt' b6),(4,il' t8)] [Blk b0_ 34 (c34' p0 A0_0 c0_0 A0_1 c0_1 A0_2 c0_2 A0_3 c0_3),Buf k55 55 A0_0 c0_0 p0.f0.f2,bl' 3 A0_1 c0_1 p0.f7,Buf k55 55 A0_2 c0_2 p0.f16.f2,bw' 21 A0_3 c0_3 p0.f17,Blk b6 84 [pt' b0_]] e ds As) ?_ ?_
 ·by_cases h9 : (!p0.f3) = true
  ·replace H:=g_ift h9 H
   refine SA_condTb rfl h9 ?_
   refine SA_region ?_
   refine s' (il' p0.f2) mv' ?_
   refine s' (il' (IntKind.i64.wrap (p0.f2 - 1))) (V_sub rfl rfl) ?_
   obtain⟨n10,hn10,H⟩:=g_lt H
   refine s' (il' n10) (V_assign (v:=il' n10) (congrArg (Value.int .i64) hn10.symm)) ?_
   refine RA_nil ?_
   have h_:=oi' H;subst h_
   exact sm' [0,1,2,3,4,5]
  replace H:=g_iff h9 H
  refine SA_condFb rfl h9 ?_
  refine SA_skip ?_
  have h_:=oi' H;subst h_
  exact sm' [0,1,2,3,4,5]
 rintro e ds As hst11
 clear H
 have H:=Bt8
 clear Bt8
 refine at_normal ?_
 refine SA.of_St hst11 fun junk=>?_
 refine SA_seq (qr' ?_)
 refine s' (il' t8) mv' ?_
 refine s' (.bool (decide (t8 < 0))) (V_lss rfl rfl) ?_
 refine na' ?_
 by_cases h12 : t8 < 0
 ·replace H:=g_ift h12 H
  refine SA_condT rfl h12 ?_
  refine SA_ret (thn_ret ?_)
  have h_:=oi' H;subst h_
  exact BQ_R0 [Blk b0_ 34 (c34' p0 A0_0 c0_0 A0_1 c0_1 A0_2 c0_2 A0_3 c0_3),Buf k55 55 A0_0 c0_0 p0.f0.f2,bl' 3 A0_1 c0_1 p0.f7,Buf k55 55 A0_2 c0_2 p0.f16.f2,bw' 21 A0_3 c0_3 p0.f17] rfl (gs' [0,1,2,3,4]) ⟨A0_0,c0_0,A0_1,c0_1,A0_2,c0_2,A0_3,c0_3,rfl,rfl⟩
 replace H:=g_iff h12 H
 refine SA_condF rfl h12 ?_
 refine SA_skip (at_normal (SA_seq ?_))
 refine fc' 1 fun hc13=>?_
 refine fc' 2 fun hc14=>?_
 refine fc' 3 fun hc15=>?_
 refine fc' 4 fun hc16=>?_
 refine SA_region ?_
 refine l' (lA' b6 0 5 [pt' b0_]) ?_
 obtain⟨r17,C41,H⟩:=g_bind H
 obtain⟨⟨hl21a,hl21b,hl21c⟩,H⟩:=g_pos H
 refine o' (ca' [0,1,2,3,4] [5] (xf' [.agg #[pt' b0_]]) (F121Lb_0_.ok (b0_:=b0_) (p0:=p0) C41) ?_)
 rintro _ _⟨V18,v19,hW20,rfl,rfl⟩
 refine s' (.slice V18 r17.2.toNat v19) as' ?_
 refine nq' ?_
 refine s' (.slice V18 r17.2.toNat v19) mv' ?_
 refine s' (il' t8) mv' ?_
 obtain⟨⟨g22,g23⟩,H⟩:=g_pos H
 have g24 : 0 ≤ r17.1 + t8:=by omega
 have g25 : r17.1 + t8 < (p0.f0.f2.length : Int):=by omega
 refine l' (VR_indexW (l:=r17.1) (m:=r17.2) (i:=t8) (sz:=15) hW20 Tryz.underlying116 sz55 rfl rfl (Src.buf (k:=1) rfl) g22 g23 (by omega)) ?_
 refine s' (.pointer (some ((el A0_0 ((r17.1 + t8).toNat * 15)).add 4))) (fB' (el A0_0 ((r17.1 + t8).toNat * 15)) 0 4) ?_
 refine l' (VR_load_el (enc:=enc55) (i:=r17.1 + t8) (j:=(r17.1 + t8).toNat * 15) (m:=4) (sz:=15) Tryz.underlying5 rfl rfl rfl rfl (Src.buf (k:=1) rfl) g24 g25 (fun _ _ h=>h) rfl) ?_
 refine s' (.bool (decide (((rd p0.f0.f2 (r17.1 + t8)).f2) = 0))) (V_eql rfl rfl) ?_
 refine na' ?_
 obtain⟨t26,H,Bt26⟩:=g_bind H
 refine SA_mid (fun e ds As=>St [(1,iw' a1),(4,il' t26),(5,.slice V18 r17.2.toNat v19)] [Blk b0_ 34 (c34' p0 A0_0 c0_0 A0_1 c0_1 A0_2 c0_2 A0_3 c0_3),Buf k55 55 A0_0 c0_0 p0.f0.f2,bl' 3 A0_1 c0_1 p0.f7,Buf k55 55 A0_2 c0_2 p0.f16.f2,bw' 21 A0_3 c0_3 p0.f17] e ds As) ?_ ?_
 ·by_cases h27 : ((rd p0.f0.f2 (r17.1 + t8)).f2) = 0
  ·replace H:=g_ift h27 H
   refine SA_condT rfl h27 ?_
   refine SA_region ?_
   refine s' (il' t8) mv' ?_
   refine s' (il' (IntKind.i64.wrap (t8 - 1))) (V_sub rfl rfl) ?_
   obtain⟨n28,hn28,H⟩:=g_lt H
   refine s' (il' n28) (V_assign (v:=il' n28) (congrArg (Value.int .i64) hn28.symm)) ?_
   refine RA_nil ?_
   have h_:=oi' H;subst h_
   exact sm' [0,1,2,3,4]
  replace H:=g_iff h27 H
  refine SA_condF rfl h27 ?_
  refine SA_skip ?_
  have h_:=oi' H;subst h_
  exact sm' [0,1,2,3,4]
 rintro e ds As hst29
 clear H
 have H:=Bt26
 clear Bt26
 refine at_normal ?_
 refine SA.of_St hst29 fun junk=>?_
 refine SA_region ?_
 refine s' (.slice V18 r17.2.toNat v19) mv' ?_
 refine s' (il' t26) mv' ?_
 refine s' (.slice V18 r17.2.toNat v19) mv' ?_
 refine s' (il' t26) mv' ?_
 obtain⟨⟨g30,g31⟩,H⟩:=g_pos H
 have g32 : 0 ≤ r17.1 + t26:=by omega
 have g33 : r17.1 + t26 < (p0.f0.f2.length : Int):=by omega
 refine l' (VR_indexW (l:=r17.1) (m:=r17.2) (i:=t26) (sz:=15) hW20 Tryz.underlying116 sz55 rfl rfl (Src.buf (k:=1) rfl) g30 g31 (by omega)) ?_
 refine l' (VR_loadA_el (enc:=enc55) (i:=r17.1 + t26) (j:=(r17.1 + t26).toNat * 15) (m:=0) (sz:=15) (vs:=(c55' (S55.mk ((rd p0.f0.f2 (r17.1 + t26)).f0) ((rd p0.f0.f2 (r17.1 + t26)).f1) ((rd p0.f0.f2 (r17.1 + t26)).f2) ((rd p0.f0.f2 (r17.1 + t26)).f3)))) Tryz.underlying55 rfl sz55 rfl rfl rfl (Src.buf (k:=1) rfl) g32 g33 (fun _ _ h=>h) rfl) ?_
 refine s' (iw' a1) mv' ?_
 obtain⟨r34,C40,H⟩:=g_bind H
 refine o' (ca' [] [0,1,2,3,4] (xf' [.agg (c55' (S55.mk ((rd p0.f0.f2 (r17.1 + t26)).f0) ((rd p0.f0.f2 (r17.1 + t26)).f1) ((rd p0.f0.f2 (r17.1 + t26)).f2) ((rd p0.f0.f2 (r17.1 + t26)).f3))).toArray,iw' a1]) (F151.ok (a0:=rd p0.f0.f2 (r17.1 + t26)) (a1:=a1) C40) ?_)
 rintro _ _⟨rfl,rfl⟩
 obtain⟨⟨g35,g36⟩,H⟩:=g_pos H
 have g37 : 0 ≤ r17.1 + t26:=by omega
 have g38 : r17.1 + t26 < (p0.f0.f2.length : Int):=by omega
 refine l' (VR_indexW (l:=r17.1) (m:=r17.2) (i:=t26) (sz:=15) hW20 Tryz.underlying116 sz55 rfl rfl (Src.buf (k:=1) rfl) g35 g36 (by omega)) ?_
 obtain⟨n39,hn39,H⟩:=g_lt H
 have hl_n39 : n39.length = p0.f0.f2.length:=by rw [hn39]; exact List.length_set
 refine o' (OA_stEl (k:=1) (i:=r17.1 + t26) (j:=(r17.1 + t26).toNat * 15) (m:=0) (sz:=15) (xs:=p0.f0.f2) (vs:=(c55' r34)) r34 rfl rfl rfl rfl rfl rfl rfl rfl sz55 g37 g38 rfl (fun _ _ h_=>by subst h_; rfl) ?_)
 rewrite [← hn39]
 try unfold c34'
 try rewrite [← hl_n39]
 refine RA_nil ?_
 have h_:=oi' H;subst h_
 exact bn' [0,1,2,3,4] ⟨A0_0,c0_0,A0_1,c0_1,A0_2,c0_2,A0_3,c0_3,rfl,rfl⟩


def F116w0.l0 (l0 : (List S55)) (o0 : Int) (n0 : Int) (r4 : S55) : Nat → Int → (List S55) → Option ((List S55))
  | 0,_,_=>none
  | k + 1,x10_7,zm1_0_7=>if zm1_0_7.length = l0.length then (if x10_7 < n0 then (if 0 ≤ x10_7∧x10_7 < n0 then (lt (zm1_0_7.set (o0 + x10_7).toNat r4) fun n15=>(F116w0.l0 l0 o0 n0 r4 k (IntKind.i64.wrap (x10_7 + 1)) n15)) else none) else (some zm1_0_7)) else none
def F116w0.f (k : Nat) (l0 : (List S55)) (o0 : Int) (n0 : Int) (a1 : S28) : Option ((List S55)):=if 0 ≤ o0∧0 ≤ n0∧o0 + n0 ≤ (l0.length : Int) then ((F147.f a1).bind (fun r4=>(F116w0.l0 l0 o0 n0 r4 k 0 l0 : Option ((List S55))).bind (fun t7=>if t7.length = l0.length then (some (t7)) else none))) else none
theorem F116w0.ok {l0 : (List S55)} {o0 : Int} {n0 : Int} {a1 : S28} {A0 V0 : Option Addr} {c0 v0 : Nat} (hw0 : Win A0 V0 15 o0 n0 v0) {r : (List S55)} (H : F116w0.f k l0 o0 n0 a1 = some r) : SCA Tryz.prog 116 #[.slice V0 n0.toNat v0,.agg (c28' a1).toArray] [Buf k55 55 A0 c0 l0] (fun v B=>v = .tuple #[]∧B = [Buf k55 55 A0 c0 r]):=by
 refine SCA_of_body Tryz.func116 rfl rfl ?_
 unfold F116w0.f at H
 obtain⟨⟨g20,g21,g22⟩,H⟩:=g_pos H
 have hcv_hw0:=hw0.cap
 refine qr' ?_
 refine o' (bx' fun b2=>?_)
 refine nr' ?_
 refine l' (lA' b2 0 1 (c28' a1)) ?_
 obtain⟨r4,C19,H⟩:=g_bind H
 refine o' (ca' [] [0,1] (xf' [.agg (c28' a1).toArray]) (F147.ok (a0:=a1) C19) ?_)
 rintro _ _⟨rfl,rfl⟩
 refine o' (al' fun b5=>?_)
 refine o' (su' b5 0 2 (c55' r4) ?_)
 refine nr' ?_
 refine s' (.slice V0 n0.toNat v0) mv' ?_
 refine s' (il' n0) (V_lenW hw0 Tryz.underlying24 rfl) ?_
 refine s' (il' 0) mv' ?_
 refine na' ?_
 obtain⟨t7,H,Bt7⟩:=g_bind H
 refine SA_mid (fun e ds As=>St [] [Buf k55 55 A0 c0 t7] e ds As) ?_ ?_
 ·refine SA_block ?_
  refine SA_loop (fun k_ e ds As=>∃ (x10_7 : Int) (zm1_0_7 : (List S55)),F116w0.l0 l0 o0 n0 r4 k_ x10_7 zm1_0_7 = some t7∧St [(0,.slice V0 n0.toNat v0),(4,pt' b5),(9,il' n0),(10,il' x10_7)] [Buf k55 55 A0 c0 zm1_0_7,Blk b5 55 (c55' r4)] e ds As) (k:=k) ⟨_,_,H,sq' [0,2]⟩ ?_
  clear H
  rintro k8 e ds As ⟨x10_7,zm1_0_7,H,hst9⟩
  obtain _ | k8:=k8
  ·cases H
  rw [F116w0.l0] at H
  obtain⟨hl16,H⟩:=g_pos H
  refine SA.of_St hst9 fun junk=>?_
  refine qr' ?_
  refine s' (.bool (decide (x10_7 < n0))) (V_lss rfl rfl) ?_
  refine na' (SA_seq ?_)
  by_cases h10 : x10_7 < n0
  ·replace H:=g_ift h10 H
   refine SA_condT rfl h10 ?_
   refine SA_skip (at_normal (SA_seq (SA_block (qr' ?_))))
   refine s' (il' x10_7) mv' ?_
   refine s' (il' x10_7) as' ?_
   refine na' (SA_region ?_)
   refine s' (.slice V0 n0.toNat v0) mv' ?_
   refine s' (il' x10_7) mv' ?_
   refine l' (lA' b5 0 1 (c55' r4)) ?_
   obtain⟨⟨g11,g12⟩,H⟩:=g_pos H
   have g13 : 0 ≤ o0 + x10_7:=by omega
   have g14 : o0 + x10_7 < (zm1_0_7.length : Int):=by omega
   refine l' (VR_indexW (l:=o0) (m:=n0) (i:=x10_7) (sz:=15) hw0 Tryz.underlying24 sz55 rfl rfl (Src.buf (k:=0) rfl) g11 g12 (by omega)) ?_
   obtain⟨n15,hn15,H⟩:=g_lt H
   have hl_n15 : n15.length = zm1_0_7.length:=by rw [hn15]; exact List.length_set
   refine o' (OA_stEl (k:=0) (i:=o0 + x10_7) (j:=(o0 + x10_7).toNat * 15) (m:=0) (sz:=15) (xs:=zm1_0_7) (vs:=(c55' r4)) r4 rfl rfl rfl rfl rfl rfl rfl rfl sz55 g13 g14 rfl (fun _ _ h_=>by subst h_; rfl) ?_)
   rewrite [← hn15]
   try unfold c28'
   try rewrite [← hl_n15]
   refine RA_nil (inb_normal (at_normal (SA_region ?_)))
   refine s' (il' (IntKind.i64.wrap (x10_7 + 1))) (V_add rfl rfl) ?_
   refine s' (il' (IntKind.i64.wrap (x10_7 + 1))) mv' ?_
   refine RA_nil ?_
   exact at_normal ⟨k8,Nat.lt_succ_self _,_,_,H,sq' [0,1]⟩
  replace H:=g_iff h10 H
  refine SA_condF rfl h10 ?_
  refine SA_exit (thn_exit (thn_exit (inb_hit ?_)))
  have h_:=oi' H;subst h_
  exact sm' [0]
 rintro e ds As hst17
 clear H
 have H:=Bt7
 clear Bt7
 obtain⟨hl18,H⟩:=g_pos H
 have h_:=oi' H;subst h_
 exact BQ_n0s hst17 [Buf k55 55 A0 c0 t7] rfl (gs' [0]) ⟨rfl,rfl⟩


def F131i34m0b_0_.f (k : Nat) (p0 : S34) (a1 : Int) (a2 : Int) (a3 : Int) (a4 : S28) : Option (S34):=lt (IntKind.i64.wrap ((IntKind.i64.wrap (a2 - a1)) + 1)) fun n8=>lt (IntKind.i64.wrap ((maxI (IntKind.i64.wrap (0 - n8)) (minI a3 n8)) * p0.f0.f0)) fun n9=>if 0 ≤ (IntKind.i64.wrap (a1 * p0.f0.f0))∧(IntKind.i64.wrap (a1 * p0.f0.f0)) ≤ (IntKind.i64.wrap ((IntKind.i64.wrap (a2 + 1)) * p0.f0.f0))∧(IntKind.i64.wrap ((IntKind.i64.wrap (a2 + 1)) * p0.f0.f0)) ≤ (p0.f0.f2.length : Int) then (if n9 ≥ 0 then (if 0 ≤ n9∧n9 ≤ ((IntKind.i64.wrap ((IntKind.i64.wrap (a2 + 1)) * p0.f0.f0)) - (IntKind.i64.wrap (a1 * p0.f0.f0)))∧((IntKind.i64.wrap ((IntKind.i64.wrap (a2 + 1)) * p0.f0.f0)) - (IntKind.i64.wrap (a1 * p0.f0.f0))) ≤ ((IntKind.i64.wrap ((IntKind.i64.wrap (a2 + 1)) * p0.f0.f0)) - (IntKind.i64.wrap (a1 * p0.f0.f0))) then (lt (over p0.f0.f2 (0 + (IntKind.i64.wrap (a1 * p0.f0.f0))).toNat ((sub p0.f0.f2 ((0 + (IntKind.i64.wrap (a1 * p0.f0.f0))) + n9) (((0 + (IntKind.i64.wrap (a1 * p0.f0.f0))) + n9) + (((IntKind.i64.wrap ((IntKind.i64.wrap (a2 + 1)) * p0.f0.f0)) - (IntKind.i64.wrap (a1 * p0.f0.f0))) - n9))).take ((IntKind.i64.wrap ((IntKind.i64.wrap (a2 + 1)) * p0.f0.f0)) - (IntKind.i64.wrap (a1 * p0.f0.f0))).toNat)) fun n1162=>(if 0 ≤ (IntKind.i64.wrap (((IntKind.i64.wrap ((IntKind.i64.wrap (a2 + 1)) * p0.f0.f0)) - (IntKind.i64.wrap (a1 * p0.f0.f0))) - n9))∧(IntKind.i64.wrap (((IntKind.i64.wrap ((IntKind.i64.wrap (a2 + 1)) * p0.f0.f0)) - (IntKind.i64.wrap (a1 * p0.f0.f0))) - n9)) ≤ ((IntKind.i64.wrap ((IntKind.i64.wrap (a2 + 1)) * p0.f0.f0)) - (IntKind.i64.wrap (a1 * p0.f0.f0)))∧((IntKind.i64.wrap ((IntKind.i64.wrap (a2 + 1)) * p0.f0.f0)) - (IntKind.i64.wrap (a1 * p0.f0.f0))) ≤ ((IntKind.i64.wrap ((IntKind.i64.wrap (a2 + 1)) * p0.f0.f0)) - (IntKind.i64.wrap (a1 * p0.f0.f0))) then ((F116w0.f k n1162 ((0 + (IntKind.i64.wrap (a1 * p0.f0.f0))) + (IntKind.i64.wrap (((IntKind.i64.wrap ((IntKind.i64.wrap (a2 + 1)) * p0.f0.f0)) - (IntKind.i64.wrap (a1 * p0.f0.f0))) - n9))) (((IntKind.i64.wrap ((IntKind.i64.wrap (a2 + 1)) * p0.f0.f0)) - (IntKind.i64.wrap (a1 * p0.f0.f0))) - (IntKind.i64.wrap (((IntKind.i64.wrap ((IntKind.i64.wrap (a2 + 1)) * p0.f0.f0)) - (IntKind.i64.wrap (a1 * p0.f0.f0))) - n9))) a4).bind (fun r1583=>if r1583.length = n1162.length then (some (({ p0 with f0:=(S26.mk p0.f0.f0 p0.f0.f1 r1583) }))) else none)) else none)) else none) else (if 0 ≤ (IntKind.i64.wrap (0 - n9))∧(IntKind.i64.wrap (0 - n9)) ≤ ((IntKind.i64.wrap ((IntKind.i64.wrap (a2 + 1)) * p0.f0.f0)) - (IntKind.i64.wrap (a1 * p0.f0.f0)))∧((IntKind.i64.wrap ((IntKind.i64.wrap (a2 + 1)) * p0.f0.f0)) - (IntKind.i64.wrap (a1 * p0.f0.f0))) ≤ ((IntKind.i64.wrap ((IntKind.i64.wrap (a2 + 1)) * p0.f0.f0)) - (IntKind.i64.wrap (a1 * p0.f0.f0))) then (lt (over p0.f0.f2 ((0 + (IntKind.i64.wrap (a1 * p0.f0.f0))) + (IntKind.i64.wrap (0 - n9))).toNat ((sub p0.f0.f2 (0 + (IntKind.i64.wrap (a1 * p0.f0.f0))) ((0 + (IntKind.i64.wrap (a1 * p0.f0.f0))) + ((IntKind.i64.wrap ((IntKind.i64.wrap (a2 + 1)) * p0.f0.f0)) - (IntKind.i64.wrap (a1 * p0.f0.f0))))).take (((IntKind.i64.wrap ((IntKind.i64.wrap (a2 + 1)) * p0.f0.f0)) - (IntKind.i64.wrap (a1 * p0.f0.f0))) - (IntKind.i64.wrap (0 - n9))).toNat)) fun n1650=>(if 0 ≤ (0 : Int)∧(0 : Int) ≤ (IntKind.i64.wrap (0 - n9))∧(IntKind.i64.wrap (0 - n9)) ≤ ((IntKind.i64.wrap ((IntKind.i64.wrap (a2 + 1)) * p0.f0.f0)) - (IntKind.i64.wrap (a1 * p0.f0.f0))) then ((F116w0.f k n1650 ((0 + (IntKind.i64.wrap (a1 * p0.f0.f0))) + (0 : Int)) ((IntKind.i64.wrap (0 - n9)) - (0 : Int)) a4).bind (fun r1951=>if r1951.length = n1650.length then (some (({ p0 with f0:=(S26.mk p0.f0.f0 p0.f0.f1 r1951) }))) else none)) else none)) else none)) else none
theorem F131i34m0b_0_.ok {p0 : S34} {a1 : Int} {a2 : Int} {a3 : Int} {a4 : S28} {r : S34} (H : F131i34m0b_0_.f k p0 a1 a2 a3 a4 = some r) : SCA Tryz.prog 131 #[.pointer (some ⟨b0_,0,none⟩),il' a1,il' a2,il' a3,.agg (c28' a4).toArray] [Blk b0_ 34 (c34' p0 A0_0 c0_0 A0_1 c0_1 A0_2 c0_2 A0_3 c0_3),Buf k55 55 A0_0 c0_0 p0.f0.f2,bl' 3 A0_1 c0_1 p0.f7,Buf k55 55 A0_2 c0_2 p0.f16.f2,bw' 21 A0_3 c0_3 p0.f17] (fun v B=>∃ P0_0_ q0_0_ P0_1_ q0_1_ P0_2_ q0_2_ P0_3_ q0_3_,v = .tuple #[]∧B = [Blk b0_ 34 (c34' r P0_0_ q0_0_ P0_1_ q0_1_ P0_2_ q0_2_ P0_3_ q0_3_),Buf k55 55 P0_0_ q0_0_ r.f0.f2,bl' 3 P0_1_ q0_1_ r.f7,Buf k55 55 P0_2_ q0_2_ r.f16.f2,bw' 21 P0_3_ q0_3_ r.f17]):=by
 refine SCA_of_body Tryz.func131 rfl rfl ?_
 unfold F131i34m0b_0_.f at H
 refine qr' ?_
 refine o' (bx' fun b6=>?_)
 refine nr' ?_
 refine s' (il' a2) mv' ?_
 refine s' (il' a1) mv' ?_
 refine s' (il' (IntKind.i64.wrap (a2 - a1))) (V_sub rfl rfl) ?_
 refine s' (il' (IntKind.i64.wrap ((IntKind.i64.wrap (a2 - a1)) + 1))) (V_add rfl rfl) ?_
 obtain⟨n8,hn8,H⟩:=g_lt H
 refine s' (il' n8) (V_assign (v:=il' n8) (congrArg (Value.int .i64) hn8.symm)) ?_
 refine nr' ?_
 refine s' (il' n8) mv' ?_
 refine s' (il' (IntKind.i64.wrap (0 - n8))) (V_neg rfl) ?_
 refine s' (il' a3) mv' ?_
 refine s' (il' n8) mv' ?_
 refine s' (il' (minI a3 n8)) (V_min rfl rfl) ?_
 refine s' (il' (maxI (IntKind.i64.wrap (0 - n8)) (minI a3 n8))) (V_max rfl rfl) ?_
 refine s' (pt' b0_) mv' ?_
 refine s' (pt' b0_) nc' ?_
 refine s' (pt' b0_) (fa' b0_ 0 0) ?_
 refine l' (ld' b0_ 0 0) ?_
 refine s' (il' (IntKind.i64.wrap ((maxI (IntKind.i64.wrap (0 - n8)) (minI a3 n8)) * p0.f0.f0))) (V_mul rfl rfl) ?_
 obtain⟨n9,hn9,H⟩:=g_lt H
 refine s' (il' n9) (V_assign (v:=il' n9) (congrArg (Value.int .i64) hn9.symm)) ?_
 refine na' (SA_seq ?_)
 refine fc' 1 fun hc10=>?_
 refine fc' 2 fun hc11=>?_
 refine fc' 3 fun hc12=>?_
 refine fc' 4 fun hc13=>?_
 refine SA_drawHq (rg' 0 19) (List.toArray ([]::[0]::[0,1]::[0,1,2]::[]::[]::[5]::[5,6]::[5,6,7]::(rg' 4 5)::[]::[10]::[]::[12]::[12,13]::[12,13,14]::(rg' 10 6)::(rg' 0 17)::(rg' 0 18)::[])) [0] (rg' 1 5) mixed rfl rfl rfl (PanOk.thn PanOk.body) fun I0 hS h0 hh0 w0 sH dd pk=>?_
 refine t' (pt' b0_) 0 rfl sH mv' ?_
 refine t' (pt' b0_) 1 rfl sH nc' ?_
 refine t' (pa' b0_ 2) 2 rfl sH (fa' b0_ 0 2) ?_
 refine r' 3 rfl sH (ld' b0_ 2 0) ?_
 refine t' (il' a1) 4 rfl sH mv' ?_
 refine t' (pt' b0_) 5 rfl sH mv' ?_
 refine t' (pt' b0_) 6 rfl sH nc' ?_
 refine t' (pt' b0_) 7 rfl sH (fa' b0_ 0 0) ?_
 refine r' 8 rfl sH (ld' b0_ 0 0) ?_
 refine t' (il' (IntKind.i64.wrap (a1 * p0.f0.f0))) 9 rfl sH (V_mul rfl rfl) ?_
 refine t' (il' a2) 10 rfl sH mv' ?_
 refine t' (il' (IntKind.i64.wrap (a2 + 1))) 11 rfl sH (V_add rfl rfl) ?_
 refine t' (pt' b0_) 12 rfl sH mv' ?_
 refine t' (pt' b0_) 13 rfl sH nc' ?_
 refine t' (pt' b0_) 14 rfl sH (fa' b0_ 0 0) ?_
 refine r' 15 rfl sH (ld' b0_ 0 0) ?_
 refine t' (il' (IntKind.i64.wrap ((IntKind.i64.wrap (a2 + 1)) * p0.f0.f0))) 16 rfl sH (V_mul rfl rfl) ?_
 obtain⟨⟨g1034,g1035,g1036⟩,H⟩:=g_pos H
 refine t' (.slice (slA A0_0 (IntKind.i64.wrap (a1 * p0.f0.f0)) ((c0_0 : Nat) : Int) 15) ((IntKind.i64.wrap ((IntKind.i64.wrap (a2 + 1)) * p0.f0.f0)) - (IntKind.i64.wrap (a1 * p0.f0.f0))).toNat (((c0_0 : Nat) : Int).toNat - (IntKind.i64.wrap (a1 * p0.f0.f0)).toNat)) 17 rfl sH (V_sliceW (l:=0) (m:=(p0.f0.f2.length : Int)) (a:=IntKind.i64.wrap (a1 * p0.f0.f0)) (b:=IntKind.i64.wrap ((IntKind.i64.wrap (a2 + 1)) * p0.f0.f0)) (q:=((c0_0 : Nat) : Int)) (Win.whole (A:=A0_0) (sz:=15) (xs:=p0.f0.f2) (c:=c0_0) (by omega)) Tryz.underlying24 sz55 rfl rfl rfl rfl (.inr ⟨_,rfl⟩) (.inr ⟨_,rfl⟩) (.inl ⟨rfl,rfl⟩) g1034 g1035 g1036) ?_
 have hW1039 : Win A0_0 (slA A0_0 (IntKind.i64.wrap (a1 * p0.f0.f0)) ((c0_0 : Nat) : Int) 15) 15 (0 + (IntKind.i64.wrap (a1 * p0.f0.f0))) ((IntKind.i64.wrap ((IntKind.i64.wrap (a2 + 1)) * p0.f0.f0)) - (IntKind.i64.wrap (a1 * p0.f0.f0))) (((c0_0 : Nat) : Int).toNat - (IntKind.i64.wrap (a1 * p0.f0.f0)).toNat):=Win.sub (Win.whole (A:=A0_0) (sz:=15) (xs:=p0.f0.f2) (c:=c0_0) (by omega)) g1034 g1035 g1036 (.inl rfl) (Int.le_refl _)
 refine t' (.slice (slA A0_0 (IntKind.i64.wrap (a1 * p0.f0.f0)) ((c0_0 : Nat) : Int) 15) ((IntKind.i64.wrap ((IntKind.i64.wrap (a2 + 1)) * p0.f0.f0)) - (IntKind.i64.wrap (a1 * p0.f0.f0))).toNat (((c0_0 : Nat) : Int).toNat - (IntKind.i64.wrap (a1 * p0.f0.f0)).toNat)) 18 rfl sH as' ?_
 refine DH_open dd sH ?_
 refine DN_done (by kernel_rfl) ?_
 refine at_normal ?_
 refine SA.of_St (l:=[(3,il' n9),(9,pt' b6),(11,.slice (slA A0_0 (IntKind.i64.wrap (a1 * p0.f0.f0)) ((c0_0 : Nat) : Int) 15) ((IntKind.i64.wrap ((IntKind.i64.wrap (a2 + 1)) * p0.f0.f0)) - (IntKind.i64.wrap (a1 * p0.f0.f0))).toNat (((c0_0 : Nat) : Int).toNat - (IntKind.i64.wrap (a1 * p0.f0.f0)).toNat))]) (B:=[Blk b0_ 34 (c34' p0 A0_0 c0_0 A0_1 c0_1 A0_2 c0_2 A0_3 c0_3),Buf k55 55 A0_0 c0_0 p0.f0.f2,bl' 3 A0_1 c0_1 p0.f7,Buf k55 55 A0_2 c0_2 p0.f16.f2,bw' 21 A0_3 c0_3 p0.f17,Blk b6 28 (c28' a4)]) (St.mk1 (aeq rfl (aeq rfl (aeq rfl aeq0))) (Gh.sel [0,1,2,3,4,5] (by kernel_rfl) (by kernel_rfl))) fun junk=>?_
 refine qr' ?_
 refine s' (il' n9) mv' ?_
 refine s' (.bool (decide (n9 ≥ 0))) (V_geq rfl rfl) ?_
 refine na' ?_
 by_cases h1155 : n9 ≥ 0
 ·replace H:=g_ift h1155 H
  refine SA_condT rfl h1155 ?_
  refine qr' ?_
  refine s' (.slice (slA A0_0 (IntKind.i64.wrap (a1 * p0.f0.f0)) ((c0_0 : Nat) : Int) 15) ((IntKind.i64.wrap ((IntKind.i64.wrap (a2 + 1)) * p0.f0.f0)) - (IntKind.i64.wrap (a1 * p0.f0.f0))).toNat (((c0_0 : Nat) : Int).toNat - (IntKind.i64.wrap (a1 * p0.f0.f0)).toNat)) mv' ?_
  refine s' (.slice (slA A0_0 (IntKind.i64.wrap (a1 * p0.f0.f0)) ((c0_0 : Nat) : Int) 15) ((IntKind.i64.wrap ((IntKind.i64.wrap (a2 + 1)) * p0.f0.f0)) - (IntKind.i64.wrap (a1 * p0.f0.f0))).toNat (((c0_0 : Nat) : Int).toNat - (IntKind.i64.wrap (a1 * p0.f0.f0)).toNat)) mv' ?_
  refine s' (il' n9) mv' ?_
  obtain⟨⟨g1156,g1157,g1158⟩,H⟩:=g_pos H
  refine s' (.slice (slA (slA A0_0 (IntKind.i64.wrap (a1 * p0.f0.f0)) ((c0_0 : Nat) : Int) 15) n9 ((((c0_0 : Nat) : Int).toNat - (IntKind.i64.wrap (a1 * p0.f0.f0)).toNat : Nat) : Int) 15) (((IntKind.i64.wrap ((IntKind.i64.wrap (a2 + 1)) * p0.f0.f0)) - (IntKind.i64.wrap (a1 * p0.f0.f0))) - n9).toNat (((((c0_0 : Nat) : Int).toNat - (IntKind.i64.wrap (a1 * p0.f0.f0)).toNat : Nat) : Int).toNat - n9.toNat)) (V_sliceW (l:=0 + (IntKind.i64.wrap (a1 * p0.f0.f0))) (m:=(IntKind.i64.wrap ((IntKind.i64.wrap (a2 + 1)) * p0.f0.f0)) - (IntKind.i64.wrap (a1 * p0.f0.f0))) (a:=n9) (b:=(IntKind.i64.wrap ((IntKind.i64.wrap (a2 + 1)) * p0.f0.f0)) - (IntKind.i64.wrap (a1 * p0.f0.f0))) (q:=((((c0_0 : Nat) : Int).toNat - (IntKind.i64.wrap (a1 * p0.f0.f0)).toNat : Nat) : Int)) hW1039 Tryz.underlying24 sz55 rfl rfl rfl rfl (.inr ⟨_,rfl⟩) (.inl ⟨rfl,rfl,rfl⟩) (.inl ⟨rfl,rfl⟩) g1156 g1157 g1158) ?_
  have hW1161 : Win A0_0 (slA (slA A0_0 (IntKind.i64.wrap (a1 * p0.f0.f0)) ((c0_0 : Nat) : Int) 15) n9 ((((c0_0 : Nat) : Int).toNat - (IntKind.i64.wrap (a1 * p0.f0.f0)).toNat : Nat) : Int) 15) 15 ((0 + (IntKind.i64.wrap (a1 * p0.f0.f0))) + n9) (((IntKind.i64.wrap ((IntKind.i64.wrap (a2 + 1)) * p0.f0.f0)) - (IntKind.i64.wrap (a1 * p0.f0.f0))) - n9) (((((c0_0 : Nat) : Int).toNat - (IntKind.i64.wrap (a1 * p0.f0.f0)).toNat : Nat) : Int).toNat - n9.toNat):=Win.sub hW1039 g1156 g1157 g1158 (.inl rfl) (Int.le_refl _)
  obtain⟨n1162,hn1162,H⟩:=g_lt H
  have hl_n1162 : n1162.length = p0.f0.f2.length:=by rw [hn1162]; exact over_len (by rw [List.length_take]; omega)
  refine o' (OA_copyV (k:=1) (l:=0 + (IntKind.i64.wrap (a1 * p0.f0.f0))) (m:=(IntKind.i64.wrap ((IntKind.i64.wrap (a2 + 1)) * p0.f0.f0)) - (IntKind.i64.wrap (a1 * p0.f0.f0))) (xs:=p0.f0.f2) (ys:=sub p0.f0.f2 ((0 + (IntKind.i64.wrap (a1 * p0.f0.f0))) + n9) (((0 + (IntKind.i64.wrap (a1 * p0.f0.f0))) + n9) + (((IntKind.i64.wrap ((IntKind.i64.wrap (a2 + 1)) * p0.f0.f0)) - (IntKind.i64.wrap (a1 * p0.f0.f0))) - n9))) n1162 hn1162 hW1039 rfl Tryz.underlying24 sz55 rfl rfl rfl (by omega) rfl (Cpy.win (Src.buf (k:=1) rfl) hW1161 rfl (by omega)) ?_)
  try unfold c28'
  try unfold c34'
  try rewrite [← hl_n1162]
  refine na' ?_
  refine SA_drawHq (rg' 0 7) #[[],[],[1],[],[1,2,3],(rg' 0 5),[],(rg' 0 7)] [5] (rg' 0 5) mixed rfl rfl rfl PanOk.body fun I0 hS h0 hh0 w0 sH dd pk=>?_
  refine t' (.slice (slA A0_0 (IntKind.i64.wrap (a1 * p0.f0.f0)) ((c0_0 : Nat) : Int) 15) ((IntKind.i64.wrap ((IntKind.i64.wrap (a2 + 1)) * p0.f0.f0)) - (IntKind.i64.wrap (a1 * p0.f0.f0))).toNat (((c0_0 : Nat) : Int).toNat - (IntKind.i64.wrap (a1 * p0.f0.f0)).toNat)) 0 rfl sH mv' ?_
  refine t' (.slice (slA A0_0 (IntKind.i64.wrap (a1 * p0.f0.f0)) ((c0_0 : Nat) : Int) 15) ((IntKind.i64.wrap ((IntKind.i64.wrap (a2 + 1)) * p0.f0.f0)) - (IntKind.i64.wrap (a1 * p0.f0.f0))).toNat (((c0_0 : Nat) : Int).toNat - (IntKind.i64.wrap (a1 * p0.f0.f0)).toNat)) 1 rfl sH mv' ?_
  refine t' (il' ((IntKind.i64.wrap ((IntKind.i64.wrap (a2 + 1)) * p0.f0.f0)) - (IntKind.i64.wrap (a1 * p0.f0.f0)))) 2 rfl sH (V_lenW hW1039 Tryz.underlying24 rfl) ?_
  refine t' (il' n9) 3 rfl sH mv' ?_
  refine t' (il' (IntKind.i64.wrap (((IntKind.i64.wrap ((IntKind.i64.wrap (a2 + 1)) * p0.f0.f0)) - (IntKind.i64.wrap (a1 * p0.f0.f0))) - n9))) 4 rfl sH (V_sub rfl rfl) ?_
  obtain⟨⟨g1463,g1464,g1465⟩,H⟩:=g_pos H
  refine t' (.slice (slA (slA A0_0 (IntKind.i64.wrap (a1 * p0.f0.f0)) ((c0_0 : Nat) : Int) 15) (IntKind.i64.wrap (((IntKind.i64.wrap ((IntKind.i64.wrap (a2 + 1)) * p0.f0.f0)) - (IntKind.i64.wrap (a1 * p0.f0.f0))) - n9)) ((((c0_0 : Nat) : Int).toNat - (IntKind.i64.wrap (a1 * p0.f0.f0)).toNat : Nat) : Int) 15) (((IntKind.i64.wrap ((IntKind.i64.wrap (a2 + 1)) * p0.f0.f0)) - (IntKind.i64.wrap (a1 * p0.f0.f0))) - (IntKind.i64.wrap (((IntKind.i64.wrap ((IntKind.i64.wrap (a2 + 1)) * p0.f0.f0)) - (IntKind.i64.wrap (a1 * p0.f0.f0))) - n9))).toNat (((((c0_0 : Nat) : Int).toNat - (IntKind.i64.wrap (a1 * p0.f0.f0)).toNat : Nat) : Int).toNat - (IntKind.i64.wrap (((IntKind.i64.wrap ((IntKind.i64.wrap (a2 + 1)) * p0.f0.f0)) - (IntKind.i64.wrap (a1 * p0.f0.f0))) - n9)).toNat)) 5 rfl sH (V_sliceW (l:=0 + (IntKind.i64.wrap (a1 * p0.f0.f0))) (m:=(IntKind.i64.wrap ((IntKind.i64.wrap (a2 + 1)) * p0.f0.f0)) - (IntKind.i64.wrap (a1 * p0.f0.f0))) (a:=IntKind.i64.wrap (((IntKind.i64.wrap ((IntKind.i64.wrap (a2 + 1)) * p0.f0.f0)) - (IntKind.i64.wrap (a1 * p0.f0.f0))) - n9)) (b:=(IntKind.i64.wrap ((IntKind.i64.wrap (a2 + 1)) * p0.f0.f0)) - (IntKind.i64.wrap (a1 * p0.f0.f0))) (q:=((((c0_0 : Nat) : Int).toNat - (IntKind.i64.wrap (a1 * p0.f0.f0)).toNat : Nat) : Int)) hW1039 Tryz.underlying24 sz55 rfl rfl rfl rfl (.inr ⟨_,rfl⟩) (.inl ⟨rfl,rfl,rfl⟩) (.inl ⟨rfl,rfl⟩) g1463 g1464 g1465) ?_
  have hW1468 : Win A0_0 (slA (slA A0_0 (IntKind.i64.wrap (a1 * p0.f0.f0)) ((c0_0 : Nat) : Int) 15) (IntKind.i64.wrap (((IntKind.i64.wrap ((IntKind.i64.wrap (a2 + 1)) * p0.f0.f0)) - (IntKind.i64.wrap (a1 * p0.f0.f0))) - n9)) ((((c0_0 : Nat) : Int).toNat - (IntKind.i64.wrap (a1 * p0.f0.f0)).toNat : Nat) : Int) 15) 15 ((0 + (IntKind.i64.wrap (a1 * p0.f0.f0))) + (IntKind.i64.wrap (((IntKind.i64.wrap ((IntKind.i64.wrap (a2 + 1)) * p0.f0.f0)) - (IntKind.i64.wrap (a1 * p0.f0.f0))) - n9))) (((IntKind.i64.wrap ((IntKind.i64.wrap (a2 + 1)) * p0.f0.f0)) - (IntKind.i64.wrap (a1 * p0.f0.f0))) - (IntKind.i64.wrap (((IntKind.i64.wrap ((IntKind.i64.wrap (a2 + 1)) * p0.f0.f0)) - (IntKind.i64.wrap (a1 * p0.f0.f0))) - n9))) (((((c0_0 : Nat) : Int).toNat - (IntKind.i64.wrap (a1 * p0.f0.f0)).toNat : Nat) : Int).toNat - (IntKind.i64.wrap (((IntKind.i64.wrap ((IntKind.i64.wrap (a2 + 1)) * p0.f0.f0)) - (IntKind.i64.wrap (a1 * p0.f0.f0))) - n9)).toNat):=Win.sub hW1039 g1463 g1464 g1465 (.inl rfl) (Int.le_refl _)
  refine r' 6 rfl sH (lA' b6 0 0 (c28' a4)) ?_
  obtain⟨r1583,C1585,H⟩:=g_bind H
  obtain⟨hl1584,H⟩:=g_pos H
  refine DH_one 7 dd (by kernel_rfl) rfl (.no rfl) (ca' [1] [0,2,3,4] (xf' [.slice (slA (slA A0_0 (IntKind.i64.wrap (a1 * p0.f0.f0)) ((c0_0 : Nat) : Int) 15) (IntKind.i64.wrap (((IntKind.i64.wrap ((IntKind.i64.wrap (a2 + 1)) * p0.f0.f0)) - (IntKind.i64.wrap (a1 * p0.f0.f0))) - n9)) ((((c0_0 : Nat) : Int).toNat - (IntKind.i64.wrap (a1 * p0.f0.f0)).toNat : Nat) : Int) 15) (((IntKind.i64.wrap ((IntKind.i64.wrap (a2 + 1)) * p0.f0.f0)) - (IntKind.i64.wrap (a1 * p0.f0.f0))) - (IntKind.i64.wrap (((IntKind.i64.wrap ((IntKind.i64.wrap (a2 + 1)) * p0.f0.f0)) - (IntKind.i64.wrap (a1 * p0.f0.f0))) - n9))).toNat (((((c0_0 : Nat) : Int).toNat - (IntKind.i64.wrap (a1 * p0.f0.f0)).toNat : Nat) : Int).toNat - (IntKind.i64.wrap (((IntKind.i64.wrap ((IntKind.i64.wrap (a2 + 1)) * p0.f0.f0)) - (IntKind.i64.wrap (a1 * p0.f0.f0))) - n9)).toNat),.agg (c28' a4).toArray]) (F116w0.ok (l0:=n1162) (o0:=(0 + (IntKind.i64.wrap (a1 * p0.f0.f0))) + (IntKind.i64.wrap (((IntKind.i64.wrap ((IntKind.i64.wrap (a2 + 1)) * p0.f0.f0)) - (IntKind.i64.wrap (a1 * p0.f0.f0))) - n9))) (n0:=((IntKind.i64.wrap ((IntKind.i64.wrap (a2 + 1)) * p0.f0.f0)) - (IntKind.i64.wrap (a1 * p0.f0.f0))) - (IntKind.i64.wrap (((IntKind.i64.wrap ((IntKind.i64.wrap (a2 + 1)) * p0.f0.f0)) - (IntKind.i64.wrap (a1 * p0.f0.f0))) - n9))) (A0:=A0_0) (c0:=c0_0) (V0:=slA (slA A0_0 (IntKind.i64.wrap (a1 * p0.f0.f0)) ((c0_0 : Nat) : Int) 15) (IntKind.i64.wrap (((IntKind.i64.wrap ((IntKind.i64.wrap (a2 + 1)) * p0.f0.f0)) - (IntKind.i64.wrap (a1 * p0.f0.f0))) - n9)) ((((c0_0 : Nat) : Int).toNat - (IntKind.i64.wrap (a1 * p0.f0.f0)).toNat : Nat) : Int) 15) (v0:=((((c0_0 : Nat) : Int).toNat - (IntKind.i64.wrap (a1 * p0.f0.f0)).toNat : Nat) : Int).toNat - (IntKind.i64.wrap (((IntKind.i64.wrap ((IntKind.i64.wrap (a2 + 1)) * p0.f0.f0)) - (IntKind.i64.wrap (a1 * p0.f0.f0))) - n9)).toNat) (hw0:=hW1468) (a1:=a4) C1585) ?_)
  rintro _ _⟨rfl,rfl⟩
  try unfold c28'
  try unfold c34'
  try rewrite [← hl1584]
  try unfold c28' at sH
  try unfold c34' at sH
  try rewrite [← hl1584] at sH
  refine DH_open dd sH ?_
  refine DN_done (by kernel_rfl) ?_
  have h_:=oi' H;subst h_
  exact bn' [2,1,3,4,5] ⟨A0_0,c0_0,A0_1,c0_1,A0_2,c0_2,A0_3,c0_3,rfl,rfl⟩
 replace H:=g_iff h1155 H
 refine SA_condF rfl h1155 ?_
 refine qr' ?_
 refine s' (.slice (slA A0_0 (IntKind.i64.wrap (a1 * p0.f0.f0)) ((c0_0 : Nat) : Int) 15) ((IntKind.i64.wrap ((IntKind.i64.wrap (a2 + 1)) * p0.f0.f0)) - (IntKind.i64.wrap (a1 * p0.f0.f0))).toNat (((c0_0 : Nat) : Int).toNat - (IntKind.i64.wrap (a1 * p0.f0.f0)).toNat)) mv' ?_
 refine s' (il' n9) mv' ?_
 refine s' (il' (IntKind.i64.wrap (0 - n9))) (V_neg rfl) ?_
 obtain⟨⟨g1644,g1645,g1646⟩,H⟩:=g_pos H
 refine s' (.slice (slA (slA A0_0 (IntKind.i64.wrap (a1 * p0.f0.f0)) ((c0_0 : Nat) : Int) 15) (IntKind.i64.wrap (0 - n9)) ((((c0_0 : Nat) : Int).toNat - (IntKind.i64.wrap (a1 * p0.f0.f0)).toNat : Nat) : Int) 15) (((IntKind.i64.wrap ((IntKind.i64.wrap (a2 + 1)) * p0.f0.f0)) - (IntKind.i64.wrap (a1 * p0.f0.f0))) - (IntKind.i64.wrap (0 - n9))).toNat (((((c0_0 : Nat) : Int).toNat - (IntKind.i64.wrap (a1 * p0.f0.f0)).toNat : Nat) : Int).toNat - (IntKind.i64.wrap (0 - n9)).toNat)) (V_sliceW (l:=0 + (IntKind.i64.wrap (a1 * p0.f0.f0))) (m:=(IntKind.i64.wrap ((IntKind.i64.wrap (a2 + 1)) * p0.f0.f0)) - (IntKind.i64.wrap (a1 * p0.f0.f0))) (a:=IntKind.i64.wrap (0 - n9)) (b:=(IntKind.i64.wrap ((IntKind.i64.wrap (a2 + 1)) * p0.f0.f0)) - (IntKind.i64.wrap (a1 * p0.f0.f0))) (q:=((((c0_0 : Nat) : Int).toNat - (IntKind.i64.wrap (a1 * p0.f0.f0)).toNat : Nat) : Int)) hW1039 Tryz.underlying24 sz55 rfl rfl rfl rfl (.inr ⟨_,rfl⟩) (.inl ⟨rfl,rfl,rfl⟩) (.inl ⟨rfl,rfl⟩) g1644 g1645 g1646) ?_
 have hW1649 : Win A0_0 (slA (slA A0_0 (IntKind.i64.wrap (a1 * p0.f0.f0)) ((c0_0 : Nat) : Int) 15) (IntKind.i64.wrap (0 - n9)) ((((c0_0 : Nat) : Int).toNat - (IntKind.i64.wrap (a1 * p0.f0.f0)).toNat : Nat) : Int) 15) 15 ((0 + (IntKind.i64.wrap (a1 * p0.f0.f0))) + (IntKind.i64.wrap (0 - n9))) (((IntKind.i64.wrap ((IntKind.i64.wrap (a2 + 1)) * p0.f0.f0)) - (IntKind.i64.wrap (a1 * p0.f0.f0))) - (IntKind.i64.wrap (0 - n9))) (((((c0_0 : Nat) : Int).toNat - (IntKind.i64.wrap (a1 * p0.f0.f0)).toNat : Nat) : Int).toNat - (IntKind.i64.wrap (0 - n9)).toNat):=Win.sub hW1039 g1644 g1645 g1646 (.inl rfl) (Int.le_refl _)
 refine s' (.slice (slA A0_0 (IntKind.i64.wrap (a1 * p0.f0.f0)) ((c0_0 : Nat) : Int) 15) ((IntKind.i64.wrap ((IntKind.i64.wrap (a2 + 1)) * p0.f0.f0)) - (IntKind.i64.wrap (a1 * p0.f0.f0))).toNat (((c0_0 : Nat) : Int).toNat - (IntKind.i64.wrap (a1 * p0.f0.f0)).toNat)) mv' ?_
 obtain⟨n1650,hn1650,H⟩:=g_lt H
 have hl_n1650 : n1650.length = p0.f0.f2.length:=by rw [hn1650]; exact over_len (by rw [List.length_take]; omega)
 refine o' (OA_copyV (k:=1) (l:=(0 + (IntKind.i64.wrap (a1 * p0.f0.f0))) + (IntKind.i64.wrap (0 - n9))) (m:=((IntKind.i64.wrap ((IntKind.i64.wrap (a2 + 1)) * p0.f0.f0)) - (IntKind.i64.wrap (a1 * p0.f0.f0))) - (IntKind.i64.wrap (0 - n9))) (xs:=p0.f0.f2) (ys:=sub p0.f0.f2 (0 + (IntKind.i64.wrap (a1 * p0.f0.f0))) ((0 + (IntKind.i64.wrap (a1 * p0.f0.f0))) + ((IntKind.i64.wrap ((IntKind.i64.wrap (a2 + 1)) * p0.f0.f0)) - (IntKind.i64.wrap (a1 * p0.f0.f0))))) n1650 hn1650 hW1649 rfl Tryz.underlying24 sz55 rfl rfl rfl (by omega) rfl (Cpy.win (Src.buf (k:=1) rfl) hW1039 rfl (by omega)) ?_)
 try unfold c28'
 try unfold c34'
 try rewrite [← hl_n1650]
 refine na' ?_
 refine SA_drawHq (rg' 0 5) #[[],[],[1],[0,1,2],[],(rg' 0 5)] [5] (rg' 0 5) mixed rfl rfl rfl PanOk.body fun I0 hS h0 hh0 w0 sH dd pk=>?_
 refine t' (.slice (slA A0_0 (IntKind.i64.wrap (a1 * p0.f0.f0)) ((c0_0 : Nat) : Int) 15) ((IntKind.i64.wrap ((IntKind.i64.wrap (a2 + 1)) * p0.f0.f0)) - (IntKind.i64.wrap (a1 * p0.f0.f0))).toNat (((c0_0 : Nat) : Int).toNat - (IntKind.i64.wrap (a1 * p0.f0.f0)).toNat)) 0 rfl sH mv' ?_
 refine t' (il' n9) 1 rfl sH mv' ?_
 refine t' (il' (IntKind.i64.wrap (0 - n9))) 2 rfl sH (V_neg rfl) ?_
 obtain⟨⟨g1831,g1832,g1833⟩,H⟩:=g_pos H
 refine t' (.slice (slA (slA A0_0 (IntKind.i64.wrap (a1 * p0.f0.f0)) ((c0_0 : Nat) : Int) 15) (0 : Int) ((((c0_0 : Nat) : Int).toNat - (IntKind.i64.wrap (a1 * p0.f0.f0)).toNat : Nat) : Int) 15) ((IntKind.i64.wrap (0 - n9)) - (0 : Int)).toNat (((((c0_0 : Nat) : Int).toNat - (IntKind.i64.wrap (a1 * p0.f0.f0)).toNat : Nat) : Int).toNat - (0 : Int).toNat)) 3 rfl sH (V_sliceW (l:=0 + (IntKind.i64.wrap (a1 * p0.f0.f0))) (m:=(IntKind.i64.wrap ((IntKind.i64.wrap (a2 + 1)) * p0.f0.f0)) - (IntKind.i64.wrap (a1 * p0.f0.f0))) (a:=(0 : Int)) (b:=IntKind.i64.wrap (0 - n9)) (q:=((((c0_0 : Nat) : Int).toNat - (IntKind.i64.wrap (a1 * p0.f0.f0)).toNat : Nat) : Int)) hW1039 Tryz.underlying24 sz55 rfl rfl rfl rfl (.inl ⟨rfl,rfl⟩) (.inr ⟨_,rfl⟩) (.inl ⟨rfl,rfl⟩) g1831 g1832 g1833) ?_
 have hW1836 : Win A0_0 (slA (slA A0_0 (IntKind.i64.wrap (a1 * p0.f0.f0)) ((c0_0 : Nat) : Int) 15) (0 : Int) ((((c0_0 : Nat) : Int).toNat - (IntKind.i64.wrap (a1 * p0.f0.f0)).toNat : Nat) : Int) 15) 15 ((0 + (IntKind.i64.wrap (a1 * p0.f0.f0))) + (0 : Int)) ((IntKind.i64.wrap (0 - n9)) - (0 : Int)) (((((c0_0 : Nat) : Int).toNat - (IntKind.i64.wrap (a1 * p0.f0.f0)).toNat : Nat) : Int).toNat - (0 : Int).toNat):=Win.sub hW1039 g1831 g1832 g1833 (.inl rfl) (Int.le_refl _)
 refine r' 4 rfl sH (lA' b6 0 0 (c28' a4)) ?_
 obtain⟨r1951,C1953,H⟩:=g_bind H
 obtain⟨hl1952,H⟩:=g_pos H
 refine DH_one 5 dd (by kernel_rfl) rfl (.no rfl) (ca' [1] [0,2,3,4] (xf' [.slice (slA (slA A0_0 (IntKind.i64.wrap (a1 * p0.f0.f0)) ((c0_0 : Nat) : Int) 15) (0 : Int) ((((c0_0 : Nat) : Int).toNat - (IntKind.i64.wrap (a1 * p0.f0.f0)).toNat : Nat) : Int) 15) ((IntKind.i64.wrap (0 - n9)) - (0 : Int)).toNat (((((c0_0 : Nat) : Int).toNat - (IntKind.i64.wrap (a1 * p0.f0.f0)).toNat : Nat) : Int).toNat - (0 : Int).toNat),.agg (c28' a4).toArray]) (F116w0.ok (l0:=n1650) (o0:=(0 + (IntKind.i64.wrap (a1 * p0.f0.f0))) + (0 : Int)) (n0:=(IntKind.i64.wrap (0 - n9)) - (0 : Int)) (A0:=A0_0) (c0:=c0_0) (V0:=slA (slA A0_0 (IntKind.i64.wrap (a1 * p0.f0.f0)) ((c0_0 : Nat) : Int) 15) (0 : Int) ((((c0_0 : Nat) : Int).toNat - (IntKind.i64.wrap (a1 * p0.f0.f0)).toNat : Nat) : Int) 15) (v0:=((((c0_0 : Nat) : Int).toNat - (IntKind.i64.wrap (a1 * p0.f0.f0)).toNat : Nat) : Int).toNat - (0 : Int).toNat) (hw0:=hW1836) (a1:=a4) C1953) ?_)
 rintro _ _⟨rfl,rfl⟩
 try unfold c28'
 try unfold c34'
 try rewrite [← hl1952]
 try unfold c28' at sH
 try unfold c34' at sH
 try rewrite [← hl1952] at sH
 refine DH_open dd sH ?_
 refine DN_done (by kernel_rfl) ?_
 have h_:=oi' H;subst h_
 exact bn' [2,1,3,4,5] ⟨A0_0,c0_0,A0_1,c0_1,A0_2,c0_2,A0_3,c0_3,rfl,rfl⟩

end Go.Proofs.YtckilbegmbaeeaaGreat.Z5

/- What functions compute, and that they do: 17, 33, 34, 35, 62f63x_1_, 62f86x_1_, 62f88xx_1_, 63Lb_0_, 64Lb_0_, 86Lb_0_, 87Lb_0_, 88Lb_0_, 89Lb_0_. -/
import Derived.Test.YtckilbegmbaeeaaGreatZ50
import Derived.Test.YtckilbegmbaeeaaGreatZ52
import Derived.Test.YtckilbegmbaeeaaGreatZ53
import Derived.Test.YtckilbegmbaeeaaGreatZ56
import Derived.Test.YtckilbegmbaeeaaGreatZ58
import Derived.Test.YtckilbegmbaeeaaGreatZ59
namespace Go.Proofs.YtckilbegmbaeeaaGreat.Z5
open Go Go.RowKit Go.Proofs.YtckilbegmbaeeaaGreat.SL
set_option linter.unusedVariables false
set_option maxHeartbeats 20000000
set_option maxRecDepth 100000
set_option linter.unusedSimpArgs false
attribute [local irreducible] IntKind.wrap minI maxI shrI shlI andI orI xorI andNotI cplI rd sub bytesOf strOf slA
variable {b0_ b1_ b2000_ b2001_ b2_ c0_0 c0_1 c0_2 c0_3 k : Nat}
variable {A0_0 A0_1 A0_2 A0_3 : Option Addr}
def F33.f (k : Nat) (a0 : S34) (a1 : Int) : Option (S34 × Int):=(F62f84x_1_.f k a0 a1).bind (fun r11=>some ((r11.1,r11.2)))
theorem F33.ok {a0 : S34} {a1 : Int} {r : S34 × Int} (H : F33.f k a0 a1 = some r) : SCA Tryz.prog 33 #[.agg (c34' a0 A0_0 c0_0 A0_1 c0_1 A0_2 c0_2 A0_3 c0_3).toArray,il' a1] [Ro k55 A0_0 c0_0 a0.f0.f2,rl' A0_1 c0_1 a0.f7,Ro k55 A0_2 c0_2 a0.f16.f2,rw' A0_3 c0_3 a0.f17] (fun v B=>∃ A0_0_ c0_0_ A0_1_ c0_1_ A0_2_ c0_2_ A0_3_ c0_3_,v = .tuple #[.agg (c34' r.1 A0_0_ c0_0_ A0_1_ c0_1_ A0_2_ c0_2_ A0_3_ c0_3_).toArray,il' r.2]∧B = [Buf k55 55 A0_0_ c0_0_ r.1.f0.f2,bl' 3 A0_1_ c0_1_ r.1.f7,Buf k55 55 A0_2_ c0_2_ r.1.f16.f2,bw' 21 A0_3_ c0_3_ r.1.f17]):=by
 refine SCA_of_body Tryz.func33 rfl rfl ?_
 unfold F33.f at H
 refine qr' ?_
 refine o' (bx' fun b5=>?_)
 refine o' (bx' fun b7=>?_)
 refine o' (al' fun b9=>?_)
 refine s' (il' 0) as' ?_
 refine nr' ?_
 refine l' (lA' b5 0 4 (c34' a0 A0_0 c0_0 A0_1 c0_1 A0_2 c0_2 A0_3 c0_3)) ?_
 refine s' (.func (.func 84) #[] #[pt' b7]) (V_makeFuncL (us:=[pt' b7]) rfl) ?_
 obtain⟨r11,C24,H⟩:=g_bind H
 refine o' (ca' [0,1,2,3,5] [0,1,2,3,4,6] (xf' [.agg (c34' a0 A0_0 c0_0 A0_1 c0_1 A0_2 c0_2 A0_3 c0_3).toArray,.func (.func 84) #[] #[pt' b7]]) (F62f84x_1_.ok (a0:=a0) (b2000_:=b7) (p2000:=a1) C24) ?_)
 rintro _ _⟨A12,c13,A15,c16,A18,c19,A21,c22,rfl,rfl⟩
 refine s' (.agg (c34' r11.1 A12 c13 A15 c16 A18 c19 A21 c22).toArray) ex' ?_
 refine s' (il' r11.2) ex' ?_
 refine o' (su' b9 0 10 (c34' r11.1 A12 c13 A15 c16 A18 c19 A21 c22) ?_)
 refine s' (il' r11.2) as' ?_
 refine nt' ?_
 have h_:=oi' H;subst h_
 exact b2' [.cell 4 34,.tmp 5] [0,1,2,3] ⟨A12,c13,A15,c16,A18,c19,A21,c22,rfl,rfl⟩ ⟨RV.cell (k:=10) rfl rfl Tryz.underlying34 rfl sz34,RV.tmp rfl,trivial⟩


def F87Lb_0_.f (k : Nat) (p0 : S34) (a1 : Int) : Option (S34):=(F131i34m0b_0_.f k p0 p0.f5 p0.f6 a1 p0.f4).bind (fun r1212=>some (({ r1212 with f3:=false })))
theorem F87Lb_0_.ok {p0 : S34} {a1 : Int} {r : S34} (H : F87Lb_0_.f k p0 a1 = some r) : SCA Tryz.prog 87 #[.agg #[.pointer (some ⟨b0_,0,none⟩)],il' a1] [Blk b0_ 34 (c34' p0 A0_0 c0_0 A0_1 c0_1 A0_2 c0_2 A0_3 c0_3),Buf k55 55 A0_0 c0_0 p0.f0.f2,bl' 3 A0_1 c0_1 p0.f7,Buf k55 55 A0_2 c0_2 p0.f16.f2,bw' 21 A0_3 c0_3 p0.f17] (fun v B=>∃ P0_0_ q0_0_ P0_1_ q0_1_ P0_2_ q0_2_ P0_3_ q0_3_,v = .tuple #[]∧B = [Blk b0_ 34 (c34' r P0_0_ q0_0_ P0_1_ q0_1_ P0_2_ q0_2_ P0_3_ q0_3_),Buf k55 55 P0_0_ q0_0_ r.f0.f2,bl' 3 P0_1_ q0_1_ r.f7,Buf k55 55 P0_2_ q0_2_ r.f16.f2,bw' 21 P0_3_ q0_3_ r.f17]):=by
 refine SCA_of_body Tryz.func87 rfl rfl ?_
 unfold F87Lb_0_.f at H
 refine qr' ?_
 refine o' (bx' fun b6=>?_)
 refine na' (SA_seq ?_)
 refine fc' 1 fun hc8=>?_
 refine fc' 2 fun hc9=>?_
 refine fc' 3 fun hc10=>?_
 refine fc' 4 fun hc11=>?_
 refine SA_drawHq (rg' 0 20) (List.toArray ([]::[0]::[0,1]::[0,1,2]::[]::[4]::[4,5]::[4,5,6]::(rg' 4 4)::[]::[9]::[9,10]::[9,10,11]::(rg' 9 4)::[]::[]::[15]::[15,16]::[15,16,17]::(rg' 15 4)::(rg' 0 20)::[])) [0,5] (rg' 1 4) mixed rfl rfl rfl (PanOk.thn PanOk.body) fun I0 hS h0 hh0 w0 sH dd pk=>?_
 refine t' (pt' b6) 0 rfl sH (fa' b6 0 0) ?_
 refine r' 1 rfl sH (ld' b6 0 1) ?_
 refine t' (pt' b0_) 2 rfl sH nc' ?_
 refine t' (pt' b0_) 3 rfl sH (fa' b0_ 0 0) ?_
 refine t' (pt' b6) 4 rfl sH (fa' b6 0 0) ?_
 refine r' 5 rfl sH (ld' b6 0 1) ?_
 refine t' (pt' b0_) 6 rfl sH nc' ?_
 refine t' (pa' b0_ 16) 7 rfl sH (fa' b0_ 0 16) ?_
 refine r' 8 rfl sH (ld' b0_ 16 0) ?_
 refine t' (pt' b6) 9 rfl sH (fa' b6 0 0) ?_
 refine r' 10 rfl sH (ld' b6 0 1) ?_
 refine t' (pt' b0_) 11 rfl sH nc' ?_
 refine t' (pa' b0_ 17) 12 rfl sH (fa' b0_ 0 17) ?_
 refine r' 13 rfl sH (ld' b0_ 17 0) ?_
 refine t' (il' a1) 14 rfl sH mv' ?_
 refine t' (pt' b6) 15 rfl sH (fa' b6 0 0) ?_
 refine r' 16 rfl sH (ld' b6 0 1) ?_
 refine t' (pt' b0_) 17 rfl sH nc' ?_
 refine t' (pa' b0_ 6) 18 rfl sH (fa' b0_ 0 6) ?_
 refine r' 19 rfl sH (lA' b0_ 6 0 (c28' p0.f4)) ?_
 refine DH_open dd sH ?_
 obtain⟨r1212,C1225,H⟩:=g_bind H
 refine DN_one 20 (by kernel_rfl) rfl rfl (.no rfl) (ca' [0,2,3,4,5] [1] (xf' [pt' b0_,il' p0.f5,il' p0.f6,il' a1,.agg (c28' p0.f4).toArray]) (F131i34m0b_0_.ok (b0_:=b0_) (p0:=p0) (a1:=p0.f5) (a2:=p0.f6) (a3:=a1) (a4:=p0.f4) C1225) ?_)
 rintro _ _⟨A1213,c1214,A1216,c1217,A1219,c1220,A1222,c1223,rfl,rfl⟩
 refine DN_done (by kernel_rfl) ?_
 refine at_normal (SA_region ?_)
 refine s' (pt' b6) (fa' b6 0 0) ?_
 refine l' (ld' b6 0 5) ?_
 refine s' (pt' b0_) nc' ?_
 refine s' (pa' b0_ 5) (fa' b0_ 0 5) ?_
 refine o' (st' b0_ 5 0 [.bool false] (c34' ({ r1212 with f3:=false }) A1213 c1214 A1216 c1217 A1219 c1220 A1222 c1223) ?_)
 refine RA_nil ?_
 have h_:=oi' H;subst h_
 exact bn' [0,1,2,3,4] ⟨A1213,c1214,A1216,c1217,A1219,c1220,A1222,c1223,rfl,rfl⟩


def F86Lb_0_.f (k : Nat) (p0 : S34) (p1 : Int) : Option (S34):=(F87Lb_0_.f k p0 p1).bind (fun r13=>some (r13))
theorem F86Lb_0_.ok {p0 : S34} {p1 : Int} {r : S34} (H : F86Lb_0_.f k p0 p1 = some r) : SCA Tryz.prog 86 #[.agg #[.pointer (some ⟨b0_,0,none⟩)],.pointer (some ⟨b1_,0,none⟩)] [Blk b0_ 34 (c34' p0 A0_0 c0_0 A0_1 c0_1 A0_2 c0_2 A0_3 c0_3),Buf k55 55 A0_0 c0_0 p0.f0.f2,bl' 3 A0_1 c0_1 p0.f7,Buf k55 55 A0_2 c0_2 p0.f16.f2,bw' 21 A0_3 c0_3 p0.f17,Blk b1_ 3 [il' p1]] (fun v B=>∃ P0_0_ q0_0_ P0_1_ q0_1_ P0_2_ q0_2_ P0_3_ q0_3_,v = .tuple #[]∧B = [Blk b0_ 34 (c34' r P0_0_ q0_0_ P0_1_ q0_1_ P0_2_ q0_2_ P0_3_ q0_3_),Buf k55 55 P0_0_ q0_0_ r.f0.f2,bl' 3 P0_1_ q0_1_ r.f7,Buf k55 55 P0_2_ q0_2_ r.f16.f2,bw' 21 P0_3_ q0_3_ r.f17,Blk b1_ 3 [il' p1]]):=by
 refine SCA_of_body Tryz.func86 rfl rfl ?_
 unfold F86Lb_0_.f at H
 refine qr' ?_
 refine o' (bx' fun b7=>?_)
 refine na' ?_
 refine fc' 1 fun hc9=>?_
 refine fc' 2 fun hc10=>?_
 refine fc' 3 fun hc11=>?_
 refine fc' 4 fun hc12=>?_
 refine SA_region ?_
 refine l' (lA' b7 0 6 [pt' b0_]) ?_
 refine l' (ld' b1_ 0 5) ?_
 obtain⟨r13,C26,H⟩:=g_bind H
 refine o' (ca' [0,1,2,3,4] [5,6] (xf' [.agg #[pt' b0_],il' p1]) (F87Lb_0_.ok (b0_:=b0_) (p0:=p0) (a1:=p1) C26) ?_)
 rintro _ _⟨A14,c15,A17,c18,A20,c21,A23,c24,rfl,rfl⟩
 refine RA_nil ?_
 have h_:=oi' H;subst h_
 exact bn' [0,1,2,3,4,5] ⟨A14,c15,A17,c18,A20,c21,A23,c24,rfl,rfl⟩


def F62f86x_1_.f (k : Nat) (a0 : S34) (p2000 : Int) : Option (S34 × Int):=(F16b0.f k a0).bind (fun r10=>if (!r10) = true then (some (((S34.mk (S26.mk 0 0 ([] : (List S55))) 0 0 false (S28.mk 0 0 false false false false false false false false) 0 0 ([] : (List Int)) false false false false false false (S31.mk 0 0 false false (S28.mk 0 0 false false false false false false false false)) false (S26.mk 0 0 ([] : (List S55))) ([] : (List Int))),2))) else ((F97.f a0).bind (fun r16=>(F86Lb_0_.f k r16 p2000).bind (fun r29=>some ((r29,0))))))
theorem F62f86x_1_.ok {a0 : S34} {p2000 : Int} {r : S34 × Int} (H : F62f86x_1_.f k a0 p2000 = some r) : SCA Tryz.prog 62 #[.agg (c34' a0 A0_0 c0_0 A0_1 c0_1 A0_2 c0_2 A0_3 c0_3).toArray,.func (.func 86) #[] #[.pointer (some ⟨b2000_,0,none⟩)]] [Ro k55 A0_0 c0_0 a0.f0.f2,rl' A0_1 c0_1 a0.f7,Ro k55 A0_2 c0_2 a0.f16.f2,rw' A0_3 c0_3 a0.f17,Blk b2000_ 3 [il' p2000]] (fun v B=>∃ A0_0_ c0_0_ A0_1_ c0_1_ A0_2_ c0_2_ A0_3_ c0_3_,v = .tuple #[.agg (c34' r.1 A0_0_ c0_0_ A0_1_ c0_1_ A0_2_ c0_2_ A0_3_ c0_3_).toArray,il' r.2]∧B = [Buf k55 55 A0_0_ c0_0_ r.1.f0.f2,bl' 3 A0_1_ c0_1_ r.1.f7,Buf k55 55 A0_2_ c0_2_ r.1.f16.f2,bw' 21 A0_3_ c0_3_ r.1.f17,Blk b2000_ 3 [il' p2000]]):=by
 refine SCA_of_body Tryz.func62 rfl rfl ?_
 unfold F62f86x_1_.f at H
 refine qr' ?_
 refine o' (bx' fun b6=>?_)
 refine o' (al' fun b8=>?_)
 refine s' (il' 0) as' ?_
 refine nq' ?_
 refine l' (lA' b6 0 5 (c34' a0 A0_0 c0_0 A0_1 c0_1 A0_2 c0_2 A0_3 c0_3)) ?_
 obtain⟨r10,C44,H⟩:=g_bind H
 refine o' (ca' [0,1,2,3] [0,1,2,3,4,5,6] (xf' [.agg (c34' a0 A0_0 c0_0 A0_1 c0_1 A0_2 c0_2 A0_3 c0_3).toArray]) (F16.ok (a0:=a0) C44) ?_)
 rintro _ _⟨rfl,rfl⟩
 refine s' (.bool (!r10)) (V_not rfl) ?_
 refine na' ?_
 by_cases h11 : (!r10) = true
 ·replace H:=g_ift h11 H
  refine SA_condTb rfl h11 ?_
  refine qr' ?_
  refine s' (.agg (c34' z34' none 0 none 0 none 0 none 0).toArray) bd' ?_
  refine o' (su' b8 0 6 (c34' z34' none 0 none 0 none 0 none 0) ?_)
  refine s' (il' 2) as' ?_
  refine ntt' ?_
  have h_:=oi' H;subst h_
  exact BQ_RL (rs:=[.cell 4 34,.tmp 5]) (vs:=[.agg (c34' z34' none 0 none 0 none 0 none 0).toArray,il' 2]) [Buf k55 55 none 0 ([] : (List S55)),bl' 3 none 0 ([] : (List Int)),Buf k55 55 none 0 ([] : (List S55)),bw' 21 none 0 ([] : (List Int)),Blk b2000_ 3 [il' p2000]] rfl ⟨RV.cell (k:=6) rfl rfl Tryz.underlying34 rfl sz34,RV.tmp rfl,trivial⟩ rfl ((Gh.nilBuf k55 55).trans ((Gh.nilBuf (Kd.int .i64) 3).trans ((Gh.nilBuf k55 55).trans ((Gh.nilBuf (Kd.int .i32) 21).trans (gs' [7,8,9,10,4]))))) ⟨none,0,none,0,none,0,none,0,rfl,rfl⟩
 replace H:=g_iff h11 H
 refine SA_condFb rfl h11 ?_
 refine SA_skip (at_normal (qr' ?_))
 refine l' (lA' b6 0 5 (c34' a0 A0_0 c0_0 A0_1 c0_1 A0_2 c0_2 A0_3 c0_3)) ?_
 obtain⟨r16,C43,H⟩:=g_bind H
 refine o' (ca' [0,1,2,3] [0,1,2,3,4,5,6] (xf' [.agg (c34' a0 A0_0 c0_0 A0_1 c0_1 A0_2 c0_2 A0_3 c0_3).toArray]) (F97.ok (a0:=a0) C43) ?_)
 rintro _ _⟨A17,c18,A20,c21,A23,c24,A26,c27,rfl,rfl⟩
 refine o' (su' b6 0 9 (c34' r16 A17 c18 A20 c21 A23 c24 A26 c27) ?_)
 refine nr' ?_
 refine s' (.func (.func 86) #[] #[pt' b2000_]) mv' ?_
 refine s' (.agg #[pt' b6]) bd' ?_
 obtain⟨r29,C42,H⟩:=g_bind H
 refine o' (ca' [9,0,1,2,3,8] [4,5,6,7,10] (X_fnV (vs:=[.agg #[pt' b6]]) (cap:=[pt' b2000_]) rfl Tryz.func86 nm86 rfl rfl) (F86Lb_0_.ok (b0_:=b6) (p0:=r16) (b1_:=b2000_) (p1:=p2000) C42) ?_)
 rintro _ _⟨A30,c31,A33,c34,A36,c37,A39,c40,rfl,rfl⟩
 refine nr' ?_
 refine l' (lA' b6 0 0 (c34' r29 A30 c31 A33 c34 A36 c37 A39 c40)) ?_
 refine o' (su' b8 0 10 (c34' r29 A30 c31 A33 c34 A36 c37 A39 c40) ?_)
 refine s' (il' 0) as' ?_
 refine nt' ?_
 have h_:=oi' H;subst h_
 exact b2' [.cell 4 34,.tmp 5] [1,2,3,4,5] ⟨A30,c31,A33,c34,A36,c37,A39,c40,rfl,rfl⟩ ⟨RV.cell (k:=10) rfl rfl Tryz.underlying34 rfl sz34,RV.tmp rfl,trivial⟩


def F34.f (k : Nat) (a0 : S34) (a1 : Int) : Option (S34 × Int):=(F62f86x_1_.f k a0 a1).bind (fun r11=>some ((r11.1,r11.2)))
theorem F34.ok {a0 : S34} {a1 : Int} {r : S34 × Int} (H : F34.f k a0 a1 = some r) : SCA Tryz.prog 34 #[.agg (c34' a0 A0_0 c0_0 A0_1 c0_1 A0_2 c0_2 A0_3 c0_3).toArray,il' a1] [Ro k55 A0_0 c0_0 a0.f0.f2,rl' A0_1 c0_1 a0.f7,Ro k55 A0_2 c0_2 a0.f16.f2,rw' A0_3 c0_3 a0.f17] (fun v B=>∃ A0_0_ c0_0_ A0_1_ c0_1_ A0_2_ c0_2_ A0_3_ c0_3_,v = .tuple #[.agg (c34' r.1 A0_0_ c0_0_ A0_1_ c0_1_ A0_2_ c0_2_ A0_3_ c0_3_).toArray,il' r.2]∧B = [Buf k55 55 A0_0_ c0_0_ r.1.f0.f2,bl' 3 A0_1_ c0_1_ r.1.f7,Buf k55 55 A0_2_ c0_2_ r.1.f16.f2,bw' 21 A0_3_ c0_3_ r.1.f17]):=by
 refine SCA_of_body Tryz.func34 rfl rfl ?_
 unfold F34.f at H
 refine qr' ?_
 refine o' (bx' fun b5=>?_)
 refine o' (bx' fun b7=>?_)
 refine o' (al' fun b9=>?_)
 refine s' (il' 0) as' ?_
 refine nr' ?_
 refine l' (lA' b5 0 4 (c34' a0 A0_0 c0_0 A0_1 c0_1 A0_2 c0_2 A0_3 c0_3)) ?_
 refine s' (.func (.func 86) #[] #[pt' b7]) (V_makeFuncL (us:=[pt' b7]) rfl) ?_
 obtain⟨r11,C24,H⟩:=g_bind H
 refine o' (ca' [0,1,2,3,5] [0,1,2,3,4,6] (xf' [.agg (c34' a0 A0_0 c0_0 A0_1 c0_1 A0_2 c0_2 A0_3 c0_3).toArray,.func (.func 86) #[] #[pt' b7]]) (F62f86x_1_.ok (a0:=a0) (b2000_:=b7) (p2000:=a1) C24) ?_)
 rintro _ _⟨A12,c13,A15,c16,A18,c19,A21,c22,rfl,rfl⟩
 refine s' (.agg (c34' r11.1 A12 c13 A15 c16 A18 c19 A21 c22).toArray) ex' ?_
 refine s' (il' r11.2) ex' ?_
 refine o' (su' b9 0 10 (c34' r11.1 A12 c13 A15 c16 A18 c19 A21 c22) ?_)
 refine s' (il' r11.2) as' ?_
 refine nt' ?_
 have h_:=oi' H;subst h_
 exact b2' [.cell 4 34,.tmp 5] [0,1,2,3] ⟨A12,c13,A15,c16,A18,c19,A21,c22,rfl,rfl⟩ ⟨RV.cell (k:=10) rfl rfl Tryz.underlying34 rfl sz34,RV.tmp rfl,trivial⟩


def F89Lb_0_.f (p0 : S34) (a1 : Int) (a2 : Int) : Option (S34):=lt ((decide (a1 < 0)) || (decide (a1 ≥ a2))) fun q8=>lt (q8 || (decide (a2 ≥ p0.f0.f1))) fun q11=>if q11 = true then (some (p0)) else ((F79Lb_0_.f ({ p0 with f5:=a1,f6:=a2 }) 0 0).bind (fun r740=>some (r740)))
theorem F89Lb_0_.ok {p0 : S34} {a1 : Int} {a2 : Int} {r : S34} (H : F89Lb_0_.f p0 a1 a2 = some r) : SCA Tryz.prog 89 #[.agg #[.pointer (some ⟨b0_,0,none⟩)],il' a1,il' a2] [Blk b0_ 34 (c34' p0 A0_0 c0_0 A0_1 c0_1 A0_2 c0_2 A0_3 c0_3),Buf k55 55 A0_0 c0_0 p0.f0.f2,bl' 3 A0_1 c0_1 p0.f7,Buf k55 55 A0_2 c0_2 p0.f16.f2,bw' 21 A0_3 c0_3 p0.f17] (fun v B=>∃ P0_0_ q0_0_ P0_1_ q0_1_ P0_2_ q0_2_ P0_3_ q0_3_,v = .tuple #[]∧B = [Blk b0_ 34 (c34' r P0_0_ q0_0_ P0_1_ q0_1_ P0_2_ q0_2_ P0_3_ q0_3_),Buf k55 55 P0_0_ q0_0_ r.f0.f2,bl' 3 P0_1_ q0_1_ r.f7,Buf k55 55 P0_2_ q0_2_ r.f16.f2,bw' 21 P0_3_ q0_3_ r.f17]):=by
 refine SCA_of_body Tryz.func89 rfl rfl ?_
 unfold F89Lb_0_.f at H
 refine qr' ?_
 refine o' (bx' fun b6=>?_)
 refine nq' ?_
 refine s' (il' a1) mv' ?_
 refine s' (.bool (decide (a1 < 0))) (V_lss rfl rfl) ?_
 refine s' (.bool (decide (a1 < 0))) mv' ?_
 obtain⟨q8,hq8,H⟩:=g_lt H
 refine cR' 4 [(1,il' a1),(2,il' a2),(3,pt' b6),(12,.bool q8)] [Blk b0_ 34 (c34' p0 A0_0 c0_0 A0_1 c0_1 A0_2 c0_2 A0_3 c0_3),Buf k55 55 A0_0 c0_0 p0.f0.f2,bl' 3 A0_1 c0_1 p0.f7,Buf k55 55 A0_2 c0_2 p0.f16.f2,bw' 21 A0_3 c0_3 p0.f17,Blk b6 84 [pt' b0_]] ?_ fun junk=>?_
 ·by_cases h9 : a1 < 0
  ·refine no' 3 (dec_t h9) ?_
   refine pT' (dec_t h9) ?_
   refine RA_nil ?_
   exact at_normal (St.mk1 (aeq rfl (aeq rfl (aeq rfl (aeq (congrArg Value.bool (or_t hq8 (dec_t h9))) aeq0)))) (gs' [0,1,2,3,4,5]))
  refine y' (dec_f h9) (il' a1) mv' ?_
  refine y' (dec_f h9) (il' a2) mv' ?_
  refine y' (dec_f h9) (.bool (decide (a1 ≥ a2))) (V_geq rfl rfl) ?_
  refine pF' (dec_f h9) ?_
  refine RA_nil ?_
  exact at_normal (St.mk1 (aeq rfl (aeq rfl (aeq rfl (aeq (congrArg Value.bool (or_f hq8 (dec_f h9))) aeq0)))) (gs' [0,1,2,3,4,5]))
 refine s' (.bool q8) mv' ?_
 obtain⟨q11,hq11,H⟩:=g_lt H
 refine RA_cut 9 (fun e ds As=>St [(1,il' a1),(2,il' a2),(3,pt' b6),(22,.bool q11)] [Blk b0_ 34 (c34' p0 A0_0 c0_0 A0_1 c0_1 A0_2 c0_2 A0_3 c0_3),Buf k55 55 A0_0 c0_0 p0.f0.f2,bl' 3 A0_1 c0_1 p0.f7,Buf k55 55 A0_2 c0_2 p0.f16.f2,bw' 21 A0_3 c0_3 p0.f17,Blk b6 84 [pt' b0_]] e ds As) ?_ ?_
 ·by_cases h12 : q8 = true
  ·refine no' 8 h12 ?_
   refine pT' h12 ?_
   refine RA_nil ?_
   exact at_normal (St.mk1 (aeq rfl (aeq rfl (aeq rfl (aeq (congrArg Value.bool (or_t hq11 (h12))) aeq0)))) (gs' [0,1,2,3,4,5]))
  refine y' (bno h12) (il' a2) mv' ?_
  refine y' (bno h12) (pt' b6) (fa' b6 0 0) ?_
  refine z' (bno h12) (ld' b6 0 5) ?_
  refine y' (bno h12) (pt' b0_) nc' ?_
  refine y' (bno h12) (pt' b0_) (fa' b0_ 0 0) ?_
  refine y' (bno h12) (pa' b0_ 1) (fa' b0_ 0 1) ?_
  refine z' (bno h12) (ld' b0_ 1 0) ?_
  refine y' (bno h12) (.bool (decide (a2 ≥ p0.f0.f1))) (V_geq rfl rfl) ?_
  refine pF' (bno h12) ?_
  refine RA_nil ?_
  exact at_normal (St.mk1 (aeq rfl (aeq rfl (aeq rfl (aeq (congrArg Value.bool (or_f hq11 (bno h12))) aeq0)))) (gs' [0,1,2,3,4,5]))
 rintro e ds As hst13
 refine na' ?_
 refine SA.of_St hst13 fun junk=>?_
 by_cases h14 : q11 = true
 ·replace H:=g_ift h14 H
  refine SA_condTb rfl h14 ?_
  refine SA_ret (thn_ret ?_)
  have h_:=oi' H;subst h_
  exact BQ_R0 [Blk b0_ 34 (c34' p0 A0_0 c0_0 A0_1 c0_1 A0_2 c0_2 A0_3 c0_3),Buf k55 55 A0_0 c0_0 p0.f0.f2,bl' 3 A0_1 c0_1 p0.f7,Buf k55 55 A0_2 c0_2 p0.f16.f2,bw' 21 A0_3 c0_3 p0.f17] rfl (gs' [0,1,2,3,4]) ⟨A0_0,c0_0,A0_1,c0_1,A0_2,c0_2,A0_3,c0_3,rfl,rfl⟩
 replace H:=g_iff h14 H
 refine SA_condFb rfl h14 ?_
 refine SA_skip (at_normal (SA_seq ?_))
 refine SA_drawHq [0,1,2,3,4,5,6,7,9,10] #[[],[0],[],[2],[],[],[0,1,4],[0,1,4,6],[0,1,4,6,7],(rg' 0 8),[0,1,2,3,4,5,6,7,9],[0,1,2,3,4,5,6,7,9,10]] [5] (rg' 0 5) mixed rfl rfl rfl (PanOk.thn PanOk.body) fun I0 hS h0 hh0 w0 sH dd pk=>?_
 refine t' (pt' b6) 0 rfl sH (fa' b6 0 0) ?_
 refine r' 1 rfl sH (ld' b6 0 0) ?_
 refine t' (pt' b6) 2 rfl sH (fa' b6 0 0) ?_
 refine r' 3 rfl sH (ld' b6 0 0) ?_
 refine t' (il' a1) 4 rfl sH mv' ?_
 refine t' (il' a2) 5 rfl sH mv' ?_
 refine t' (pt' b0_) 6 rfl sH nc' ?_
 refine t' (pa' b0_ 16) 7 rfl sH (fa' b0_ 0 16) ?_
 refine DH_one 8 dd (by kernel_rfl) rfl (.no rfl) (st' b0_ 16 0 [il' a1] (c34' ({ p0 with f5:=a1 }) A0_0 c0_0 A0_1 c0_1 A0_2 c0_2 A0_3 c0_3) ?_)
 refine t' (pt' b0_) 9 rfl sH nc' ?_
 refine t' (pa' b0_ 17) 10 rfl sH (fa' b0_ 0 17) ?_
 refine DH_one 11 dd (by kernel_rfl) rfl (.no rfl) (st' b0_ 17 0 [il' a2] (c34' ({ p0 with f5:=a1,f6:=a2 }) A0_0 c0_0 A0_1 c0_1 A0_2 c0_2 A0_3 c0_3) ?_)
 refine DH_open dd sH ?_
 refine DN_done (by kernel_rfl) ?_
 refine at_normal ?_
 refine fc' 2 fun hc736=>?_
 refine fc' 3 fun hc737=>?_
 refine fc' 4 fun hc738=>?_
 refine fc' 5 fun hc739=>?_
 refine SA_region ?_
 refine l' (lA' b6 0 0 [pt' b0_]) ?_
 obtain⟨r740,C753,H⟩:=g_bind H
 refine o' (ca' [1,2,3,4,5] [0] (xf' [.agg #[pt' b0_],il' 0,il' 0]) (F79Lb_0_.ok (b0_:=b0_) (p0:=({ p0 with f5:=a1,f6:=a2 })) (a1:=0) (a2:=0) C753) ?_)
 rintro _ _⟨A741,c742,A744,c745,A747,c748,A750,c751,rfl,rfl⟩
 refine RA_nil ?_
 have h_:=oi' H;subst h_
 exact bn' [0,1,2,3,4] ⟨A741,c742,A744,c745,A747,c748,A750,c751,rfl,rfl⟩


def F88Lb_0_.f (p0 : S34) (p1 : Int) (p2 : Int) : Option (S34):=(F89Lb_0_.f p0 p1 p2).bind (fun r14=>some (r14))
theorem F88Lb_0_.ok {p0 : S34} {p1 : Int} {p2 : Int} {r : S34} (H : F88Lb_0_.f p0 p1 p2 = some r) : SCA Tryz.prog 88 #[.agg #[.pointer (some ⟨b0_,0,none⟩)],.pointer (some ⟨b1_,0,none⟩),.pointer (some ⟨b2_,0,none⟩)] [Blk b0_ 34 (c34' p0 A0_0 c0_0 A0_1 c0_1 A0_2 c0_2 A0_3 c0_3),Buf k55 55 A0_0 c0_0 p0.f0.f2,bl' 3 A0_1 c0_1 p0.f7,Buf k55 55 A0_2 c0_2 p0.f16.f2,bw' 21 A0_3 c0_3 p0.f17,Blk b1_ 3 [il' p1],Blk b2_ 3 [il' p2]] (fun v B=>∃ P0_0_ q0_0_ P0_1_ q0_1_ P0_2_ q0_2_ P0_3_ q0_3_,v = .tuple #[]∧B = [Blk b0_ 34 (c34' r P0_0_ q0_0_ P0_1_ q0_1_ P0_2_ q0_2_ P0_3_ q0_3_),Buf k55 55 P0_0_ q0_0_ r.f0.f2,bl' 3 P0_1_ q0_1_ r.f7,Buf k55 55 P0_2_ q0_2_ r.f16.f2,bw' 21 P0_3_ q0_3_ r.f17,Blk b1_ 3 [il' p1],Blk b2_ 3 [il' p2]]):=by
 refine SCA_of_body Tryz.func88 rfl rfl ?_
 unfold F88Lb_0_.f at H
 refine qr' ?_
 refine o' (bx' fun b8=>?_)
 refine na' ?_
 refine fc' 1 fun hc10=>?_
 refine fc' 2 fun hc11=>?_
 refine fc' 3 fun hc12=>?_
 refine fc' 4 fun hc13=>?_
 refine SA_region ?_
 refine l' (lA' b8 0 7 [pt' b0_]) ?_
 refine l' (ld' b1_ 0 5) ?_
 refine l' (ld' b2_ 0 6) ?_
 obtain⟨r14,C27,H⟩:=g_bind H
 refine o' (ca' [0,1,2,3,4] [5,6,7] (xf' [.agg #[pt' b0_],il' p1,il' p2]) (F89Lb_0_.ok (b0_:=b0_) (p0:=p0) (a1:=p1) (a2:=p2) C27) ?_)
 rintro _ _⟨A15,c16,A18,c19,A21,c22,A24,c25,rfl,rfl⟩
 refine RA_nil ?_
 have h_:=oi' H;subst h_
 exact bn' [0,1,2,3,4,5,6] ⟨A15,c16,A18,c19,A21,c22,A24,c25,rfl,rfl⟩


def F62f88xx_1_.f (k : Nat) (a0 : S34) (p2000 : Int) (p2001 : Int) : Option (S34 × Int):=(F16b0.f k a0).bind (fun r11=>if (!r11) = true then (some (((S34.mk (S26.mk 0 0 ([] : (List S55))) 0 0 false (S28.mk 0 0 false false false false false false false false) 0 0 ([] : (List Int)) false false false false false false (S31.mk 0 0 false false (S28.mk 0 0 false false false false false false false false)) false (S26.mk 0 0 ([] : (List S55))) ([] : (List Int))),2))) else ((F97.f a0).bind (fun r17=>(F88Lb_0_.f r17 p2000 p2001).bind (fun r30=>some ((r30,0))))))
theorem F62f88xx_1_.ok {a0 : S34} {p2000 : Int} {p2001 : Int} {r : S34 × Int} (H : F62f88xx_1_.f k a0 p2000 p2001 = some r) : SCA Tryz.prog 62 #[.agg (c34' a0 A0_0 c0_0 A0_1 c0_1 A0_2 c0_2 A0_3 c0_3).toArray,.func (.func 88) #[] #[.pointer (some ⟨b2000_,0,none⟩),.pointer (some ⟨b2001_,0,none⟩)]] [Ro k55 A0_0 c0_0 a0.f0.f2,rl' A0_1 c0_1 a0.f7,Ro k55 A0_2 c0_2 a0.f16.f2,rw' A0_3 c0_3 a0.f17,Blk b2000_ 3 [il' p2000],Blk b2001_ 3 [il' p2001]] (fun v B=>∃ A0_0_ c0_0_ A0_1_ c0_1_ A0_2_ c0_2_ A0_3_ c0_3_,v = .tuple #[.agg (c34' r.1 A0_0_ c0_0_ A0_1_ c0_1_ A0_2_ c0_2_ A0_3_ c0_3_).toArray,il' r.2]∧B = [Buf k55 55 A0_0_ c0_0_ r.1.f0.f2,bl' 3 A0_1_ c0_1_ r.1.f7,Buf k55 55 A0_2_ c0_2_ r.1.f16.f2,bw' 21 A0_3_ c0_3_ r.1.f17,Blk b2000_ 3 [il' p2000],Blk b2001_ 3 [il' p2001]]):=by
 refine SCA_of_body Tryz.func62 rfl rfl ?_
 unfold F62f88xx_1_.f at H
 refine qr' ?_
 refine o' (bx' fun b7=>?_)
 refine o' (al' fun b9=>?_)
 refine s' (il' 0) as' ?_
 refine nq' ?_
 refine l' (lA' b7 0 6 (c34' a0 A0_0 c0_0 A0_1 c0_1 A0_2 c0_2 A0_3 c0_3)) ?_
 obtain⟨r11,C45,H⟩:=g_bind H
 refine o' (ca' [0,1,2,3] [0,1,2,3,4,5,6,7] (xf' [.agg (c34' a0 A0_0 c0_0 A0_1 c0_1 A0_2 c0_2 A0_3 c0_3).toArray]) (F16.ok (a0:=a0) C45) ?_)
 rintro _ _⟨rfl,rfl⟩
 refine s' (.bool (!r11)) (V_not rfl) ?_
 refine na' ?_
 by_cases h12 : (!r11) = true
 ·replace H:=g_ift h12 H
  refine SA_condTb rfl h12 ?_
  refine qr' ?_
  refine s' (.agg (c34' z34' none 0 none 0 none 0 none 0).toArray) bd' ?_
  refine o' (su' b9 0 7 (c34' z34' none 0 none 0 none 0 none 0) ?_)
  refine s' (il' 2) as' ?_
  refine ntt' ?_
  have h_:=oi' H;subst h_
  exact BQ_RL (rs:=[.cell 4 34,.tmp 5]) (vs:=[.agg (c34' z34' none 0 none 0 none 0 none 0).toArray,il' 2]) [Buf k55 55 none 0 ([] : (List S55)),bl' 3 none 0 ([] : (List Int)),Buf k55 55 none 0 ([] : (List S55)),bw' 21 none 0 ([] : (List Int)),Blk b2000_ 3 [il' p2000],Blk b2001_ 3 [il' p2001]] rfl ⟨RV.cell (k:=7) rfl rfl Tryz.underlying34 rfl sz34,RV.tmp rfl,trivial⟩ rfl ((Gh.nilBuf k55 55).trans ((Gh.nilBuf (Kd.int .i64) 3).trans ((Gh.nilBuf k55 55).trans ((Gh.nilBuf (Kd.int .i32) 21).trans (gs' [8,9,10,11,4,5]))))) ⟨none,0,none,0,none,0,none,0,rfl,rfl⟩
 replace H:=g_iff h12 H
 refine SA_condFb rfl h12 ?_
 refine SA_skip (at_normal (qr' ?_))
 refine l' (lA' b7 0 6 (c34' a0 A0_0 c0_0 A0_1 c0_1 A0_2 c0_2 A0_3 c0_3)) ?_
 obtain⟨r17,C44,H⟩:=g_bind H
 refine o' (ca' [0,1,2,3] [0,1,2,3,4,5,6,7] (xf' [.agg (c34' a0 A0_0 c0_0 A0_1 c0_1 A0_2 c0_2 A0_3 c0_3).toArray]) (F97.ok (a0:=a0) C44) ?_)
 rintro _ _⟨A18,c19,A21,c22,A24,c25,A27,c28,rfl,rfl⟩
 refine o' (su' b7 0 10 (c34' r17 A18 c19 A21 c22 A24 c25 A27 c28) ?_)
 refine nr' ?_
 refine s' (.func (.func 88) #[] #[pt' b2000_,pt' b2001_]) mv' ?_
 refine s' (.agg #[pt' b7]) bd' ?_
 obtain⟨r30,C43,H⟩:=g_bind H
 refine o' (ca' [10,0,1,2,3,8,9] [4,5,6,7,11] (X_fnV (vs:=[.agg #[pt' b7]]) (cap:=[pt' b2000_,pt' b2001_]) rfl Tryz.func88 nm88 rfl rfl) (F88Lb_0_.ok (b0_:=b7) (p0:=r17) (b1_:=b2000_) (p1:=p2000) (b2_:=b2001_) (p2:=p2001) C43) ?_)
 rintro _ _⟨A31,c32,A34,c35,A37,c38,A40,c41,rfl,rfl⟩
 refine nr' ?_
 refine l' (lA' b7 0 0 (c34' r30 A31 c32 A34 c35 A37 c38 A40 c41)) ?_
 refine o' (su' b9 0 11 (c34' r30 A31 c32 A34 c35 A37 c38 A40 c41) ?_)
 refine s' (il' 0) as' ?_
 refine nt' ?_
 have h_:=oi' H;subst h_
 exact b2' [.cell 4 34,.tmp 5] [1,2,3,4,5,6] ⟨A31,c32,A34,c35,A37,c38,A40,c41,rfl,rfl⟩ ⟨RV.cell (k:=11) rfl rfl Tryz.underlying34 rfl sz34,RV.tmp rfl,trivial⟩


def F35.f (k : Nat) (a0 : S34) (a1 : Int) (a2 : Int) : Option (S34 × Int):=(F62f88xx_1_.f k a0 a1 a2).bind (fun r13=>some ((r13.1,r13.2)))
theorem F35.ok {a0 : S34} {a1 : Int} {a2 : Int} {r : S34 × Int} (H : F35.f k a0 a1 a2 = some r) : SCA Tryz.prog 35 #[.agg (c34' a0 A0_0 c0_0 A0_1 c0_1 A0_2 c0_2 A0_3 c0_3).toArray,il' a1,il' a2] [Ro k55 A0_0 c0_0 a0.f0.f2,rl' A0_1 c0_1 a0.f7,Ro k55 A0_2 c0_2 a0.f16.f2,rw' A0_3 c0_3 a0.f17] (fun v B=>∃ A0_0_ c0_0_ A0_1_ c0_1_ A0_2_ c0_2_ A0_3_ c0_3_,v = .tuple #[.agg (c34' r.1 A0_0_ c0_0_ A0_1_ c0_1_ A0_2_ c0_2_ A0_3_ c0_3_).toArray,il' r.2]∧B = [Buf k55 55 A0_0_ c0_0_ r.1.f0.f2,bl' 3 A0_1_ c0_1_ r.1.f7,Buf k55 55 A0_2_ c0_2_ r.1.f16.f2,bw' 21 A0_3_ c0_3_ r.1.f17]):=by
 refine SCA_of_body Tryz.func35 rfl rfl ?_
 unfold F35.f at H
 refine qr' ?_
 refine o' (bx' fun b5=>?_)
 refine o' (bx' fun b7=>?_)
 refine o' (bx' fun b9=>?_)
 refine o' (al' fun b11=>?_)
 refine s' (il' 0) as' ?_
 refine nr' ?_
 refine l' (lA' b5 0 4 (c34' a0 A0_0 c0_0 A0_1 c0_1 A0_2 c0_2 A0_3 c0_3)) ?_
 refine s' (.func (.func 88) #[] #[pt' b7,pt' b9]) (V_makeFuncL (us:=[pt' b7,pt' b9]) rfl) ?_
 obtain⟨r13,C26,H⟩:=g_bind H
 refine o' (ca' [0,1,2,3,5,6] [0,1,2,3,4,7] (xf' [.agg (c34' a0 A0_0 c0_0 A0_1 c0_1 A0_2 c0_2 A0_3 c0_3).toArray,.func (.func 88) #[] #[pt' b7,pt' b9]]) (F62f88xx_1_.ok (a0:=a0) (b2000_:=b7) (p2000:=a1) (b2001_:=b9) (p2001:=a2) C26) ?_)
 rintro _ _⟨A14,c15,A17,c18,A20,c21,A23,c24,rfl,rfl⟩
 refine s' (.agg (c34' r13.1 A14 c15 A17 c18 A20 c21 A23 c24).toArray) ex' ?_
 refine s' (il' r13.2) ex' ?_
 refine o' (su' b11 0 11 (c34' r13.1 A14 c15 A17 c18 A20 c21 A23 c24) ?_)
 refine s' (il' r13.2) as' ?_
 refine nt' ?_
 have h_:=oi' H;subst h_
 exact b2' [.cell 6 34,.tmp 7] [0,1,2,3] ⟨A14,c15,A17,c18,A20,c21,A23,c24,rfl,rfl⟩ ⟨RV.cell (k:=11) rfl rfl Tryz.underlying34 rfl sz34,RV.tmp rfl,trivial⟩


def F64Lb_0_.f (p0 : S34) (a1 : Bool) : Option (S34):=if a1 = true then (some (({ p0 with f1:=p0.f14.f0,f2:=p0.f14.f1,f3:=p0.f14.f2,f4:=p0.f14.f4,f9:=p0.f14.f3 }))) else (some (({ p0 with f14:=(S31.mk p0.f1 p0.f2 p0.f3 p0.f9 p0.f4) })))
theorem F64Lb_0_.ok {p0 : S34} {a1 : Bool} {r : S34} (H : F64Lb_0_.f p0 a1 = some r) : SCA Tryz.prog 64 #[.agg #[.pointer (some ⟨b0_,0,none⟩)],.bool a1] [Blk b0_ 34 (c34' p0 A0_0 c0_0 A0_1 c0_1 A0_2 c0_2 A0_3 c0_3),Buf k55 55 A0_0 c0_0 p0.f0.f2,bl' 3 A0_1 c0_1 p0.f7,Buf k55 55 A0_2 c0_2 p0.f16.f2,bw' 21 A0_3 c0_3 p0.f17] (fun v B=>∃ P0_0_ q0_0_ P0_1_ q0_1_ P0_2_ q0_2_ P0_3_ q0_3_,v = .tuple #[]∧B = [Blk b0_ 34 (c34' r P0_0_ q0_0_ P0_1_ q0_1_ P0_2_ q0_2_ P0_3_ q0_3_),Buf k55 55 P0_0_ q0_0_ r.f0.f2,bl' 3 P0_1_ q0_1_ r.f7,Buf k55 55 P0_2_ q0_2_ r.f16.f2,bw' 21 P0_3_ q0_3_ r.f17]):=by
 refine SCA_of_body Tryz.func64 rfl rfl ?_
 unfold F64Lb_0_.f at H
 refine qr' ?_
 refine o' (bx' fun b6=>?_)
 refine nq' ?_
 refine s' (.bool a1) mv' ?_
 refine na' ?_
 by_cases h8 : a1 = true
 ·replace H:=g_ift h8 H
  refine SA_condTb rfl h8 ?_
  refine qr' ?_
  refine s' (pt' b6) (fa' b6 0 0) ?_
  refine l' (ld' b6 0 5) ?_
  refine s' (pt' b0_) nc' ?_
  refine s' (pa' b0_ 25) (fa' b0_ 0 25) ?_
  refine l' (lA' b0_ 25 0 (c31' p0.f14)) ?_
  refine o' (al' fun b9=>?_)
  refine o' (su' b9 0 6 (c31' p0.f14) ?_)
  refine na' (SA_seq ?_)
  refine SA_drawHq (0::1::2::3::4::5::6::7::8::9::10::11::12::13::14::15::16::17::18::19::20::21::23::24::26::27::29::30::32::33::[]) (List.toArray ([]::[0]::[]::[2]::[]::[4]::[]::[6]::[]::[8]::[]::[10]::[]::[12]::[]::[14]::[]::[16]::[]::[18]::[0,1,10,11]::[0,1,10,11,20]::[0,1,10,11,20,21]::[0,1,2,3,10,11,12,13,20,21]::[0,1,2,3,10,11,12,13,20,21,23]::[0,1,2,3,10,11,12,13,20,21,23,24]::(0::1::2::3::4::5::10::11::12::13::14::15::20::21::23::24::[])::(0::1::2::3::4::5::10::11::12::13::14::15::20::21::23::24::26::[])::(0::1::2::3::4::5::10::11::12::13::14::15::20::21::23::24::26::27::[])::(0::1::2::3::4::5::6::7::10::11::12::13::14::15::16::17::20::21::23::24::26::27::[])::(0::1::2::3::4::5::6::7::10::11::12::13::14::15::16::17::20::21::23::24::26::27::29::[])::(0::1::2::3::4::5::6::7::10::11::12::13::14::15::16::17::20::21::23::24::26::27::29::30::[])::(0::1::2::3::4::5::6::7::8::9::10::11::12::13::14::15::16::17::18::19::20::21::23::24::26::27::29::30::[])::(0::1::2::3::4::5::6::7::8::9::10::11::12::13::14::15::16::17::18::19::20::21::23::24::26::27::29::30::32::[])::(0::1::2::3::4::5::6::7::8::9::10::11::12::13::14::15::16::17::18::19::20::21::23::24::26::27::29::30::32::33::[])::[])) [5,6] (rg' 0 5) mixed rfl rfl rfl (PanOk.thn (PanOk.thn PanOk.body)) fun I0 hS h0 hh0 w0 sH dd pk=>?_
  refine t' (pt' b6) 0 rfl sH (fa' b6 0 0) ?_
  refine r' 1 rfl sH (ld' b6 0 0) ?_
  refine t' (pt' b6) 2 rfl sH (fa' b6 0 0) ?_
  refine r' 3 rfl sH (ld' b6 0 0) ?_
  refine t' (pt' b6) 4 rfl sH (fa' b6 0 0) ?_
  refine r' 5 rfl sH (ld' b6 0 0) ?_
  refine t' (pt' b6) 6 rfl sH (fa' b6 0 0) ?_
  refine r' 7 rfl sH (ld' b6 0 0) ?_
  refine t' (pt' b6) 8 rfl sH (fa' b6 0 0) ?_
  refine r' 9 rfl sH (ld' b6 0 0) ?_
  refine t' (pt' b9) 10 rfl sH (fa' b9 0 0) ?_
  refine r' 11 rfl sH (ld' b9 0 1) ?_
  refine t' (pa' b9 1) 12 rfl sH (fa' b9 0 1) ?_
  refine r' 13 rfl sH (ld' b9 1 1) ?_
  refine t' (pa' b9 2) 14 rfl sH (fa' b9 0 2) ?_
  refine r' 15 rfl sH (ld' b9 2 1) ?_
  refine t' (pa' b9 3) 16 rfl sH (fa' b9 0 3) ?_
  refine r' 17 rfl sH (ld' b9 3 1) ?_
  refine t' (pa' b9 4) 18 rfl sH (fa' b9 0 4) ?_
  refine r' 19 rfl sH (lA' b9 4 1 (c28' p0.f14.f4)) ?_
  refine t' (pt' b0_) 20 rfl sH nc' ?_
  refine t' (pa' b0_ 3) 21 rfl sH (fa' b0_ 0 3) ?_
  refine DH_one 22 dd (by kernel_rfl) rfl (.no rfl) (st' b0_ 3 0 [il' p0.f14.f0] (c34' ({ p0 with f1:=p0.f14.f0 }) A0_0 c0_0 A0_1 c0_1 A0_2 c0_2 A0_3 c0_3) ?_)
  refine t' (pt' b0_) 23 rfl sH nc' ?_
  refine t' (pa' b0_ 4) 24 rfl sH (fa' b0_ 0 4) ?_
  refine DH_one 25 dd (by kernel_rfl) rfl (.no rfl) (st' b0_ 4 0 [il' p0.f14.f1] (c34' ({ p0 with f1:=p0.f14.f0,f2:=p0.f14.f1 }) A0_0 c0_0 A0_1 c0_1 A0_2 c0_2 A0_3 c0_3) ?_)
  refine t' (pt' b0_) 26 rfl sH nc' ?_
  refine t' (pa' b0_ 5) 27 rfl sH (fa' b0_ 0 5) ?_
  refine DH_one 28 dd (by kernel_rfl) rfl (.no rfl) (st' b0_ 5 0 [.bool p0.f14.f2] (c34' ({ p0 with f1:=p0.f14.f0,f2:=p0.f14.f1,f3:=p0.f14.f2 }) A0_0 c0_0 A0_1 c0_1 A0_2 c0_2 A0_3 c0_3) ?_)
  refine t' (pt' b0_) 29 rfl sH nc' ?_
  refine t' (pa' b0_ 20) 30 rfl sH (fa' b0_ 0 20) ?_
  refine DH_one 31 dd (by kernel_rfl) rfl (.no rfl) (st' b0_ 20 0 [.bool p0.f14.f3] (c34' ({ p0 with f1:=p0.f14.f0,f2:=p0.f14.f1,f3:=p0.f14.f2,f9:=p0.f14.f3 }) A0_0 c0_0 A0_1 c0_1 A0_2 c0_2 A0_3 c0_3) ?_)
  refine t' (pt' b0_) 32 rfl sH nc' ?_
  refine t' (pa' b0_ 6) 33 rfl sH (fa' b0_ 0 6) ?_
  refine DH_one 34 dd (by kernel_rfl) rfl (.no rfl) (st' b0_ 6 0 (c28' p0.f14.f4) (c34' ({ p0 with f1:=p0.f14.f0,f2:=p0.f14.f1,f3:=p0.f14.f2,f4:=p0.f14.f4,f9:=p0.f14.f3 }) A0_0 c0_0 A0_1 c0_1 A0_2 c0_2 A0_3 c0_3) ?_)
  refine DH_open dd sH ?_
  refine DN_done (by kernel_rfl) ?_
  refine at_normal (SA_ret (thn_ret ?_))
  have h_:=oi' H;subst h_
  exact BQ_R0 [Blk b0_ 34 (c34' ({ p0 with f1:=p0.f14.f0,f2:=p0.f14.f1,f3:=p0.f14.f2,f4:=p0.f14.f4,f9:=p0.f14.f3 }) A0_0 c0_0 A0_1 c0_1 A0_2 c0_2 A0_3 c0_3),Buf k55 55 A0_0 c0_0 p0.f0.f2,bl' 3 A0_1 c0_1 p0.f7,Buf k55 55 A0_2 c0_2 p0.f16.f2,bw' 21 A0_3 c0_3 p0.f17] rfl (gs' [2,3,4,5,6]) ⟨A0_0,c0_0,A0_1,c0_1,A0_2,c0_2,A0_3,c0_3,rfl,rfl⟩
 replace H:=g_iff h8 H
 refine SA_condFb rfl h8 ?_
 refine SA_skip (at_normal ?_)
 refine SA_drawHq (rg' 0 30) (List.toArray ([]::[0]::[]::[2]::[2,3]::[2,3,4]::(rg' 2 4)::[]::[7]::[7,8]::[7,8,9]::(rg' 7 4)::[]::[12]::[12,13]::[12,13,14]::(rg' 12 4)::[]::[17]::[17,18]::[17,18,19]::(rg' 17 4)::[]::[22]::[22,23]::[22,23,24]::(rg' 22 4)::(rg' 2 25)::(rg' 0 28)::(rg' 0 29)::(rg' 0 30)::[])) [0,5] (rg' 1 4) mixed rfl rfl rfl PanOk.body fun I0 hS h0 hh0 w0 sH dd pk=>?_
 refine t' (pt' b6) 0 rfl sH (fa' b6 0 0) ?_
 refine r' 1 rfl sH (ld' b6 0 1) ?_
 refine t' (pt' b6) 2 rfl sH (fa' b6 0 0) ?_
 refine r' 3 rfl sH (ld' b6 0 1) ?_
 refine t' (pt' b0_) 4 rfl sH nc' ?_
 refine t' (pa' b0_ 3) 5 rfl sH (fa' b0_ 0 3) ?_
 refine r' 6 rfl sH (ld' b0_ 3 0) ?_
 refine t' (pt' b6) 7 rfl sH (fa' b6 0 0) ?_
 refine r' 8 rfl sH (ld' b6 0 1) ?_
 refine t' (pt' b0_) 9 rfl sH nc' ?_
 refine t' (pa' b0_ 4) 10 rfl sH (fa' b0_ 0 4) ?_
 refine r' 11 rfl sH (ld' b0_ 4 0) ?_
 refine t' (pt' b6) 12 rfl sH (fa' b6 0 0) ?_
 refine r' 13 rfl sH (ld' b6 0 1) ?_
 refine t' (pt' b0_) 14 rfl sH nc' ?_
 refine t' (pa' b0_ 5) 15 rfl sH (fa' b0_ 0 5) ?_
 refine r' 16 rfl sH (ld' b0_ 5 0) ?_
 refine t' (pt' b6) 17 rfl sH (fa' b6 0 0) ?_
 refine r' 18 rfl sH (ld' b6 0 1) ?_
 refine t' (pt' b0_) 19 rfl sH nc' ?_
 refine t' (pa' b0_ 20) 20 rfl sH (fa' b0_ 0 20) ?_
 refine r' 21 rfl sH (ld' b0_ 20 0) ?_
 refine t' (pt' b6) 22 rfl sH (fa' b6 0 0) ?_
 refine r' 23 rfl sH (ld' b6 0 1) ?_
 refine t' (pt' b0_) 24 rfl sH nc' ?_
 refine t' (pa' b0_ 6) 25 rfl sH (fa' b0_ 0 6) ?_
 refine r' 26 rfl sH (lA' b0_ 6 0 (c28' p0.f4)) ?_
 refine t' (.agg (c31' (S31.mk p0.f1 p0.f2 p0.f3 p0.f9 p0.f4)).toArray) 27 rfl sH bd' ?_
 refine t' (pt' b0_) 28 rfl sH nc' ?_
 refine t' (pa' b0_ 25) 29 rfl sH (fa' b0_ 0 25) ?_
 refine DH_open dd sH ?_
 refine DN_one 30 (by kernel_rfl) rfl rfl (.no rfl) (st' b0_ 25 0 (c31' (S31.mk p0.f1 p0.f2 p0.f3 p0.f9 p0.f4)) (c34' ({ p0 with f14:=(S31.mk p0.f1 p0.f2 p0.f3 p0.f9 p0.f4) }) A0_0 c0_0 A0_1 c0_1 A0_2 c0_2 A0_3 c0_3) ?_)
 refine DN_done (by kernel_rfl) ?_
 have h_:=oi' H;subst h_
 exact bn' [0,2,3,4,5] ⟨A0_0,c0_0,A0_1,c0_1,A0_2,c0_2,A0_3,c0_3,rfl,rfl⟩


def F63Lb_0_.f (p0 : S34) (p1 : Bool) : Option (S34):=(F64Lb_0_.f p0 p1).bind (fun r13=>some (r13))
theorem F63Lb_0_.ok {p0 : S34} {p1 : Bool} {r : S34} (H : F63Lb_0_.f p0 p1 = some r) : SCA Tryz.prog 63 #[.agg #[.pointer (some ⟨b0_,0,none⟩)],.pointer (some ⟨b1_,0,none⟩)] [Blk b0_ 34 (c34' p0 A0_0 c0_0 A0_1 c0_1 A0_2 c0_2 A0_3 c0_3),Buf k55 55 A0_0 c0_0 p0.f0.f2,bl' 3 A0_1 c0_1 p0.f7,Buf k55 55 A0_2 c0_2 p0.f16.f2,bw' 21 A0_3 c0_3 p0.f17,Blk b1_ 4 [.bool p1]] (fun v B=>∃ P0_0_ q0_0_ P0_1_ q0_1_ P0_2_ q0_2_ P0_3_ q0_3_,v = .tuple #[]∧B = [Blk b0_ 34 (c34' r P0_0_ q0_0_ P0_1_ q0_1_ P0_2_ q0_2_ P0_3_ q0_3_),Buf k55 55 P0_0_ q0_0_ r.f0.f2,bl' 3 P0_1_ q0_1_ r.f7,Buf k55 55 P0_2_ q0_2_ r.f16.f2,bw' 21 P0_3_ q0_3_ r.f17,Blk b1_ 4 [.bool p1]]):=by
 refine SCA_of_body Tryz.func63 rfl rfl ?_
 unfold F63Lb_0_.f at H
 refine qr' ?_
 refine o' (bx' fun b7=>?_)
 refine na' ?_
 refine fc' 1 fun hc9=>?_
 refine fc' 2 fun hc10=>?_
 refine fc' 3 fun hc11=>?_
 refine fc' 4 fun hc12=>?_
 refine SA_region ?_
 refine l' (lA' b7 0 6 [pt' b0_]) ?_
 refine l' (ld' b1_ 0 5) ?_
 obtain⟨r13,C26,H⟩:=g_bind H
 refine o' (ca' [0,1,2,3,4] [5,6] (xf' [.agg #[pt' b0_],.bool p1]) (F64Lb_0_.ok (b0_:=b0_) (p0:=p0) (a1:=p1) C26) ?_)
 rintro _ _⟨A14,c15,A17,c18,A20,c21,A23,c24,rfl,rfl⟩
 refine RA_nil ?_
 have h_:=oi' H;subst h_
 exact bn' [0,1,2,3,4,5] ⟨A14,c15,A17,c18,A20,c21,A23,c24,rfl,rfl⟩


def F62f63x_1_.f (k : Nat) (a0 : S34) (p2000 : Bool) : Option (S34 × Int):=(F16b0.f k a0).bind (fun r10=>if (!r10) = true then (some (((S34.mk (S26.mk 0 0 ([] : (List S55))) 0 0 false (S28.mk 0 0 false false false false false false false false) 0 0 ([] : (List Int)) false false false false false false (S31.mk 0 0 false false (S28.mk 0 0 false false false false false false false false)) false (S26.mk 0 0 ([] : (List S55))) ([] : (List Int))),2))) else ((F97.f a0).bind (fun r16=>(F63Lb_0_.f r16 p2000).bind (fun r29=>some ((r29,0))))))
theorem F62f63x_1_.ok {a0 : S34} {p2000 : Bool} {r : S34 × Int} (H : F62f63x_1_.f k a0 p2000 = some r) : SCA Tryz.prog 62 #[.agg (c34' a0 A0_0 c0_0 A0_1 c0_1 A0_2 c0_2 A0_3 c0_3).toArray,.func (.func 63) #[] #[.pointer (some ⟨b2000_,0,none⟩)]] [Ro k55 A0_0 c0_0 a0.f0.f2,rl' A0_1 c0_1 a0.f7,Ro k55 A0_2 c0_2 a0.f16.f2,rw' A0_3 c0_3 a0.f17,Blk b2000_ 4 [.bool p2000]] (fun v B=>∃ A0_0_ c0_0_ A0_1_ c0_1_ A0_2_ c0_2_ A0_3_ c0_3_,v = .tuple #[.agg (c34' r.1 A0_0_ c0_0_ A0_1_ c0_1_ A0_2_ c0_2_ A0_3_ c0_3_).toArray,il' r.2]∧B = [Buf k55 55 A0_0_ c0_0_ r.1.f0.f2,bl' 3 A0_1_ c0_1_ r.1.f7,Buf k55 55 A0_2_ c0_2_ r.1.f16.f2,bw' 21 A0_3_ c0_3_ r.1.f17,Blk b2000_ 4 [.bool p2000]]):=by
 refine SCA_of_body Tryz.func62 rfl rfl ?_
 unfold F62f63x_1_.f at H
 refine qr' ?_
 refine o' (bx' fun b6=>?_)
 refine o' (al' fun b8=>?_)
 refine s' (il' 0) as' ?_
 refine nq' ?_
 refine l' (lA' b6 0 5 (c34' a0 A0_0 c0_0 A0_1 c0_1 A0_2 c0_2 A0_3 c0_3)) ?_
 obtain⟨r10,C44,H⟩:=g_bind H
 refine o' (ca' [0,1,2,3] [0,1,2,3,4,5,6] (xf' [.agg (c34' a0 A0_0 c0_0 A0_1 c0_1 A0_2 c0_2 A0_3 c0_3).toArray]) (F16.ok (a0:=a0) C44) ?_)
 rintro _ _⟨rfl,rfl⟩
 refine s' (.bool (!r10)) (V_not rfl) ?_
 refine na' ?_
 by_cases h11 : (!r10) = true
 ·replace H:=g_ift h11 H
  refine SA_condTb rfl h11 ?_
  refine qr' ?_
  refine s' (.agg (c34' z34' none 0 none 0 none 0 none 0).toArray) bd' ?_
  refine o' (su' b8 0 6 (c34' z34' none 0 none 0 none 0 none 0) ?_)
  refine s' (il' 2) as' ?_
  refine ntt' ?_
  have h_:=oi' H;subst h_
  exact BQ_RL (rs:=[.cell 4 34,.tmp 5]) (vs:=[.agg (c34' z34' none 0 none 0 none 0 none 0).toArray,il' 2]) [Buf k55 55 none 0 ([] : (List S55)),bl' 3 none 0 ([] : (List Int)),Buf k55 55 none 0 ([] : (List S55)),bw' 21 none 0 ([] : (List Int)),Blk b2000_ 4 [.bool p2000]] rfl ⟨RV.cell (k:=6) rfl rfl Tryz.underlying34 rfl sz34,RV.tmp rfl,trivial⟩ rfl ((Gh.nilBuf k55 55).trans ((Gh.nilBuf (Kd.int .i64) 3).trans ((Gh.nilBuf k55 55).trans ((Gh.nilBuf (Kd.int .i32) 21).trans (gs' [7,8,9,10,4]))))) ⟨none,0,none,0,none,0,none,0,rfl,rfl⟩
 replace H:=g_iff h11 H
 refine SA_condFb rfl h11 ?_
 refine SA_skip (at_normal (qr' ?_))
 refine l' (lA' b6 0 5 (c34' a0 A0_0 c0_0 A0_1 c0_1 A0_2 c0_2 A0_3 c0_3)) ?_
 obtain⟨r16,C43,H⟩:=g_bind H
 refine o' (ca' [0,1,2,3] [0,1,2,3,4,5,6] (xf' [.agg (c34' a0 A0_0 c0_0 A0_1 c0_1 A0_2 c0_2 A0_3 c0_3).toArray]) (F97.ok (a0:=a0) C43) ?_)
 rintro _ _⟨A17,c18,A20,c21,A23,c24,A26,c27,rfl,rfl⟩
 refine o' (su' b6 0 9 (c34' r16 A17 c18 A20 c21 A23 c24 A26 c27) ?_)
 refine nr' ?_
 refine s' (.func (.func 63) #[] #[pt' b2000_]) mv' ?_
 refine s' (.agg #[pt' b6]) bd' ?_
 obtain⟨r29,C42,H⟩:=g_bind H
 refine o' (ca' [9,0,1,2,3,8] [4,5,6,7,10] (X_fnV (vs:=[.agg #[pt' b6]]) (cap:=[pt' b2000_]) rfl Tryz.func63 nm63 rfl rfl) (F63Lb_0_.ok (b0_:=b6) (p0:=r16) (b1_:=b2000_) (p1:=p2000) C42) ?_)
 rintro _ _⟨A30,c31,A33,c34,A36,c37,A39,c40,rfl,rfl⟩
 refine nr' ?_
 refine l' (lA' b6 0 0 (c34' r29 A30 c31 A33 c34 A36 c37 A39 c40)) ?_
 refine o' (su' b8 0 10 (c34' r29 A30 c31 A33 c34 A36 c37 A39 c40) ?_)
 refine s' (il' 0) as' ?_
 refine nt' ?_
 have h_:=oi' H;subst h_
 exact b2' [.cell 4 34,.tmp 5] [1,2,3,4,5] ⟨A30,c31,A33,c34,A36,c37,A39,c40,rfl,rfl⟩ ⟨RV.cell (k:=10) rfl rfl Tryz.underlying34 rfl sz34,RV.tmp rfl,trivial⟩


def F17.f (k : Nat) (a0 : S34) (a1 : Bool) : Option (S34 × Int):=(F62f63x_1_.f k a0 a1).bind (fun r11=>some ((r11.1,r11.2)))
theorem F17.ok {a0 : S34} {a1 : Bool} {r : S34 × Int} (H : F17.f k a0 a1 = some r) : SCA Tryz.prog 17 #[.agg (c34' a0 A0_0 c0_0 A0_1 c0_1 A0_2 c0_2 A0_3 c0_3).toArray,.bool a1] [Ro k55 A0_0 c0_0 a0.f0.f2,rl' A0_1 c0_1 a0.f7,Ro k55 A0_2 c0_2 a0.f16.f2,rw' A0_3 c0_3 a0.f17] (fun v B=>∃ A0_0_ c0_0_ A0_1_ c0_1_ A0_2_ c0_2_ A0_3_ c0_3_,v = .tuple #[.agg (c34' r.1 A0_0_ c0_0_ A0_1_ c0_1_ A0_2_ c0_2_ A0_3_ c0_3_).toArray,il' r.2]∧B = [Buf k55 55 A0_0_ c0_0_ r.1.f0.f2,bl' 3 A0_1_ c0_1_ r.1.f7,Buf k55 55 A0_2_ c0_2_ r.1.f16.f2,bw' 21 A0_3_ c0_3_ r.1.f17]):=by
 refine SCA_of_body Tryz.func17 rfl rfl ?_
 unfold F17.f at H
 refine qr' ?_
 refine o' (bx' fun b5=>?_)
 refine o' (bx' fun b7=>?_)
 refine o' (al' fun b9=>?_)
 refine s' (il' 0) as' ?_
 refine nr' ?_
 refine l' (lA' b5 0 4 (c34' a0 A0_0 c0_0 A0_1 c0_1 A0_2 c0_2 A0_3 c0_3)) ?_
 refine s' (.func (.func 63) #[] #[pt' b7]) (V_makeFuncL (us:=[pt' b7]) rfl) ?_
 obtain⟨r11,C24,H⟩:=g_bind H
 refine o' (ca' [0,1,2,3,5] [0,1,2,3,4,6] (xf' [.agg (c34' a0 A0_0 c0_0 A0_1 c0_1 A0_2 c0_2 A0_3 c0_3).toArray,.func (.func 63) #[] #[pt' b7]]) (F62f63x_1_.ok (a0:=a0) (b2000_:=b7) (p2000:=a1) C24) ?_)
 rintro _ _⟨A12,c13,A15,c16,A18,c19,A21,c22,rfl,rfl⟩
 refine s' (.agg (c34' r11.1 A12 c13 A15 c16 A18 c19 A21 c22).toArray) ex' ?_
 refine s' (il' r11.2) ex' ?_
 refine o' (su' b9 0 10 (c34' r11.1 A12 c13 A15 c16 A18 c19 A21 c22) ?_)
 refine s' (il' r11.2) as' ?_
 refine nt' ?_
 have h_:=oi' H;subst h_
 exact b2' [.cell 4 34,.tmp 5] [0,1,2,3] ⟨A12,c13,A15,c16,A18,c19,A21,c22,rfl,rfl⟩ ⟨RV.cell (k:=10) rfl rfl Tryz.underlying34 rfl sz34,RV.tmp rfl,trivial⟩

end Go.Proofs.YtckilbegmbaeeaaGreat.Z5

/- What functions compute, and that they do: 37, 62f92x_1_, 62f94x_1_, 92Lb_0_, 93Lb_0_, 94Lb_0_, 95Lb_0_. -/
import Derived.Test.YtckilbegmbaeeaaGreatZ40
import Derived.Test.YtckilbegmbaeeaaGreatZ45
import Derived.Test.YtckilbegmbaeeaaGreatZ46
import Derived.Test.YtckilbegmbaeeaaGreatZ411
import Derived.Test.YtckilbegmbaeeaaGreatZ412
import Derived.Test.YtckilbegmbaeeaaGreatZ413
import Derived.Test.YtckilbegmbaeeaaGreatZ415
import Derived.Test.YtckilbegmbaeeaaGreatZ420
namespace Go.Proofs.YtckilbegmbaeeaaGreat.Z4
open Go Go.RowKit Go.Proofs.YtckilbegmbaeeaaGreat.SL
set_option linter.unusedVariables false
set_option maxHeartbeats 20000000
set_option maxRecDepth 100000
set_option linter.unusedSimpArgs false
attribute [local irreducible] IntKind.wrap minI maxI shrI shlI andI orI xorI andNotI cplI rd sub bytesOf strOf slA
variable {b0_ b1_ b2000_ c0_0 c0_1 c0_2 c0_3 k : Nat}
variable {A0_0 A0_1 A0_2 A0_3 : Option Addr}
def F93Lb_0_.f (k : Nat) (p0 : S34) (a1 : Int) : Option (S34):=(F125b0.f k p0.f7 p0.f2).bind (fun r612=>lt ((decide (a1 = 0)) && (!r612.2)) fun q973=>if q973 = true then ((F133m0b2.f p0.f7 r612.1 ([p0.f2] : (List Int))).bind (fun r1817=>some (({ p0 with f7:=r1817 })))) else (lt ((decide (a1 = 1)) && r612.2) fun q2058=>if q2058 = true then ((F134m0.f p0.f7 r612.1 (IntKind.i64.wrap (r612.1 + 1))).bind (fun r2662=>some (({ p0 with f7:=r2662 })))) else (if a1 = 2 then (some (({ p0 with f7:=([] : (List Int)) }))) else (some (p0)))))
theorem F93Lb_0_.ok {p0 : S34} {a1 : Int} {r : S34} (H : F93Lb_0_.f k p0 a1 = some r) : SCA Tryz.prog 93 #[.agg #[.pointer (some ⟨b0_,0,none⟩)],il' a1] [Blk b0_ 34 (c34' p0 A0_0 c0_0 A0_1 c0_1 A0_2 c0_2 A0_3 c0_3),Buf k55 55 A0_0 c0_0 p0.f0.f2,bl' 3 A0_1 c0_1 p0.f7,Buf k55 55 A0_2 c0_2 p0.f16.f2,bw' 21 A0_3 c0_3 p0.f17] (fun v B=>∃ P0_0_ q0_0_ P0_1_ q0_1_ P0_2_ q0_2_ P0_3_ q0_3_,v = .tuple #[]∧B = [Blk b0_ 34 (c34' r P0_0_ q0_0_ P0_1_ q0_1_ P0_2_ q0_2_ P0_3_ q0_3_),Buf k55 55 P0_0_ q0_0_ r.f0.f2,bl' 3 P0_1_ q0_1_ r.f7,Buf k55 55 P0_2_ q0_2_ r.f16.f2,bw' 21 P0_3_ q0_3_ r.f17]):=by
 refine SCA_of_body Tryz.func93 rfl rfl ?_
 unfold F93Lb_0_.f at H
 refine qr' ?_
 refine o' (bx' fun b6=>?_)
 refine na' (SA_seq ?_)
 refine fc' 1 fun hc8=>?_
 refine fc' 2 fun hc9=>?_
 refine fc' 3 fun hc10=>?_
 refine fc' 4 fun hc11=>?_
 refine SA_drawHq (0::1::2::3::4::5::6::7::8::9::11::12::13::14::15::[]) (List.toArray ([]::[0]::[0,1]::[0,1,2]::(rg' 0 4)::[]::[5]::[5,6]::[5,6,7]::(rg' 5 4)::(rg' 0 10)::(rg' 0 10)::[0,1,2,3,4,5,6,7,8,9,11]::[0,1,2,3,4,5,6,7,8,9,11]::[0,1,2,3,4,5,6,7,8,9,11,12]::(0::1::2::3::4::5::6::7::8::9::11::12::13::14::[])::[])) [0,5] (rg' 1 4) mixed rfl rfl rfl (PanOk.thn PanOk.body) fun I0 hS h0 hh0 w0 sH dd pk=>?_
 refine t' (pt' b6) 0 rfl sH (fa' b6 0 0) ?_
 refine r' 1 rfl sH (ld' b6 0 1) ?_
 refine t' (pt' b0_) 2 rfl sH nc' ?_
 refine t' (pa' b0_ 18) 3 rfl sH (fa' b0_ 0 18) ?_
 refine r' 4 rfl sH (ld' b0_ 18 0) ?_
 refine t' (pt' b6) 5 rfl sH (fa' b6 0 0) ?_
 refine r' 6 rfl sH (ld' b6 0 1) ?_
 refine t' (pt' b0_) 7 rfl sH nc' ?_
 refine t' (pa' b0_ 4) 8 rfl sH (fa' b0_ 0 4) ?_
 refine r' 9 rfl sH (ld' b0_ 4 0) ?_
 obtain⟨r612,C613,H⟩:=g_bind H
 refine DH_one 10 dd (by kernel_rfl) rfl (.no rfl) (ca' [1] [0,2,3] (xf' [.slice A0_1 p0.f7.length c0_1,il' p0.f2]) (F125b0.ok (l0:=p0.f7) (A0:=A0_1) (c0:=c0_1) (a1:=p0.f2) C613) ?_)
 rintro _ _⟨rfl,rfl⟩
 refine t' (.tuple #[il' r612.1,.bool r612.2]) 11 rfl sH mv' ?_
 refine t' (il' r612.1) 12 rfl sH ex' ?_
 refine t' (.bool r612.2) 13 rfl sH ex' ?_
 refine t' (il' r612.1) 14 rfl sH as' ?_
 refine t' (.bool r612.2) 15 rfl sH as' ?_
 refine DH_open dd sH ?_
 refine DN_done (by kernel_rfl) ?_
 refine at_normal (SA_block (qr' ?_))
 refine s' (il' a1) mv' ?_
 refine s' (.bool (decide (a1 = 0))) (V_eql rfl rfl) ?_
 refine s' (.bool (decide (a1 = 0))) mv' ?_
 obtain⟨q973,hq973,H⟩:=g_lt H
 refine cR' 3 [(1,il' a1),(2,pt' b6),(4,il' r612.1),(5,.bool r612.2),(26,.bool q973)] [Blk b0_ 34 (c34' p0 A0_0 c0_0 A0_1 c0_1 A0_2 c0_2 A0_3 c0_3),Buf k55 55 A0_0 c0_0 p0.f0.f2,bl' 3 A0_1 c0_1 p0.f7,Buf k55 55 A0_2 c0_2 p0.f16.f2,bw' 21 A0_3 c0_3 p0.f17,Blk b6 84 [pt' b0_]] ?_ fun junk=>?_
 ·by_cases h974 : a1 = 0
  ·refine y' (dec_t h974) (.bool r612.2) mv' ?_
   refine y' (dec_t h974) (.bool (!r612.2)) (V_not rfl) ?_
   refine pT' (dec_t h974) ?_
   refine RA_nil ?_
   exact at_normal (St.mk1 (aeq rfl (aeq rfl (aeq rfl (aeq rfl (aeq (congrArg Value.bool (and_t hq973 (dec_t h974))) aeq0))))) (gs' [0,3,2,4,5,1]))
  refine no' 2 (dec_f h974) ?_
  refine pF' (dec_f h974) ?_
  refine RA_nil ?_
  exact at_normal (St.mk1 (aeq rfl (aeq rfl (aeq rfl (aeq rfl (aeq (congrArg Value.bool (and_f hq973 (dec_f h974))) aeq0))))) (gs' [0,3,2,4,5,1]))
 refine s' (.bool q973) as' ?_
 refine na' ?_
 by_cases h976 : q973 = true
 ·replace H:=g_ift h976 H
  refine SA_condTb rfl h976 ?_
  refine SA_drawHq (0::1::2::3::4::5::6::7::8::9::10::11::12::15::16::[]) (List.toArray ([]::[0]::[]::[2]::[2,3]::[2,3,4]::(rg' 2 4)::[]::[]::[8]::[8,9]::[8,9,10]::(rg' 8 4)::(rg' 8 5)::(rg' 2 11)::(rg' 0 13)::(0::1::2::3::4::5::6::7::8::9::10::11::12::15::[])::(0::1::2::3::4::5::6::7::8::9::10::11::12::15::16::[])::[])) [0,5] (rg' 1 4) mixed rfl rfl rfl (PanOk.inb PanOk.body) fun I0 hS h0 hh0 w0 sH dd pk=>?_
  refine t' (pt' b6) 0 rfl sH (fa' b6 0 0) ?_
  refine r' 1 rfl sH (ld' b6 0 1) ?_
  refine t' (pt' b6) 2 rfl sH (fa' b6 0 0) ?_
  refine r' 3 rfl sH (ld' b6 0 1) ?_
  refine t' (pt' b0_) 4 rfl sH nc' ?_
  refine t' (pa' b0_ 18) 5 rfl sH (fa' b0_ 0 18) ?_
  refine r' 6 rfl sH (ld' b0_ 18 0) ?_
  refine t' (il' r612.1) 7 rfl sH mv' ?_
  refine t' (pt' b6) 8 rfl sH (fa' b6 0 0) ?_
  refine r' 9 rfl sH (ld' b6 0 1) ?_
  refine t' (pt' b0_) 10 rfl sH nc' ?_
  refine t' (pa' b0_ 4) 11 rfl sH (fa' b0_ 0 4) ?_
  refine r' 12 rfl sH (ld' b0_ 4 0) ?_
  refine DH_one 13 dd (by kernel_rfl) rfl (.no rfl) (OA_bs (kd:=(Kd.int .i64)) (zv:=(il' 0)) (sz:=1) (cells:=[il' p0.f2]) (xs:=([p0.f2] : (List Int))) rfl Tryz.underlying29 zero3 sz3 rfl rfl rfl (by kernel_rfl) rfl rfl (RL_enc (fun x_ : Int=>[Value.int .i64 x_]) (fun _ _=>rfl) (by kernel_rfl)) fun b1757=>?_)
  obtain⟨r1817,C1821,H⟩:=g_bind H
  refine DH_one 14 dd (by kernel_rfl) rfl (.no rfl) (ca' [1,4] [0,2,3] (xf' [.slice A0_1 p0.f7.length c0_1,il' r612.1,.slice (some ⟨b1757,0,none⟩) ([p0.f2] : (List Int)).length 1]) (F133m0b2.ok (l0:=p0.f7) (A0:=A0_1) (c0:=c0_1) (a1:=r612.1) (l2:=([p0.f2] : (List Int))) (A2:=some ⟨b1757,0,none⟩) (c2:=1) C1821) ?_)
  rintro _ _⟨A1818,c1819,rfl,rfl⟩
  refine t' (pt' b0_) 15 rfl sH nc' ?_
  refine t' (pa' b0_ 18) 16 rfl sH (fa' b0_ 0 18) ?_
  refine DH_open dd sH ?_
  refine DN_one 17 (by kernel_rfl) rfl rfl (.no rfl) (st' b0_ 18 0 [.slice A1818 r1817.length c1819] (c34' ({ p0 with f7:=r1817 }) A0_0 c0_0 A1818 c1819 A0_2 c0_2 A0_3 c0_3) ?_)
  refine DN_done (by kernel_rfl) ?_
  refine inb_normal ?_
  have h_:=oi' H;subst h_
  exact bn' [0,4,2,5,6] ⟨A0_0,c0_0,A1818,c1819,A0_2,c0_2,A0_3,c0_3,rfl,rfl⟩
 replace H:=g_iff h976 H
 refine SA_condFb rfl h976 ?_
 refine qr' ?_
 refine s' (il' a1) mv' ?_
 refine s' (.bool (decide (a1 = 1))) (V_eql rfl rfl) ?_
 refine s' (.bool (decide (a1 = 1))) mv' ?_
 obtain⟨q2058,hq2058,H⟩:=g_lt H
 refine cR' 2 [(1,il' a1),(2,pt' b6),(4,il' r612.1),(49,.bool q2058)] [Blk b0_ 34 (c34' p0 A0_0 c0_0 A0_1 c0_1 A0_2 c0_2 A0_3 c0_3),Buf k55 55 A0_0 c0_0 p0.f0.f2,bl' 3 A0_1 c0_1 p0.f7,Buf k55 55 A0_2 c0_2 p0.f16.f2,bw' 21 A0_3 c0_3 p0.f17,Blk b6 84 [pt' b0_]] ?_ fun junk=>?_
 ·by_cases h2059 : a1 = 1
  ·refine y' (dec_t h2059) (.bool r612.2) mv' ?_
   refine pT' (dec_t h2059) ?_
   refine RA_nil ?_
   exact at_normal (St.mk1 (aeq rfl (aeq rfl (aeq rfl (aeq (congrArg Value.bool (and_t hq2058 (dec_t h2059))) aeq0)))) (gs' [0,1,2,3,4,5]))
  refine no' 1 (dec_f h2059) ?_
  refine pF' (dec_f h2059) ?_
  refine RA_nil ?_
  exact at_normal (St.mk1 (aeq rfl (aeq rfl (aeq rfl (aeq (congrArg Value.bool (and_f hq2058 (dec_f h2059))) aeq0)))) (gs' [0,1,2,3,4,5]))
 refine s' (.bool q2058) as' ?_
 refine na' ?_
 by_cases h2061 : q2058 = true
 ·replace H:=g_ift h2061 H
  refine SA_condTb rfl h2061 ?_
  refine SA_drawHq [0,1,2,3,4,5,6,7,8,9,11,12] (List.toArray ([]::[0]::[]::[2]::[2,3]::[2,3,4]::(rg' 2 4)::[]::[]::[8]::(rg' 2 8)::(rg' 0 10)::[0,1,2,3,4,5,6,7,8,9,11]::[0,1,2,3,4,5,6,7,8,9,11,12]::[])) [0,5] (rg' 1 4) mixed rfl rfl rfl (PanOk.inb PanOk.body) fun I0 hS h0 hh0 w0 sH dd pk=>?_
  refine t' (pt' b6) 0 rfl sH (fa' b6 0 0) ?_
  refine r' 1 rfl sH (ld' b6 0 1) ?_
  refine t' (pt' b6) 2 rfl sH (fa' b6 0 0) ?_
  refine r' 3 rfl sH (ld' b6 0 1) ?_
  refine t' (pt' b0_) 4 rfl sH nc' ?_
  refine t' (pa' b0_ 18) 5 rfl sH (fa' b0_ 0 18) ?_
  refine r' 6 rfl sH (ld' b0_ 18 0) ?_
  refine t' (il' r612.1) 7 rfl sH mv' ?_
  refine t' (il' r612.1) 8 rfl sH mv' ?_
  refine t' (il' (IntKind.i64.wrap (r612.1 + 1))) 9 rfl sH (V_add rfl rfl) ?_
  obtain⟨r2662,C2666,H⟩:=g_bind H
  refine DH_one 10 dd (by kernel_rfl) rfl (.no rfl) (ca' [1] [0,2,3] (xf' [.slice A0_1 p0.f7.length c0_1,il' r612.1,il' (IntKind.i64.wrap (r612.1 + 1))]) (F134m0.ok (l0:=p0.f7) (A0:=A0_1) (c0:=c0_1) (a1:=r612.1) (a2:=IntKind.i64.wrap (r612.1 + 1)) C2666) ?_)
  rintro _ _⟨A2663,c2664,rfl,rfl⟩
  refine t' (pt' b0_) 11 rfl sH nc' ?_
  refine t' (pa' b0_ 18) 12 rfl sH (fa' b0_ 0 18) ?_
  refine DH_open dd sH ?_
  refine DN_one 13 (by kernel_rfl) rfl rfl (.no rfl) (st' b0_ 18 0 [.slice A2663 r2662.length c2664] (c34' ({ p0 with f7:=r2662 }) A0_0 c0_0 A2663 c2664 A0_2 c0_2 A0_3 c0_3) ?_)
  refine DN_done (by kernel_rfl) ?_
  refine inb_normal ?_
  have h_:=oi' H;subst h_
  exact bn' [0,3,2,4,5] ⟨A0_0,c0_0,A2663,c2664,A0_2,c0_2,A0_3,c0_3,rfl,rfl⟩
 replace H:=g_iff h2061 H
 refine SA_condFb rfl h2061 ?_
 refine qr' ?_
 refine s' (il' a1) mv' ?_
 refine s' (.bool (decide (a1 = 2))) (V_eql rfl rfl) ?_
 refine s' (.bool (decide (a1 = 2))) as' ?_
 refine na' ?_
 by_cases h2903 : a1 = 2
 ·replace H:=g_ift h2903 H
  refine SA_condT rfl h2903 ?_
  refine SA_region ?_
  refine s' (pt' b6) (fa' b6 0 0) ?_
  refine l' (ld' b6 0 5) ?_
  refine s' (pt' b0_) nc' ?_
  refine s' (pa' b0_ 18) (fa' b0_ 0 18) ?_
  refine o' (st' b0_ 18 0 [.slice none 0 0] (c34' ({ p0 with f7:=([] : (List Int)) }) A0_0 c0_0 none 0 A0_2 c0_2 A0_3 c0_3) ?_)
  refine RA_nil (inb_normal ?_)
  have h_:=oi' H;subst h_
  exact BQ_n0 [Blk b0_ 34 (c34' ({ p0 with f7:=([] : (List Int)) }) A0_0 c0_0 none 0 A0_2 c0_2 A0_3 c0_3),Buf k55 55 A0_0 c0_0 p0.f0.f2,bl' 3 none 0 ([] : (List Int)),Buf k55 55 A0_2 c0_2 p0.f16.f2,bw' 21 A0_3 c0_3 p0.f17] rfl ((Gh.nilBuf (Kd.int .i64) 3).trans (gs' [0,1,6,3,4])) ⟨A0_0,c0_0,none,0,A0_2,c0_2,A0_3,c0_3,rfl,rfl⟩
 replace H:=g_iff h2903 H
 refine SA_condF rfl h2903 ?_
 refine SA_skip (inb_normal ?_)
 have h_:=oi' H;subst h_
 exact bn' [0,1,2,3,4] ⟨A0_0,c0_0,A0_1,c0_1,A0_2,c0_2,A0_3,c0_3,rfl,rfl⟩


def F92Lb_0_.f (k : Nat) (p0 : S34) (p1 : Int) : Option (S34):=(F93Lb_0_.f k p0 p1).bind (fun r13=>some (r13))
theorem F92Lb_0_.ok {p0 : S34} {p1 : Int} {r : S34} (H : F92Lb_0_.f k p0 p1 = some r) : SCA Tryz.prog 92 #[.agg #[.pointer (some ⟨b0_,0,none⟩)],.pointer (some ⟨b1_,0,none⟩)] [Blk b0_ 34 (c34' p0 A0_0 c0_0 A0_1 c0_1 A0_2 c0_2 A0_3 c0_3),Buf k55 55 A0_0 c0_0 p0.f0.f2,bl' 3 A0_1 c0_1 p0.f7,Buf k55 55 A0_2 c0_2 p0.f16.f2,bw' 21 A0_3 c0_3 p0.f17,Blk b1_ 3 [il' p1]] (fun v B=>∃ P0_0_ q0_0_ P0_1_ q0_1_ P0_2_ q0_2_ P0_3_ q0_3_,v = .tuple #[]∧B = [Blk b0_ 34 (c34' r P0_0_ q0_0_ P0_1_ q0_1_ P0_2_ q0_2_ P0_3_ q0_3_),Buf k55 55 P0_0_ q0_0_ r.f0.f2,bl' 3 P0_1_ q0_1_ r.f7,Buf k55 55 P0_2_ q0_2_ r.f16.f2,bw' 21 P0_3_ q0_3_ r.f17,Blk b1_ 3 [il' p1]]):=by
 refine SCA_of_body Tryz.func92 rfl rfl ?_
 unfold F92Lb_0_.f at H
 refine qr' ?_
 refine o' (bx' fun b7=>?_)
 refine na' ?_
 refine fc' 1 fun hc9=>?_
 refine fc' 2 fun hc10=>?_
 refine fc' 3 fun hc11=>?_
 refine fc' 4 fun hc12=>?_
 refine SA_region ?_
 refine l' (lA' b7 0 6 [pt' b0_]) ?_
 refine l' (ld' b1_ 0 5) ?_
 obtain⟨r13,C26,H⟩:=g_bind H
 refine o' (ca' [0,1,2,3,4] [5,6] (xf' [.agg #[pt' b0_],il' p1]) (F93Lb_0_.ok (b0_:=b0_) (p0:=p0) (a1:=p1) C26) ?_)
 rintro _ _⟨A14,c15,A17,c18,A20,c21,A23,c24,rfl,rfl⟩
 refine RA_nil ?_
 have h_:=oi' H;subst h_
 exact bn' [0,1,2,3,4,5] ⟨A14,c15,A17,c18,A20,c21,A23,c24,rfl,rfl⟩


def F62f92x_1_.f (k : Nat) (a0 : S34) (p2000 : Int) : Option (S34 × Int):=(F16b0.f k a0).bind (fun r10=>if (!r10) = true then (some (((S34.mk (S26.mk 0 0 ([] : (List S55))) 0 0 false (S28.mk 0 0 false false false false false false false false) 0 0 ([] : (List Int)) false false false false false false (S31.mk 0 0 false false (S28.mk 0 0 false false false false false false false false)) false (S26.mk 0 0 ([] : (List S55))) ([] : (List Int))),2))) else ((F97.f a0).bind (fun r16=>(F92Lb_0_.f k r16 p2000).bind (fun r29=>some ((r29,0))))))
theorem F62f92x_1_.ok {a0 : S34} {p2000 : Int} {r : S34 × Int} (H : F62f92x_1_.f k a0 p2000 = some r) : SCA Tryz.prog 62 #[.agg (c34' a0 A0_0 c0_0 A0_1 c0_1 A0_2 c0_2 A0_3 c0_3).toArray,.func (.func 92) #[] #[.pointer (some ⟨b2000_,0,none⟩)]] [Ro k55 A0_0 c0_0 a0.f0.f2,rl' A0_1 c0_1 a0.f7,Ro k55 A0_2 c0_2 a0.f16.f2,rw' A0_3 c0_3 a0.f17,Blk b2000_ 3 [il' p2000]] (fun v B=>∃ A0_0_ c0_0_ A0_1_ c0_1_ A0_2_ c0_2_ A0_3_ c0_3_,v = .tuple #[.agg (c34' r.1 A0_0_ c0_0_ A0_1_ c0_1_ A0_2_ c0_2_ A0_3_ c0_3_).toArray,il' r.2]∧B = [Buf k55 55 A0_0_ c0_0_ r.1.f0.f2,bl' 3 A0_1_ c0_1_ r.1.f7,Buf k55 55 A0_2_ c0_2_ r.1.f16.f2,bw' 21 A0_3_ c0_3_ r.1.f17,Blk b2000_ 3 [il' p2000]]):=by
 refine SCA_of_body Tryz.func62 rfl rfl ?_
 unfold F62f92x_1_.f at H
 refine qr' ?_
 refine o' (bx' fun b6=>?_)
 refine o' (al' fun b8=>?_)
 refine s' (il' 0) as' ?_
 refine nq' ?_
 refine l' (lA' b6 0 5 (c34' a0 A0_0 c0_0 A0_1 c0_1 A0_2 c0_2 A0_3 c0_3)) ?_
 obtain⟨r10,C44,H⟩:=g_bind H
 refine o' (ca' [0,1,2,3] [0,1,2,3,4,5,6] (xf' [.agg (c34' a0 A0_0 c0_0 A0_1 c0_1 A0_2 c0_2 A0_3 c0_3).toArray]) (F16.ok (a0:=a0) C44) ?_)
 rintro _ _⟨rfl,rfl⟩
 refine s' (.bool (!r10)) (V_not rfl) ?_
 refine na' ?_
 by_cases h11 : (!r10) = true
 ·replace H:=g_ift h11 H
  refine SA_condTb rfl h11 ?_
  refine qr' ?_
  refine s' (.agg (c34' z34' none 0 none 0 none 0 none 0).toArray) bd' ?_
  refine o' (su' b8 0 6 (c34' z34' none 0 none 0 none 0 none 0) ?_)
  refine s' (il' 2) as' ?_
  refine ntt' ?_
  have h_:=oi' H;subst h_
  exact BQ_RL (rs:=[.cell 4 34,.tmp 5]) (vs:=[.agg (c34' z34' none 0 none 0 none 0 none 0).toArray,il' 2]) [Buf k55 55 none 0 ([] : (List S55)),bl' 3 none 0 ([] : (List Int)),Buf k55 55 none 0 ([] : (List S55)),bw' 21 none 0 ([] : (List Int)),Blk b2000_ 3 [il' p2000]] rfl ⟨RV.cell (k:=6) rfl rfl Tryz.underlying34 rfl sz34,RV.tmp rfl,trivial⟩ rfl ((Gh.nilBuf k55 55).trans ((Gh.nilBuf (Kd.int .i64) 3).trans ((Gh.nilBuf k55 55).trans ((Gh.nilBuf (Kd.int .i32) 21).trans (gs' [7,8,9,10,4]))))) ⟨none,0,none,0,none,0,none,0,rfl,rfl⟩
 replace H:=g_iff h11 H
 refine SA_condFb rfl h11 ?_
 refine SA_skip (at_normal (qr' ?_))
 refine l' (lA' b6 0 5 (c34' a0 A0_0 c0_0 A0_1 c0_1 A0_2 c0_2 A0_3 c0_3)) ?_
 obtain⟨r16,C43,H⟩:=g_bind H
 refine o' (ca' [0,1,2,3] [0,1,2,3,4,5,6] (xf' [.agg (c34' a0 A0_0 c0_0 A0_1 c0_1 A0_2 c0_2 A0_3 c0_3).toArray]) (F97.ok (a0:=a0) C43) ?_)
 rintro _ _⟨A17,c18,A20,c21,A23,c24,A26,c27,rfl,rfl⟩
 refine o' (su' b6 0 9 (c34' r16 A17 c18 A20 c21 A23 c24 A26 c27) ?_)
 refine nr' ?_
 refine s' (.func (.func 92) #[] #[pt' b2000_]) mv' ?_
 refine s' (.agg #[pt' b6]) bd' ?_
 obtain⟨r29,C42,H⟩:=g_bind H
 refine o' (ca' [9,0,1,2,3,8] [4,5,6,7,10] (X_fnV (vs:=[.agg #[pt' b6]]) (cap:=[pt' b2000_]) rfl Tryz.func92 nm92 rfl rfl) (F92Lb_0_.ok (b0_:=b6) (p0:=r16) (b1_:=b2000_) (p1:=p2000) C42) ?_)
 rintro _ _⟨A30,c31,A33,c34,A36,c37,A39,c40,rfl,rfl⟩
 refine nr' ?_
 refine l' (lA' b6 0 0 (c34' r29 A30 c31 A33 c34 A36 c37 A39 c40)) ?_
 refine o' (su' b8 0 10 (c34' r29 A30 c31 A33 c34 A36 c37 A39 c40) ?_)
 refine s' (il' 0) as' ?_
 refine nt' ?_
 have h_:=oi' H;subst h_
 exact b2' [.cell 4 34,.tmp 5] [1,2,3,4,5] ⟨A30,c31,A33,c34,A36,c37,A39,c40,rfl,rfl⟩ ⟨RV.cell (k:=10) rfl rfl Tryz.underlying34 rfl sz34,RV.tmp rfl,trivial⟩


def F37.f (k : Nat) (a0 : S34) (a1 : Int) : Option (S34 × Int):=(F62f92x_1_.f k a0 a1).bind (fun r11=>some ((r11.1,r11.2)))
theorem F37.ok {a0 : S34} {a1 : Int} {r : S34 × Int} (H : F37.f k a0 a1 = some r) : SCA Tryz.prog 37 #[.agg (c34' a0 A0_0 c0_0 A0_1 c0_1 A0_2 c0_2 A0_3 c0_3).toArray,il' a1] [Ro k55 A0_0 c0_0 a0.f0.f2,rl' A0_1 c0_1 a0.f7,Ro k55 A0_2 c0_2 a0.f16.f2,rw' A0_3 c0_3 a0.f17] (fun v B=>∃ A0_0_ c0_0_ A0_1_ c0_1_ A0_2_ c0_2_ A0_3_ c0_3_,v = .tuple #[.agg (c34' r.1 A0_0_ c0_0_ A0_1_ c0_1_ A0_2_ c0_2_ A0_3_ c0_3_).toArray,il' r.2]∧B = [Buf k55 55 A0_0_ c0_0_ r.1.f0.f2,bl' 3 A0_1_ c0_1_ r.1.f7,Buf k55 55 A0_2_ c0_2_ r.1.f16.f2,bw' 21 A0_3_ c0_3_ r.1.f17]):=by
 refine SCA_of_body Tryz.func37 rfl rfl ?_
 unfold F37.f at H
 refine qr' ?_
 refine o' (bx' fun b5=>?_)
 refine o' (bx' fun b7=>?_)
 refine o' (al' fun b9=>?_)
 refine s' (il' 0) as' ?_
 refine nr' ?_
 refine l' (lA' b5 0 4 (c34' a0 A0_0 c0_0 A0_1 c0_1 A0_2 c0_2 A0_3 c0_3)) ?_
 refine s' (.func (.func 92) #[] #[pt' b7]) (V_makeFuncL (us:=[pt' b7]) rfl) ?_
 obtain⟨r11,C24,H⟩:=g_bind H
 refine o' (ca' [0,1,2,3,5] [0,1,2,3,4,6] (xf' [.agg (c34' a0 A0_0 c0_0 A0_1 c0_1 A0_2 c0_2 A0_3 c0_3).toArray,.func (.func 92) #[] #[pt' b7]]) (F62f92x_1_.ok (a0:=a0) (b2000_:=b7) (p2000:=a1) C24) ?_)
 rintro _ _⟨A12,c13,A15,c16,A18,c19,A21,c22,rfl,rfl⟩
 refine s' (.agg (c34' r11.1 A12 c13 A15 c16 A18 c19 A21 c22).toArray) ex' ?_
 refine s' (il' r11.2) ex' ?_
 refine o' (su' b9 0 10 (c34' r11.1 A12 c13 A15 c16 A18 c19 A21 c22) ?_)
 refine s' (il' r11.2) as' ?_
 refine nt' ?_
 have h_:=oi' H;subst h_
 exact b2' [.cell 4 34,.tmp 5] [0,1,2,3] ⟨A12,c13,A15,c16,A18,c19,A21,c22,rfl,rfl⟩ ⟨RV.cell (k:=10) rfl rfl Tryz.underlying34 rfl sz34,RV.tmp rfl,trivial⟩


def F95Lb_0_.f (k : Nat) (p0 : S34) (a1 : Int) : Option (S34):=(F121Lb_0_.f p0).bind (fun r72=>if (0 ≤ r72.1∧0 ≤ r72.2∧r72.1 + r72.2 ≤ (p0.f0.f2.length : Int)) then ((F128.f a1).bind (fun r792=>(F127.f (IntKind.i64.wrap (p0.f2 + r792)) p0.f2 p0.f0.f0).bind (fun r1572=>(F129w0.f k p0.f0.f2 r72.1 r72.2 p0.f2 r1572 p0.f4).bind (fun r1932=>if r1932.length = p0.f0.f2.length then (some (({ p0 with f0:=(S26.mk p0.f0.f0 p0.f0.f1 r1932),f3:=false }))) else none)))) else none)
theorem F95Lb_0_.ok {p0 : S34} {a1 : Int} {r : S34} (H : F95Lb_0_.f k p0 a1 = some r) : SCA Tryz.prog 95 #[.agg #[.pointer (some ⟨b0_,0,none⟩)],il' a1] [Blk b0_ 34 (c34' p0 A0_0 c0_0 A0_1 c0_1 A0_2 c0_2 A0_3 c0_3),Buf k55 55 A0_0 c0_0 p0.f0.f2,bl' 3 A0_1 c0_1 p0.f7,Buf k55 55 A0_2 c0_2 p0.f16.f2,bw' 21 A0_3 c0_3 p0.f17] (fun v B=>∃ P0_0_ q0_0_ P0_1_ q0_1_ P0_2_ q0_2_ P0_3_ q0_3_,v = .tuple #[]∧B = [Blk b0_ 34 (c34' r P0_0_ q0_0_ P0_1_ q0_1_ P0_2_ q0_2_ P0_3_ q0_3_),Buf k55 55 P0_0_ q0_0_ r.f0.f2,bl' 3 P0_1_ q0_1_ r.f7,Buf k55 55 P0_2_ q0_2_ r.f16.f2,bw' 21 P0_3_ q0_3_ r.f17]):=by
 refine SCA_of_body Tryz.func95 rfl rfl ?_
 unfold F95Lb_0_.f at H
 refine qr' ?_
 refine o' (bx' fun b6=>?_)
 refine na' (SA_seq ?_)
 refine fc' 1 fun hc8=>?_
 refine fc' 2 fun hc9=>?_
 refine fc' 3 fun hc10=>?_
 refine fc' 4 fun hc11=>?_
 refine SA_drawMq (0::2::3::4::5::6::7::8::9::10::11::12::14::15::16::17::18::19::20::21::22::23::24::25::27::28::29::30::31::[]) (List.toArray ([]::[0]::[]::[2]::[2,3]::[2,3,4]::(rg' 2 4)::[]::[7]::[7,8]::[7,8,9]::(rg' 7 4)::[]::[0,12]::[0,7,8,9,10,11,12]::[]::[15]::[15,16]::[15,16,17]::(rg' 15 4)::[]::[20]::[20,21]::[20,21,22]::(rg' 20 4)::(rg' 20 5)::(0::7::8::9::10::11::12::14::15::16::17::18::19::20::21::22::23::24::25::[])::[]::[27]::[27,28]::[27,28,29]::(rg' 27 4)::(0::2::3::4::5::6::7::8::9::10::11::12::14::15::16::17::18::19::20::21::22::23::24::25::27::28::29::30::31::[])::[])) [Blk b0_ 34 (c34' p0 A0_0 c0_0 A0_1 c0_1 A0_2 c0_2 A0_3 c0_3),Blk b6 84 [pt' b0_]] mixed (PanOk.thn PanOk.body) fun I0 hh0 w0 pk=>?_
 refine mr' 0 [0,5] rfl (lA' b6 0 1 [pt' b0_]) ?_
 refine mt' (pt' b6) 2 [0,5] rfl (fa' b6 0 0) ?_
 refine mr' 3 [0,5] rfl (ld' b6 0 1) ?_
 refine mt' (pt' b0_) 4 [0,5] rfl nc' ?_
 refine mt' (pa' b0_ 4) 5 [0,5] rfl (fa' b0_ 0 4) ?_
 refine mr' 6 [0,5] rfl (ld' b0_ 4 0) ?_
 refine mt' (pt' b6) 7 [0,5] rfl (fa' b6 0 0) ?_
 refine mr' 8 [0,5] rfl (ld' b6 0 1) ?_
 refine mt' (pt' b0_) 9 [0,5] rfl nc' ?_
 refine mt' (pa' b0_ 4) 10 [0,5] rfl (fa' b0_ 0 4) ?_
 refine mr' 11 [0,5] rfl (ld' b0_ 4 0) ?_
 refine mt' (il' a1) 12 [0,5] rfl mv' ?_
 refine mt' (pt' b6) 15 [0,5] rfl (fa' b6 0 0) ?_
 refine mr' 16 [0,5] rfl (ld' b6 0 1) ?_
 refine mt' (pt' b0_) 17 [0,5] rfl nc' ?_
 refine mt' (pa' b0_ 4) 18 [0,5] rfl (fa' b0_ 0 4) ?_
 refine mr' 19 [0,5] rfl (ld' b0_ 4 0) ?_
 refine mt' (pt' b6) 20 [0,5] rfl (fa' b6 0 0) ?_
 refine mr' 21 [0,5] rfl (ld' b6 0 1) ?_
 refine mt' (pt' b0_) 22 [0,5] rfl nc' ?_
 refine mt' (pt' b0_) 23 [0,5] rfl (fa' b0_ 0 0) ?_
 refine mt' (pt' b0_) 24 [0,5] rfl (fa' b0_ 0 0) ?_
 refine mr' 25 [0,5] rfl (ld' b0_ 0 0) ?_
 refine mt' (pt' b6) 27 [0,5] rfl (fa' b6 0 0) ?_
 refine mr' 28 [0,5] rfl (ld' b6 0 1) ?_
 refine mt' (pt' b0_) 29 [0,5] rfl nc' ?_
 refine mt' (pa' b0_ 6) 30 [0,5] rfl (fa' b0_ 0 6) ?_
 refine mr' 31 [0,5] rfl (lA' b0_ 6 0 (c28' p0.f4)) ?_
 obtain⟨r72,C77,H⟩:=g_bind H
 obtain⟨⟨hl76a,hl76b,hl76c⟩,H⟩:=g_pos H
 refine DM_one 1 (by kernel_rfl) rfl (.no rfl) (ca' [0,1,2,3,4] [5] (xf' [.agg #[pt' b0_]]) (F121Lb_0_.ok (b0_:=b0_) (p0:=p0) C77) ?_)
 rintro _ _⟨V73,v74,hW75,rfl,rfl⟩
 refine ⟨fun _=>⟨[0,5],rfl,rfl⟩,?_⟩
 obtain⟨r792,C793,H⟩:=g_bind H
 refine DM_one 13 (by kernel_rfl) rfl (.no rfl) (ca' [] [0,1,2,3,4,5] (xf' [il' a1]) (F128.ok (a0:=a1) C793) ?_)
 rintro _ _⟨rfl,rfl⟩
 refine ⟨fun _=>⟨[0,5],rfl,rfl⟩,?_⟩
 refine mt' (il' (IntKind.i64.wrap (p0.f2 + r792))) 14 [0,5] rfl (V_add rfl rfl) ?_
 obtain⟨r1572,C1573,H⟩:=g_bind H
 refine DM_one 26 (by kernel_rfl) rfl (.no rfl) (ca' [] [0,1,2,3,4,5] (xf' [il' (IntKind.i64.wrap (p0.f2 + r792)),il' p0.f2,il' p0.f0.f0]) (F127.ok (a0:=IntKind.i64.wrap (p0.f2 + r792)) (a1:=p0.f2) (a2:=p0.f0.f0) C1573) ?_)
 rintro _ _⟨rfl,rfl⟩
 refine ⟨fun _=>⟨[0,5],rfl,rfl⟩,?_⟩
 obtain⟨r1932,C1934,H⟩:=g_bind H
 obtain⟨hl1933,H⟩:=g_pos H
 refine DM_one 32 (by kernel_rfl) rfl (.no rfl) (ca' [1] [0,2,3,4,5] (xf' [.slice V73 r72.2.toNat v74,il' p0.f2,il' r1572,.agg (c28' p0.f4).toArray]) (F129w0.ok (l0:=p0.f0.f2) (o0:=r72.1) (n0:=r72.2) (A0:=A0_0) (c0:=c0_0) (V0:=V73) (v0:=v74) (hw0:=hW75) (a1:=p0.f2) (a2:=r1572) (a3:=p0.f4) C1934) ?_)
 rintro _ _⟨rfl,rfl⟩
 try unfold c34'
 try rewrite [← hl1933]
 refine ⟨fun h_=>absurd h_ (by decide),?_⟩
 refine DN_done (by kernel_rfl) ?_
 refine at_normal ?_
 refine SA.of_St (l:=[(2,pt' b6)]) (B:=[Blk b0_ 34 (c34' ({ p0 with f0:=(S26.mk p0.f0.f0 p0.f0.f1 r1932) }) A0_0 c0_0 A0_1 c0_1 A0_2 c0_2 A0_3 c0_3),Buf k55 55 A0_0 c0_0 r1932,bl' 3 A0_1 c0_1 p0.f7,Buf k55 55 A0_2 c0_2 p0.f16.f2,bw' 21 A0_3 c0_3 p0.f17,Blk b6 84 [pt' b0_]]) (St.mk1 (aeq rfl aeq0) (Gh.sel [1,0,2,3,4,5] (by kernel_rfl) (by kernel_rfl))) fun junk=>?_
 refine SA_region ?_
 refine s' (pt' b6) (fa' b6 0 0) ?_
 refine l' (ld' b6 0 5) ?_
 refine s' (pt' b0_) nc' ?_
 refine s' (pa' b0_ 5) (fa' b0_ 0 5) ?_
 refine o' (st' b0_ 5 0 [.bool false] (c34' ({ p0 with f0:=(S26.mk p0.f0.f0 p0.f0.f1 r1932),f3:=false }) A0_0 c0_0 A0_1 c0_1 A0_2 c0_2 A0_3 c0_3) ?_)
 refine RA_nil ?_
 have h_:=oi' H;subst h_
 exact bn' [0,1,2,3,4] ⟨A0_0,c0_0,A0_1,c0_1,A0_2,c0_2,A0_3,c0_3,rfl,rfl⟩


def F94Lb_0_.f (k : Nat) (p0 : S34) (p1 : Int) : Option (S34):=(F95Lb_0_.f k p0 p1).bind (fun r13=>some (r13))
theorem F94Lb_0_.ok {p0 : S34} {p1 : Int} {r : S34} (H : F94Lb_0_.f k p0 p1 = some r) : SCA Tryz.prog 94 #[.agg #[.pointer (some ⟨b0_,0,none⟩)],.pointer (some ⟨b1_,0,none⟩)] [Blk b0_ 34 (c34' p0 A0_0 c0_0 A0_1 c0_1 A0_2 c0_2 A0_3 c0_3),Buf k55 55 A0_0 c0_0 p0.f0.f2,bl' 3 A0_1 c0_1 p0.f7,Buf k55 55 A0_2 c0_2 p0.f16.f2,bw' 21 A0_3 c0_3 p0.f17,Blk b1_ 3 [il' p1]] (fun v B=>∃ P0_0_ q0_0_ P0_1_ q0_1_ P0_2_ q0_2_ P0_3_ q0_3_,v = .tuple #[]∧B = [Blk b0_ 34 (c34' r P0_0_ q0_0_ P0_1_ q0_1_ P0_2_ q0_2_ P0_3_ q0_3_),Buf k55 55 P0_0_ q0_0_ r.f0.f2,bl' 3 P0_1_ q0_1_ r.f7,Buf k55 55 P0_2_ q0_2_ r.f16.f2,bw' 21 P0_3_ q0_3_ r.f17,Blk b1_ 3 [il' p1]]):=by
 refine SCA_of_body Tryz.func94 rfl rfl ?_
 unfold F94Lb_0_.f at H
 refine qr' ?_
 refine o' (bx' fun b7=>?_)
 refine na' ?_
 refine fc' 1 fun hc9=>?_
 refine fc' 2 fun hc10=>?_
 refine fc' 3 fun hc11=>?_
 refine fc' 4 fun hc12=>?_
 refine SA_region ?_
 refine l' (lA' b7 0 6 [pt' b0_]) ?_
 refine l' (ld' b1_ 0 5) ?_
 obtain⟨r13,C26,H⟩:=g_bind H
 refine o' (ca' [0,1,2,3,4] [5,6] (xf' [.agg #[pt' b0_],il' p1]) (F95Lb_0_.ok (b0_:=b0_) (p0:=p0) (a1:=p1) C26) ?_)
 rintro _ _⟨A14,c15,A17,c18,A20,c21,A23,c24,rfl,rfl⟩
 refine RA_nil ?_
 have h_:=oi' H;subst h_
 exact bn' [0,1,2,3,4,5] ⟨A14,c15,A17,c18,A20,c21,A23,c24,rfl,rfl⟩


def F62f94x_1_.f (k : Nat) (a0 : S34) (p2000 : Int) : Option (S34 × Int):=(F16b0.f k a0).bind (fun r10=>if (!r10) = true then (some (((S34.mk (S26.mk 0 0 ([] : (List S55))) 0 0 false (S28.mk 0 0 false false false false false false false false) 0 0 ([] : (List Int)) false false false false false false (S31.mk 0 0 false false (S28.mk 0 0 false false false false false false false false)) false (S26.mk 0 0 ([] : (List S55))) ([] : (List Int))),2))) else ((F97.f a0).bind (fun r16=>(F94Lb_0_.f k r16 p2000).bind (fun r29=>some ((r29,0))))))
theorem F62f94x_1_.ok {a0 : S34} {p2000 : Int} {r : S34 × Int} (H : F62f94x_1_.f k a0 p2000 = some r) : SCA Tryz.prog 62 #[.agg (c34' a0 A0_0 c0_0 A0_1 c0_1 A0_2 c0_2 A0_3 c0_3).toArray,.func (.func 94) #[] #[.pointer (some ⟨b2000_,0,none⟩)]] [Ro k55 A0_0 c0_0 a0.f0.f2,rl' A0_1 c0_1 a0.f7,Ro k55 A0_2 c0_2 a0.f16.f2,rw' A0_3 c0_3 a0.f17,Blk b2000_ 3 [il' p2000]] (fun v B=>∃ A0_0_ c0_0_ A0_1_ c0_1_ A0_2_ c0_2_ A0_3_ c0_3_,v = .tuple #[.agg (c34' r.1 A0_0_ c0_0_ A0_1_ c0_1_ A0_2_ c0_2_ A0_3_ c0_3_).toArray,il' r.2]∧B = [Buf k55 55 A0_0_ c0_0_ r.1.f0.f2,bl' 3 A0_1_ c0_1_ r.1.f7,Buf k55 55 A0_2_ c0_2_ r.1.f16.f2,bw' 21 A0_3_ c0_3_ r.1.f17,Blk b2000_ 3 [il' p2000]]):=by
 refine SCA_of_body Tryz.func62 rfl rfl ?_
 unfold F62f94x_1_.f at H
 refine qr' ?_
 refine o' (bx' fun b6=>?_)
 refine o' (al' fun b8=>?_)
 refine s' (il' 0) as' ?_
 refine nq' ?_
 refine l' (lA' b6 0 5 (c34' a0 A0_0 c0_0 A0_1 c0_1 A0_2 c0_2 A0_3 c0_3)) ?_
 obtain⟨r10,C44,H⟩:=g_bind H
 refine o' (ca' [0,1,2,3] [0,1,2,3,4,5,6] (xf' [.agg (c34' a0 A0_0 c0_0 A0_1 c0_1 A0_2 c0_2 A0_3 c0_3).toArray]) (F16.ok (a0:=a0) C44) ?_)
 rintro _ _⟨rfl,rfl⟩
 refine s' (.bool (!r10)) (V_not rfl) ?_
 refine na' ?_
 by_cases h11 : (!r10) = true
 ·replace H:=g_ift h11 H
  refine SA_condTb rfl h11 ?_
  refine qr' ?_
  refine s' (.agg (c34' z34' none 0 none 0 none 0 none 0).toArray) bd' ?_
  refine o' (su' b8 0 6 (c34' z34' none 0 none 0 none 0 none 0) ?_)
  refine s' (il' 2) as' ?_
  refine ntt' ?_
  have h_:=oi' H;subst h_
  exact BQ_RL (rs:=[.cell 4 34,.tmp 5]) (vs:=[.agg (c34' z34' none 0 none 0 none 0 none 0).toArray,il' 2]) [Buf k55 55 none 0 ([] : (List S55)),bl' 3 none 0 ([] : (List Int)),Buf k55 55 none 0 ([] : (List S55)),bw' 21 none 0 ([] : (List Int)),Blk b2000_ 3 [il' p2000]] rfl ⟨RV.cell (k:=6) rfl rfl Tryz.underlying34 rfl sz34,RV.tmp rfl,trivial⟩ rfl ((Gh.nilBuf k55 55).trans ((Gh.nilBuf (Kd.int .i64) 3).trans ((Gh.nilBuf k55 55).trans ((Gh.nilBuf (Kd.int .i32) 21).trans (gs' [7,8,9,10,4]))))) ⟨none,0,none,0,none,0,none,0,rfl,rfl⟩
 replace H:=g_iff h11 H
 refine SA_condFb rfl h11 ?_
 refine SA_skip (at_normal (qr' ?_))
 refine l' (lA' b6 0 5 (c34' a0 A0_0 c0_0 A0_1 c0_1 A0_2 c0_2 A0_3 c0_3)) ?_
 obtain⟨r16,C43,H⟩:=g_bind H
 refine o' (ca' [0,1,2,3] [0,1,2,3,4,5,6] (xf' [.agg (c34' a0 A0_0 c0_0 A0_1 c0_1 A0_2 c0_2 A0_3 c0_3).toArray]) (F97.ok (a0:=a0) C43) ?_)
 rintro _ _⟨A17,c18,A20,c21,A23,c24,A26,c27,rfl,rfl⟩
 refine o' (su' b6 0 9 (c34' r16 A17 c18 A20 c21 A23 c24 A26 c27) ?_)
 refine nr' ?_
 refine s' (.func (.func 94) #[] #[pt' b2000_]) mv' ?_
 refine s' (.agg #[pt' b6]) bd' ?_
 obtain⟨r29,C42,H⟩:=g_bind H
 refine o' (ca' [9,0,1,2,3,8] [4,5,6,7,10] (X_fnV (vs:=[.agg #[pt' b6]]) (cap:=[pt' b2000_]) rfl Tryz.func94 nm94 rfl rfl) (F94Lb_0_.ok (b0_:=b6) (p0:=r16) (b1_:=b2000_) (p1:=p2000) C42) ?_)
 rintro _ _⟨A30,c31,A33,c34,A36,c37,A39,c40,rfl,rfl⟩
 refine nr' ?_
 refine l' (lA' b6 0 0 (c34' r29 A30 c31 A33 c34 A36 c37 A39 c40)) ?_
 refine o' (su' b8 0 10 (c34' r29 A30 c31 A33 c34 A36 c37 A39 c40) ?_)
 refine s' (il' 0) as' ?_
 refine nt' ?_
 have h_:=oi' H;subst h_
 exact b2' [.cell 4 34,.tmp 5] [1,2,3,4,5] ⟨A30,c31,A33,c34,A36,c37,A39,c40,rfl,rfl⟩ ⟨RV.cell (k:=10) rfl rfl Tryz.underlying34 rfl sz34,RV.tmp rfl,trivial⟩

end Go.Proofs.YtckilbegmbaeeaaGreat.Z4

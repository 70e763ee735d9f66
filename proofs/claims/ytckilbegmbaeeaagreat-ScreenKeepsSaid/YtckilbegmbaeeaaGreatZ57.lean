/- What functions compute, and that they do: 125b0, 126Lb_0_, 127, 128, 28, 62f74x_1_, 74Lb_0_, 75Lb_0_. -/
import Derived.Test.YtckilbegmbaeeaaGreatZ50
import Derived.Test.YtckilbegmbaeeaaGreatZ52
import Derived.Test.YtckilbegmbaeeaaGreatZ53
import Derived.Test.YtckilbegmbaeeaaGreatZ54
import Derived.Test.YtckilbegmbaeeaaGreatZ56
namespace Go.Proofs.YtckilbegmbaeeaaGreat.Z5
open Go Go.RowKit Go.Proofs.YtckilbegmbaeeaaGreat.SL
set_option linter.unusedVariables false
set_option maxHeartbeats 20000000
set_option maxRecDepth 100000
set_option linter.unusedSimpArgs false
attribute [local irreducible] IntKind.wrap minI maxI shrI shlI andI orI xorI andNotI cplI rd sub bytesOf strOf slA
variable {b0_ b1_ b2000_ c0_0 c0_1 c0_2 c0_3 k : Nat}
variable {A0_0 A0_1 A0_2 A0_3 : Option Addr}
def F125b0.l0 (l0 : (List Int)) (a1 : Int) : Nat → Int → Int → Option (Int)
  | 0,_,_=>none
  | k + 1,x7_3,x8_3=>if x7_3 < x8_3 then (lt (IntKind.i64.wrap (shrI .u64 (IntKind.u64.wrap (IntKind.i64.wrap (x7_3 + x8_3))) 1)) fun n7=>if 0 ≤ n7∧n7 < (l0.length : Int) then ((F153.f (rd l0 n7) a1).bind (fun r10=>if r10 = true then (lt (IntKind.i64.wrap (n7 + 1)) fun n12=>F125b0.l0 l0 a1 k n12 x8_3) else (F125b0.l0 l0 a1 k x7_3 n7))) else none) else (some x7_3)
def F125b0.f (k : Nat) (l0 : (List Int)) (a1 : Int) : Option (Int × Bool):=lt ((l0.length : Int)) fun n2=>(F125b0.l0 l0 a1 k 0 n2 : Option (Int)).bind (fun t3=>(if t3 < n2 then (if 0 ≤ t3∧t3 < (l0.length : Int) then (if (rd l0 t3) = a1 then (some true) else (if 0 ≤ t3∧t3 < (l0.length : Int) then ((F154.f (rd l0 t3)).bind (fun r22=>if r22 = true then ((F154.f a1).bind (fun r24=>some r24)) else (some false))) else none)) else none) else (some false) : Option Bool).bind (fun q15=>some ((t3,q15))))
theorem F125b0.ok {l0 : (List Int)} {a1 : Int} {A0 : Option Addr} {c0 : Nat} {r : Int × Bool} (H : F125b0.f k l0 a1 = some r) : SCA Tryz.prog 125 #[.slice A0 l0.length c0,il' a1] [bl' 3 A0 c0 l0] (fun v B=>v = .tuple #[il' r.1,.bool r.2]∧B = [bl' 3 A0 c0 l0]):=by
 refine SCA_of_body Tryz.func125 rfl rfl ?_
 unfold F125b0.f at H
 refine qr' ?_
 refine s' (il' 0) as' ?_
 refine s' (.bool false) as' ?_
 refine nr' ?_
 refine s' (.slice A0 l0.length c0) mv' ?_
 refine s' (il' (l0.length : Int)) (V_len Tryz.underlying29 rfl) ?_
 obtain⟨n2,hn2,H⟩:=g_lt H
 refine s' (il' n2) (V_assign (v:=il' n2) (congrArg (Value.int .i64) hn2.symm)) ?_
 refine nr' ?_
 refine s' (il' n2) mv' ?_
 refine s' (il' 0) as' ?_
 refine s' (il' n2) as' ?_
 refine na' (SA_seq ?_)
 obtain⟨t3,H,Bt3⟩:=g_bind H
 refine SA_mid (fun e ds As=>St [(0,.slice A0 l0.length c0),(1,il' a1),(6,il' n2),(7,il' t3)] [bl' 3 A0 c0 l0] e ds As) ?_ ?_
 ·refine SA_block ?_
  refine SA_loop (fun k_ e ds As=>∃ (x7_3 : Int) (x8_3 : Int),F125b0.l0 l0 a1 k_ x7_3 x8_3 = some t3∧St [(0,.slice A0 l0.length c0),(1,il' a1),(6,il' n2),(7,il' x7_3),(8,il' x8_3)] [bl' 3 A0 c0 l0] e ds As) (k:=k) ⟨_,_,H,sq' [0]⟩ ?_
  clear H
  rintro k4 e ds As ⟨x7_3,x8_3,H,hst5⟩
  obtain _ | k4:=k4
  ·cases H
  rw [F125b0.l0] at H
  refine SA.of_St hst5 fun junk=>?_
  refine SA_seq (qr' ?_)
  refine s' (il' x7_3) mv' ?_
  refine s' (il' x8_3) mv' ?_
  refine s' (.bool (decide (x7_3 < x8_3))) (V_lss rfl rfl) ?_
  refine na' ?_
  by_cases h6 : x7_3 < x8_3
  ·replace H:=g_ift h6 H
   refine SA_condT rfl h6 ?_
   refine SA_skip (at_normal (SA_block (qr' ?_)))
   refine s' (il' x7_3) mv' ?_
   refine s' (il' x8_3) mv' ?_
   refine s' (il' (IntKind.i64.wrap (x7_3 + x8_3))) (V_add rfl rfl) ?_
   refine s' (.int .u64 (IntKind.u64.wrap (IntKind.i64.wrap (x7_3 + x8_3)))) (V_conv (T:=3) (by kernel_rfl) Tryz.underlying146 rfl) ?_
   refine s' (.int .u64 (shrI .u64 (IntKind.u64.wrap (IntKind.i64.wrap (x7_3 + x8_3))) 1)) (V_shr rfl rfl (by decide)) ?_
   refine s' (il' (IntKind.i64.wrap (shrI .u64 (IntKind.u64.wrap (IntKind.i64.wrap (x7_3 + x8_3))) 1))) (V_conv (T:=146) (by kernel_rfl) Tryz.underlying3 rfl) ?_
   obtain⟨n7,hn7,H⟩:=g_lt H
   refine s' (il' n7) (V_assign (v:=il' n7) (congrArg (Value.int .i64) hn7.symm)) ?_
   refine nr' ?_
   refine s' (.slice A0 l0.length c0) mv' ?_
   refine s' (il' n7) mv' ?_
   obtain⟨⟨g8,g9⟩,H⟩:=g_pos H
   refine l' (VR_index (i:=n7) Tryz.underlying29 sz3 rfl rfl (Src.buf (k:=0) rfl) g8 g9) ?_
   refine l' (VR_load_el (enc:=(fun x_ : Int=>[Value.int .i64 x_])) (i:=n7) (j:=n7.toNat * 1) (m:=0) (sz:=1) Tryz.underlying3 rfl rfl rfl rfl (Src.buf (k:=0) rfl) g8 g9 (fun _ _ h=>h) rfl) ?_
   refine s' (il' a1) mv' ?_
   obtain⟨r10,C13,H⟩:=g_bind H
   refine o' (ca' [] [0] (xf' [il' (rd l0 n7),il' a1]) (F153.ok (a0:=rd l0 n7) (a1:=a1) C13) ?_)
   rintro _ _⟨rfl,rfl⟩
   refine na' ?_
   by_cases h11 : r10 = true
   ·replace H:=g_ift h11 H
    refine SA_condTb rfl h11 ?_
    refine SA_region ?_
    refine s' (il' n7) mv' ?_
    refine s' (il' (IntKind.i64.wrap (n7 + 1))) (V_add rfl rfl) ?_
    obtain⟨n12,hn12,H⟩:=g_lt H
    refine s' (il' n12) (V_assign (v:=il' n12) (congrArg (Value.int .i64) hn12.symm)) ?_
    refine RA_nil (inb_normal ?_)
    exact at_normal ⟨k4,Nat.lt_succ_self _,_,_,H,sq' [0]⟩
   replace H:=g_iff h11 H
   refine SA_condFb rfl h11 ?_
   refine SA_region ?_
   refine s' (il' n7) mv' ?_
   refine s' (il' n7) as' ?_
   refine RA_nil (inb_normal ?_)
   exact at_normal ⟨k4,Nat.lt_succ_self _,_,_,H,sq' [0]⟩
  replace H:=g_iff h6 H
  refine SA_condF rfl h6 ?_
  refine SA_exit (thn_exit (thn_exit (inb_hit ?_)))
  have h_:=oi' H;subst h_
  exact sm' [0]
 rintro e ds As hst14
 clear H
 have H:=Bt3
 clear Bt3
 refine at_normal ?_
 refine SA.of_St hst14 fun junk=>?_
 refine qr' ?_
 refine s' (il' t3) mv' ?_
 refine s' (il' t3) mv' ?_
 refine s' (il' n2) mv' ?_
 refine s' (.bool (decide (t3 < n2))) (V_lss rfl rfl) ?_
 refine s' (.bool (decide (t3 < n2))) mv' ?_
 obtain⟨q15,H,Bq15⟩:=g_bind H
 refine cR' 18 [(31,il' t3),(53,.bool q15)] [bl' 3 A0 c0 l0] ?_ fun junk=>?_
 ·by_cases h16 : t3 < n2
  ·replace H:=g_ift h16 H
   refine y' (dec_t h16) (.slice A0 l0.length c0) mv' ?_
   refine y' (dec_t h16) (il' t3) mv' ?_
   obtain⟨⟨g17,g18⟩,H⟩:=g_pos H
   refine z' (dec_t h16) (VR_index (i:=t3) Tryz.underlying29 sz3 rfl rfl (Src.buf (k:=0) rfl) g17 g18) ?_
   refine z' (dec_t h16) (VR_load_el (enc:=(fun x_ : Int=>[Value.int .i64 x_])) (i:=t3) (j:=t3.toNat * 1) (m:=0) (sz:=1) Tryz.underlying3 rfl rfl rfl rfl (Src.buf (k:=0) rfl) g17 g18 (fun _ _ h=>h) rfl) ?_
   refine y' (dec_t h16) (il' a1) mv' ?_
   refine y' (dec_t h16) (.bool (decide ((rd l0 t3) = a1))) (V_eql rfl rfl) ?_
   refine y' (dec_t h16) (.bool (decide ((rd l0 t3) = a1))) mv' ?_
   by_cases h19 : (rd l0 t3) = a1
   ·replace H:=g_ift h19 H
    refine no' 6 (dec_t h19) ?_
    refine nu' ?_
    refine nu' ?_
    refine no' 1 (dec_t h19) ?_
    refine yo' (dec_t h16) (OA_v rfl (V_pickT rfl (dec_t h19) rfl) ?_)
    refine pT' (dec_t h16) ?_
    have h_:=oi' H;subst h_
    exact rm' [0]
   replace H:=g_iff h19 H
   refine y' (dec_f h19) (.slice A0 l0.length c0) mv' ?_
   refine y' (dec_f h19) (il' t3) mv' ?_
   obtain⟨⟨g20,g21⟩,H⟩:=g_pos H
   refine z' (dec_f h19) (VR_index (i:=t3) Tryz.underlying29 sz3 rfl rfl (Src.buf (k:=0) rfl) g20 g21) ?_
   refine z' (dec_f h19) (VR_load_el (enc:=(fun x_ : Int=>[Value.int .i64 x_])) (i:=t3) (j:=t3.toNat * 1) (m:=0) (sz:=1) Tryz.underlying3 rfl rfl rfl rfl (Src.buf (k:=0) rfl) g20 g21 (fun _ _ h=>h) rfl) ?_
   obtain⟨r22,C26,H⟩:=g_bind H
   refine yo' (dec_f h19) (ca' [] [0] (xf' [il' (rd l0 t3)]) (F154.ok (a0:=rd l0 t3) C26) ?_)
   rintro _ _⟨rfl,rfl⟩
   refine y' (dec_f h19) (.bool r22) mv' ?_
   by_cases h23 : r22 = true
   ·replace H:=g_ift h23 H
    refine y' h23 (il' a1) mv' ?_
    obtain⟨r24,C25,H⟩:=g_bind H
    refine yo' h23 (ca' [] [0] (xf' [il' a1]) (F154.ok (a0:=a1) C25) ?_)
    rintro _ _⟨rfl,rfl⟩
    refine yo' (dec_f h19) (OA_v rfl (V_pickT rfl (h23) rfl) ?_)
    refine yo' (dec_t h16) (OA_v rfl (V_pickF rfl (dec_f h19) rfl) ?_)
    refine pT' (dec_t h16) ?_
    have h_:=oi' H;subst h_
    exact rm' [0]
   replace H:=g_iff h23 H
   refine no' 2 (bno h23) ?_
   refine yo' (dec_f h19) (OA_v rfl (V_pickF rfl (bno h23) rfl) ?_)
   refine yo' (dec_t h16) (OA_v rfl (V_pickF rfl (dec_f h19) rfl) ?_)
   refine pT' (dec_t h16) ?_
   have h_:=oi' H;subst h_
   exact rm' [0]
  replace H:=g_iff h16 H
  refine no' 7 (dec_f h16) ?_
  refine nu' ?_
  refine nu' ?_
  refine nu' ?_
  refine nu' ?_
  refine nu' ?_
  refine nu' ?_
  refine nu' ?_
  refine nu' ?_
  refine nu' ?_
  refine no' 1 (dec_f h16) ?_
  refine pF' (dec_f h16) ?_
  have h_:=oi' H;subst h_
  exact rm' [0]
 replace H:=Bq15
 refine s' (il' t3) as' ?_
 refine s' (.bool q15) as' ?_
 refine nt' ?_
 have h_:=oi' H;subst h_
 exact BQ_R2 [bl' 3 A0 c0 l0] rfl rfl rfl (gs' [0]) ⟨rfl,rfl⟩


def F126Lb_0_.f (k : Nat) (p0 : S34) : Option (S34):=if p0.f1 = p0.f5 then ((F131i34m0b_0_.f k p0 p0.f5 p0.f6 (-1) p0.f4).bind (fun r1874=>some (r1874))) else (if p0.f1 > 0 then (some (({ p0 with f1:=(IntKind.i64.wrap (p0.f1 - 1)) }))) else (some (p0)))
theorem F126Lb_0_.ok {p0 : S34} {r : S34} (H : F126Lb_0_.f k p0 = some r) : SCA Tryz.prog 126 #[.agg #[.pointer (some ⟨b0_,0,none⟩)]] [Blk b0_ 34 (c34' p0 A0_0 c0_0 A0_1 c0_1 A0_2 c0_2 A0_3 c0_3),Buf k55 55 A0_0 c0_0 p0.f0.f2,bl' 3 A0_1 c0_1 p0.f7,Buf k55 55 A0_2 c0_2 p0.f16.f2,bw' 21 A0_3 c0_3 p0.f17] (fun v B=>∃ P0_0_ q0_0_ P0_1_ q0_1_ P0_2_ q0_2_ P0_3_ q0_3_,v = .tuple #[]∧B = [Blk b0_ 34 (c34' r P0_0_ q0_0_ P0_1_ q0_1_ P0_2_ q0_2_ P0_3_ q0_3_),Buf k55 55 P0_0_ q0_0_ r.f0.f2,bl' 3 P0_1_ q0_1_ r.f7,Buf k55 55 P0_2_ q0_2_ r.f16.f2,bw' 21 P0_3_ q0_3_ r.f17]):=by
 refine SCA_of_body Tryz.func126 rfl rfl ?_
 unfold F126Lb_0_.f at H
 refine qr' ?_
 refine o' (bx' fun b6=>?_)
 refine na' (SA_block (SA_seq ?_))
 refine SA_drawHq (rg' 0 12) #[[],[0],[0,1],[0,1,2],(rg' 0 4),[],[5],[5,6],[5,6,7],(rg' 5 4),(rg' 0 10),(rg' 0 11)] [0,5] (rg' 1 4) mixed rfl rfl rfl (PanOk.thn (PanOk.inb PanOk.body)) fun I0 hS h0 hh0 w0 sH dd pk=>?_
 refine t' (pt' b6) 0 rfl sH (fa' b6 0 0) ?_
 refine r' 1 rfl sH (ld' b6 0 1) ?_
 refine t' (pt' b0_) 2 rfl sH nc' ?_
 refine t' (pa' b0_ 3) 3 rfl sH (fa' b0_ 0 3) ?_
 refine r' 4 rfl sH (ld' b0_ 3 0) ?_
 refine t' (pt' b6) 5 rfl sH (fa' b6 0 0) ?_
 refine r' 6 rfl sH (ld' b6 0 1) ?_
 refine t' (pt' b0_) 7 rfl sH nc' ?_
 refine t' (pa' b0_ 16) 8 rfl sH (fa' b0_ 0 16) ?_
 refine r' 9 rfl sH (ld' b0_ 16 0) ?_
 refine t' (.bool (decide (p0.f1 = p0.f5))) 10 rfl sH (V_eql rfl rfl) ?_
 refine t' (.bool (decide (p0.f1 = p0.f5))) 11 rfl sH as' ?_
 refine DH_open dd sH ?_
 refine DN_done (by kernel_rfl) ?_
 refine at_normal ?_
 by_cases h729 : p0.f1 = p0.f5
 ·replace H:=g_ift h729 H
  refine SA_condT rfl h729 ?_
  refine fc' 2 fun hc730=>?_
  refine fc' 3 fun hc731=>?_
  refine fc' 4 fun hc732=>?_
  refine fc' 5 fun hc733=>?_
  refine SA_drawHq (rg' 0 19) (List.toArray ([]::[0]::[0,1]::[0,1,2]::[]::[4]::[4,5]::[4,5,6]::(rg' 4 4)::[]::[9]::[9,10]::[9,10,11]::(rg' 9 4)::[]::[14]::[14,15]::[14,15,16]::(rg' 14 4)::(rg' 0 19)::[])) [0,1] (rg' 2 4) mixed rfl rfl rfl (PanOk.inb PanOk.body) fun I0 hS h0 hh0 w0 sH dd pk=>?_
  refine t' (pt' b6) 0 rfl sH (fa' b6 0 0) ?_
  refine r' 1 rfl sH (ld' b6 0 1) ?_
  refine t' (pt' b0_) 2 rfl sH nc' ?_
  refine t' (pt' b0_) 3 rfl sH (fa' b0_ 0 0) ?_
  refine t' (pt' b6) 4 rfl sH (fa' b6 0 0) ?_
  refine r' 5 rfl sH (ld' b6 0 1) ?_
  refine t' (pt' b0_) 6 rfl sH nc' ?_
  refine t' (pa' b0_ 16) 7 rfl sH (fa' b0_ 0 16) ?_
  refine r' 8 rfl sH (ld' b0_ 16 0) ?_
  refine t' (pt' b6) 9 rfl sH (fa' b6 0 0) ?_
  refine r' 10 rfl sH (ld' b6 0 1) ?_
  refine t' (pt' b0_) 11 rfl sH nc' ?_
  refine t' (pa' b0_ 17) 12 rfl sH (fa' b0_ 0 17) ?_
  refine r' 13 rfl sH (ld' b0_ 17 0) ?_
  refine t' (pt' b6) 14 rfl sH (fa' b6 0 0) ?_
  refine r' 15 rfl sH (ld' b6 0 1) ?_
  refine t' (pt' b0_) 16 rfl sH nc' ?_
  refine t' (pa' b0_ 6) 17 rfl sH (fa' b0_ 0 6) ?_
  refine r' 18 rfl sH (lA' b0_ 6 0 (c28' p0.f4)) ?_
  refine DH_open dd sH ?_
  obtain⟨r1874,C1887,H⟩:=g_bind H
  refine DN_one 19 (by kernel_rfl) rfl rfl (.no rfl) (ca' [0,2,3,4,5] [1] (xf' [pt' b0_,il' p0.f5,il' p0.f6,il' (-1),.agg (c28' p0.f4).toArray]) (F131i34m0b_0_.ok (b0_:=b0_) (p0:=p0) (a1:=p0.f5) (a2:=p0.f6) (a3:=(-1)) (a4:=p0.f4) C1887) ?_)
  rintro _ _⟨A1875,c1876,A1878,c1879,A1881,c1882,A1884,c1885,rfl,rfl⟩
  refine DN_done (by kernel_rfl) ?_
  refine inb_normal ?_
  have h_:=oi' H;subst h_
  exact bn' [0,1,2,3,4] ⟨A1875,c1876,A1878,c1879,A1881,c1882,A1884,c1885,rfl,rfl⟩
 replace H:=g_iff h729 H
 refine SA_condF rfl h729 ?_
 refine qr' ?_
 refine s' (pt' b6) (fa' b6 0 0) ?_
 refine l' (ld' b6 0 1) ?_
 refine s' (pt' b0_) nc' ?_
 refine s' (pa' b0_ 3) (fa' b0_ 0 3) ?_
 refine l' (ld' b0_ 3 0) ?_
 refine s' (.bool (decide (p0.f1 > 0))) (V_gtr rfl rfl) ?_
 refine s' (.bool (decide (p0.f1 > 0))) as' ?_
 refine na' ?_
 by_cases h1935 : p0.f1 > 0
 ·replace H:=g_ift h1935 H
  refine SA_condT rfl h1935 ?_
  refine SA_region ?_
  refine s' (pt' b6) (fa' b6 0 0) ?_
  refine l' (ld' b6 0 1) ?_
  refine s' (pt' b0_) nc' ?_
  refine s' (pa' b0_ 3) (fa' b0_ 0 3) ?_
  refine l' (ld' b0_ 3 0) ?_
  refine s' (il' (IntKind.i64.wrap (p0.f1 - 1))) (V_sub rfl rfl) ?_
  refine s' (pt' b0_) nc' ?_
  refine s' (pa' b0_ 3) (fa' b0_ 0 3) ?_
  refine o' (st' b0_ 3 0 [il' (IntKind.i64.wrap (p0.f1 - 1))] (c34' ({ p0 with f1:=(IntKind.i64.wrap (p0.f1 - 1)) }) A0_0 c0_0 A0_1 c0_1 A0_2 c0_2 A0_3 c0_3) ?_)
  refine RA_nil (inb_normal ?_)
  have h_:=oi' H;subst h_
  exact bn' [0,2,3,4,5] ⟨A0_0,c0_0,A0_1,c0_1,A0_2,c0_2,A0_3,c0_3,rfl,rfl⟩
 replace H:=g_iff h1935 H
 refine SA_condF rfl h1935 ?_
 refine SA_skip (inb_normal ?_)
 have h_:=oi' H;subst h_
 exact bn' [0,2,3,4,5] ⟨A0_0,c0_0,A0_1,c0_1,A0_2,c0_2,A0_3,c0_3,rfl,rfl⟩


def F75Lb_0_.f (k : Nat) (p0 : S34) (a1 : Int) : Option (S34):=(if a1 = 8 then (some (Out.go ({ p0 with f2:=(maxI (IntKind.i64.wrap (p0.f2 - 1)) 0) }))) else (if a1 = 9 then ((F125b0.f k p0.f7 p0.f2).bind (fun r1349=>(if r1349.2 = true then (lt (IntKind.i64.wrap (r1349.1 + 1)) fun n1712=>some n1712) else (some r1349.1) : Option (Int)).bind (fun t1710=>(F120Lb_0_.f p0).bind (fun r1894=>if t1710 < (p0.f7.length : Int) then (if 0 ≤ t1710∧t1710 < (p0.f7.length : Int) then (some (Out.go ({ p0 with f2:=(rd p0.f7 t1710) }))) else none) else (some (Out.go ({ p0 with f2:=r1894 }))))))) else ((if a1 = 10 then (some (decide (a1 = 10))) else (if a1 = 11 then (some (decide (a1 = 11))) else (some (decide (a1 = 12)))) : Option (Bool)).bind (fun t2917=>if t2917 = true then ((F119Lb_0_.f k p0).bind (fun r2926=>some (Out.go r2926))) else (if a1 = 13 then (some (Out.go ({ p0 with f2:=0 }))) else (if a1 = 141 then ((F126Lb_0_.f k p0).bind (fun r2946=>some (Out.go r2946))) else (some (Out.ret (p0)))))))) : Option (Out (S34) (S34))).bind (fun t8=>Out.el t8 (fun r_=>some r_) (fun s9=>some (({ s9 with f3:=false }))))
theorem F75Lb_0_.ok {p0 : S34} {a1 : Int} {r : S34} (H : F75Lb_0_.f k p0 a1 = some r) : SCA Tryz.prog 75 #[.agg #[.pointer (some ⟨b0_,0,none⟩)],iw' a1] [Blk b0_ 34 (c34' p0 A0_0 c0_0 A0_1 c0_1 A0_2 c0_2 A0_3 c0_3),Buf k55 55 A0_0 c0_0 p0.f0.f2,bl' 3 A0_1 c0_1 p0.f7,Buf k55 55 A0_2 c0_2 p0.f16.f2,bw' 21 A0_3 c0_3 p0.f17] (fun v B=>∃ P0_0_ q0_0_ P0_1_ q0_1_ P0_2_ q0_2_ P0_3_ q0_3_,v = .tuple #[]∧B = [Blk b0_ 34 (c34' r P0_0_ q0_0_ P0_1_ q0_1_ P0_2_ q0_2_ P0_3_ q0_3_),Buf k55 55 P0_0_ q0_0_ r.f0.f2,bl' 3 P0_1_ q0_1_ r.f7,Buf k55 55 P0_2_ q0_2_ r.f16.f2,bw' 21 P0_3_ q0_3_ r.f17]):=by
 refine SCA_of_body Tryz.func75 rfl rfl ?_
 unfold F75Lb_0_.f at H
 refine qr' ?_
 refine o' (bx' fun b6=>?_)
 refine nq' ?_
 refine s' (iw' a1) mv' ?_
 refine na' ?_
 obtain⟨t8,H,Bt8⟩:=g_bind H
 refine SA_mid (fun e ds As=>∃ (s9 : S34),t8 = Out.go s9∧∃ (A10 : Option Addr) (c11 : Nat),∃ (A13 : Option Addr) (c14 : Nat),∃ (A16 : Option Addr) (c17 : Nat),∃ (A19 : Option Addr) (c20 : Nat),St [(2,pt' b6)] [Blk b0_ 34 (c34' s9 A10 c11 A13 c14 A16 c17 A19 c20),Buf k55 55 A10 c11 s9.f0.f2,bl' 3 A13 c14 s9.f7,Buf k55 55 A16 c17 s9.f16.f2,bw' 21 A19 c20 s9.f17,Blk b6 84 [pt' b0_]] e ds As) ?_ ?_
 ·refine SA_block (qr' ?_)
  refine s' (.bool (decide (a1 = 8))) (V_eql rfl rfl) ?_
  refine s' (.bool (decide (a1 = 8))) as' ?_
  refine na' ?_
  by_cases h22 : a1 = 8
  ·replace H:=g_ift h22 H
   refine SA_condT rfl h22 ?_
   refine SA_drawHq (rg' 0 11) #[[],[0],[],[2],[2,3],[2,3,4],(rg' 2 4),(rg' 2 5),(rg' 2 6),(rg' 0 9),(rg' 0 10),(rg' 0 11)] [0,5] (rg' 1 4) mixed rfl rfl rfl (PanOk.inb (PanOk.thn (PanOk.thn PanOk.body))) fun I0 hS h0 hh0 w0 sH dd pk=>?_
   refine t' (pt' b6) 0 rfl sH (fa' b6 0 0) ?_
   refine r' 1 rfl sH (ld' b6 0 1) ?_
   refine t' (pt' b6) 2 rfl sH (fa' b6 0 0) ?_
   refine r' 3 rfl sH (ld' b6 0 1) ?_
   refine t' (pt' b0_) 4 rfl sH nc' ?_
   refine t' (pa' b0_ 4) 5 rfl sH (fa' b0_ 0 4) ?_
   refine r' 6 rfl sH (ld' b0_ 4 0) ?_
   refine t' (il' (IntKind.i64.wrap (p0.f2 - 1))) 7 rfl sH (V_sub rfl rfl) ?_
   refine t' (il' (maxI (IntKind.i64.wrap (p0.f2 - 1)) 0)) 8 rfl sH (V_max rfl rfl) ?_
   refine t' (pt' b0_) 9 rfl sH nc' ?_
   refine t' (pa' b0_ 4) 10 rfl sH (fa' b0_ 0 4) ?_
   refine DH_open dd sH ?_
   refine DN_one 11 (by kernel_rfl) rfl rfl (.no rfl) (st' b0_ 4 0 [il' (maxI (IntKind.i64.wrap (p0.f2 - 1)) 0)] (c34' ({ p0 with f2:=(maxI (IntKind.i64.wrap (p0.f2 - 1)) 0) }) A0_0 c0_0 A0_1 c0_1 A0_2 c0_2 A0_3 c0_3) ?_)
   refine DN_done (by kernel_rfl) ?_
   refine inb_normal ?_
   have h_:=oi' H;subst h_
   exact at_normal ⟨({ p0 with f2:=(maxI (IntKind.i64.wrap (p0.f2 - 1)) 0) }),rfl,A0_0,c0_0,A0_1,c0_1,A0_2,c0_2,A0_3,c0_3,sq' [0,2,3,4,5,1]⟩
  replace H:=g_iff h22 H
  refine SA_condF rfl h22 ?_
  refine qr' ?_
  refine s' (.bool (decide (a1 = 9))) (V_eql rfl rfl) ?_
  refine s' (.bool (decide (a1 = 9))) as' ?_
  refine na' ?_
  by_cases h744 : a1 = 9
  ·replace H:=g_ift h744 H
   refine SA_condT rfl h744 ?_
   refine SA_seq ?_
   refine fc' 1 fun hc745=>?_
   refine fc' 2 fun hc746=>?_
   refine fc' 3 fun hc747=>?_
   refine fc' 4 fun hc748=>?_
   refine SA_drawHq (0::1::2::3::4::5::6::7::8::9::11::12::13::14::15::[]) (List.toArray ([]::[0]::[0,1]::[0,1,2]::(rg' 0 4)::[]::[5]::[5,6]::[5,6,7]::(rg' 5 4)::(rg' 0 10)::(rg' 0 10)::[0,1,2,3,4,5,6,7,8,9,11]::[0,1,2,3,4,5,6,7,8,9,11]::[0,1,2,3,4,5,6,7,8,9,11,12]::(0::1::2::3::4::5::6::7::8::9::11::12::13::14::[])::[])) [0,5] (rg' 1 4) mixed rfl rfl rfl (PanOk.thn (PanOk.inb (PanOk.thn (PanOk.thn PanOk.body)))) fun I0 hS h0 hh0 w0 sH dd pk=>?_
   refine t' (pt' b6) 0 rfl sH (fa' b6 0 0) ?_
   refine r' 1 rfl sH (ld' b6 0 1) ?_
   refine t' (pt' b0_) 2 rfl sH nc' ?_
   refine t' (pa' b0_ 18) 3 rfl sH (fa' b0_ 0 18) ?_
   refine r' 4 rfl sH (ld' b0_ 18 0) ?_
   refine t' (pt' b6) 5 rfl sH (fa' b6 0 0) ?_
   refine r' 6 rfl sH (ld' b6 0 1) ?_
   refine t' (pt' b0_) 7 rfl sH nc' ?_
   refine t' (pa' b0_ 4) 8 rfl sH (fa' b0_ 0 4) ?_
   refine r' 9 rfl sH (ld' b0_ 4 0) ?_
   obtain⟨r1349,C1350,H⟩:=g_bind H
   refine DH_one 10 dd (by kernel_rfl) rfl (.no rfl) (ca' [1] [0,2,3] (xf' [.slice A0_1 p0.f7.length c0_1,il' p0.f2]) (F125b0.ok (l0:=p0.f7) (A0:=A0_1) (c0:=c0_1) (a1:=p0.f2) C1350) ?_)
   rintro _ _⟨rfl,rfl⟩
   refine t' (.tuple #[il' r1349.1,.bool r1349.2]) 11 rfl sH mv' ?_
   refine t' (il' r1349.1) 12 rfl sH ex' ?_
   refine t' (.bool r1349.2) 13 rfl sH ex' ?_
   refine t' (il' r1349.1) 14 rfl sH as' ?_
   refine t' (.bool r1349.2) 15 rfl sH as' ?_
   refine DH_open dd sH ?_
   refine DN_done (by kernel_rfl) ?_
   refine at_normal (SA_seq (qr' ?_))
   refine s' (.bool r1349.2) mv' ?_
   refine na' ?_
   obtain⟨t1710,H,Bt1710⟩:=g_bind H
   refine SA_mid (fun e ds As=>St [(2,pt' b6),(4,il' t1710)] [Blk b0_ 34 (c34' p0 A0_0 c0_0 A0_1 c0_1 A0_2 c0_2 A0_3 c0_3),Buf k55 55 A0_0 c0_0 p0.f0.f2,bl' 3 A0_1 c0_1 p0.f7,Buf k55 55 A0_2 c0_2 p0.f16.f2,bw' 21 A0_3 c0_3 p0.f17,Blk b6 84 [pt' b0_]] e ds As) ?_ ?_
   ·by_cases h1711 : r1349.2 = true
    ·replace H:=g_ift h1711 H
     refine SA_condTb rfl h1711 ?_
     refine SA_region ?_
     refine s' (il' r1349.1) mv' ?_
     refine s' (il' (IntKind.i64.wrap (r1349.1 + 1))) (V_add rfl rfl) ?_
     obtain⟨n1712,hn1712,H⟩:=g_lt H
     refine s' (il' n1712) (V_assign (v:=il' n1712) (congrArg (Value.int .i64) hn1712.symm)) ?_
     refine RA_nil ?_
     have h_:=oi' H;subst h_
     exact sm' [0,3,2,4,5,1]
    replace H:=g_iff h1711 H
    refine SA_condFb rfl h1711 ?_
    refine SA_skip ?_
    have h_:=oi' H;subst h_
    exact sm' [0,3,2,4,5,1]
   rintro e ds As hst1713
   clear H
   have H:=Bt1710
   clear Bt1710
   refine at_normal ?_
   refine SA.of_St hst1713 fun junk=>?_
   refine SA_seq ?_
   refine SA_drawHq [0,1,2,4,5] #[[],[0],[],[2],[0,1,2],[0,1,2,4],[0,1,2,4,5]] [5] (rg' 0 5) mixed rfl rfl rfl (PanOk.thn (PanOk.inb (PanOk.thn (PanOk.thn PanOk.body)))) fun I0 hS h0 hh0 w0 sH dd pk=>?_
   refine t' (pt' b6) 0 rfl sH (fa' b6 0 0) ?_
   refine r' 1 rfl sH (ld' b6 0 0) ?_
   refine r' 2 rfl sH (lA' b6 0 0 [pt' b0_]) ?_
   obtain⟨r1894,C1895,H⟩:=g_bind H
   refine DH_one 3 dd (by kernel_rfl) rfl (.no rfl) (ca' [0,1,2,3,4] [] (xf' [.agg #[pt' b0_]]) (F120Lb_0_.ok (b0_:=b0_) (p0:=p0) C1895) ?_)
   rintro _ _⟨rfl,rfl⟩
   refine t' (pt' b0_) 4 rfl sH nc' ?_
   refine t' (pa' b0_ 4) 5 rfl sH (fa' b0_ 0 4) ?_
   refine DH_one 6 dd (by kernel_rfl) rfl (.no rfl) (st' b0_ 4 0 [il' r1894] (c34' ({ p0 with f2:=r1894 }) A0_0 c0_0 A0_1 c0_1 A0_2 c0_2 A0_3 c0_3) ?_)
   refine DH_open dd sH ?_
   refine DN_done (by kernel_rfl) ?_
   refine at_normal (qr' ?_)
   refine s' (il' t1710) mv' ?_
   refine s' (pt' b6) (fa' b6 0 0) ?_
   refine l' (ld' b6 0 0) ?_
   refine s' (pt' b0_) nc' ?_
   refine s' (pa' b0_ 18) (fa' b0_ 0 18) ?_
   refine l' (ld' b0_ 18 1) ?_
   refine s' (il' (p0.f7.length : Int)) (V_len Tryz.underlying29 rfl) ?_
   refine s' (.bool (decide (t1710 < (p0.f7.length : Int)))) (V_lss rfl rfl) ?_
   refine na' ?_
   by_cases h2135 : t1710 < (p0.f7.length : Int)
   ·replace H:=g_ift h2135 H
    refine SA_condT rfl h2135 ?_
    refine SA_drawHq (rg' 0 12) (List.toArray ([]::[0]::[]::[2]::[2,3]::[2,3,4]::(rg' 2 4)::[]::(rg' 2 6)::(rg' 2 7)::(rg' 0 10)::(rg' 0 11)::(rg' 0 12)::[])) [0,1,3] [2,4,5] mixed rfl rfl rfl (PanOk.inb (PanOk.thn (PanOk.thn PanOk.body))) fun I0 hS h0 hh0 w0 sH dd pk=>?_
    refine t' (pt' b6) 0 rfl sH (fa' b6 0 0) ?_
    refine r' 1 rfl sH (ld' b6 0 0) ?_
    refine t' (pt' b6) 2 rfl sH (fa' b6 0 0) ?_
    refine r' 3 rfl sH (ld' b6 0 0) ?_
    refine t' (pt' b0_) 4 rfl sH nc' ?_
    refine t' (pa' b0_ 18) 5 rfl sH (fa' b0_ 0 18) ?_
    refine r' 6 rfl sH (ld' b0_ 18 1) ?_
    refine t' (il' t1710) 7 rfl sH mv' ?_
    obtain⟨⟨g2616,g2617⟩,H⟩:=g_pos H
    refine r' 8 rfl sH (VR_index (i:=t1710) Tryz.underlying29 sz3 rfl rfl (Src.buf (k:=2) rfl) g2616 g2617) ?_
    refine r' 9 rfl sH (VR_load_el (enc:=(fun x_ : Int=>[Value.int .i64 x_])) (i:=t1710) (j:=t1710.toNat * 1) (m:=0) (sz:=1) Tryz.underlying3 rfl rfl rfl rfl (Src.buf (k:=2) rfl) g2616 g2617 (fun _ _ h=>h) rfl) ?_
    refine t' (pt' b0_) 10 rfl sH nc' ?_
    refine t' (pa' b0_ 4) 11 rfl sH (fa' b0_ 0 4) ?_
    refine DH_open dd sH ?_
    refine DN_one 12 (by kernel_rfl) rfl rfl (.no rfl) (st' b0_ 4 1 [il' (rd p0.f7 t1710)] (c34' ({ p0 with f2:=(rd p0.f7 t1710) }) A0_0 c0_0 A0_1 c0_1 A0_2 c0_2 A0_3 c0_3) ?_)
    refine DN_done (by kernel_rfl) ?_
    refine inb_normal ?_
    have h_:=oi' H;subst h_
    exact at_normal ⟨({ p0 with f2:=(rd p0.f7 t1710) }),rfl,A0_0,c0_0,A0_1,c0_1,A0_2,c0_2,A0_3,c0_3,sq' [1,3,2,4,5,0]⟩
   replace H:=g_iff h2135 H
   refine SA_condF rfl h2135 ?_
   refine SA_skip (inb_normal ?_)
   have h_:=oi' H;subst h_
   exact at_normal ⟨({ p0 with f2:=r1894 }),rfl,A0_0,c0_0,A0_1,c0_1,A0_2,c0_2,A0_3,c0_3,sq' [1,2,3,4,5,0]⟩
  replace H:=g_iff h744 H
  refine SA_condF rfl h744 ?_
  refine SA_seq (qr' ?_)
  refine s' (.bool (decide (a1 = 10))) (V_eql rfl rfl) ?_
  refine s' (.bool (decide (a1 = 10))) as' ?_
  refine na' ?_
  obtain⟨t2917,H,Bt2917⟩:=g_bind H
  refine SA_mid (fun e ds As=>St [(2,pt' b6),(6,iw' a1),(65,.bool t2917)] [Blk b0_ 34 (c34' p0 A0_0 c0_0 A0_1 c0_1 A0_2 c0_2 A0_3 c0_3),Buf k55 55 A0_0 c0_0 p0.f0.f2,bl' 3 A0_1 c0_1 p0.f7,Buf k55 55 A0_2 c0_2 p0.f16.f2,bw' 21 A0_3 c0_3 p0.f17,Blk b6 84 [pt' b0_]] e ds As) ?_ ?_
  ·by_cases h2918 : a1 = 10
   ·replace H:=g_ift h2918 H
    refine SA_condT rfl h2918 ?_
    refine SA_skip ?_
    have h_:=oi' H;subst h_
    exact sm' [0,1,2,3,4,5]
   replace H:=g_iff h2918 H
   refine SA_condF rfl h2918 ?_
   refine qr' ?_
   refine s' (.bool (decide (a1 = 11))) (V_eql rfl rfl) ?_
   refine s' (.bool (decide (a1 = 11))) as' ?_
   refine na' ?_
   by_cases h2919 : a1 = 11
   ·replace H:=g_ift h2919 H
    refine SA_condT rfl h2919 ?_
    refine SA_skip ?_
    have h_:=oi' H;subst h_
    exact sm' [0,1,2,3,4,5]
   replace H:=g_iff h2919 H
   refine SA_condF rfl h2919 ?_
   refine SA_region ?_
   refine s' (.bool (decide (a1 = 12))) (V_eql rfl rfl) ?_
   refine s' (.bool (decide (a1 = 12))) as' ?_
   refine RA_nil ?_
   have h_:=oi' H;subst h_
   exact sm' [0,1,2,3,4,5]
  rintro e ds As hst2920
  clear H
  have H:=Bt2917
  clear Bt2917
  refine at_normal ?_
  refine SA.of_St hst2920 fun junk=>?_
  by_cases h2921 : t2917 = true
  ·replace H:=g_ift h2921 H
   refine SA_condTb rfl h2921 ?_
   refine fc' 1 fun hc2922=>?_
   refine fc' 2 fun hc2923=>?_
   refine fc' 3 fun hc2924=>?_
   refine fc' 4 fun hc2925=>?_
   refine SA_region ?_
   refine l' (lA' b6 0 5 [pt' b0_]) ?_
   obtain⟨r2926,C2939,H⟩:=g_bind H
   refine o' (ca' [0,1,2,3,4] [5] (xf' [.agg #[pt' b0_]]) (F119Lb_0_.ok (b0_:=b0_) (p0:=p0) C2939) ?_)
   rintro _ _⟨A2927,c2928,A2930,c2931,A2933,c2934,A2936,c2937,rfl,rfl⟩
   refine RA_nil (inb_normal ?_)
   have h_:=oi' H;subst h_
   exact at_normal ⟨r2926,rfl,A2927,c2928,A2930,c2931,A2933,c2934,A2936,c2937,sq' [0,1,2,3,4,5]⟩
  replace H:=g_iff h2921 H
  refine SA_condFb rfl h2921 ?_
  refine qr' ?_
  refine s' (.bool (decide (a1 = 13))) (V_eql rfl rfl) ?_
  refine s' (.bool (decide (a1 = 13))) as' ?_
  refine na' ?_
  by_cases h2940 : a1 = 13
  ·replace H:=g_ift h2940 H
   refine SA_condT rfl h2940 ?_
   refine SA_region ?_
   refine s' (pt' b6) (fa' b6 0 0) ?_
   refine l' (ld' b6 0 5) ?_
   refine s' (pt' b0_) nc' ?_
   refine s' (pa' b0_ 4) (fa' b0_ 0 4) ?_
   refine o' (st' b0_ 4 0 [il' 0] (c34' ({ p0 with f2:=0 }) A0_0 c0_0 A0_1 c0_1 A0_2 c0_2 A0_3 c0_3) ?_)
   refine RA_nil (inb_normal ?_)
   have h_:=oi' H;subst h_
   exact at_normal ⟨({ p0 with f2:=0 }),rfl,A0_0,c0_0,A0_1,c0_1,A0_2,c0_2,A0_3,c0_3,sq' [0,1,2,3,4,5]⟩
  replace H:=g_iff h2940 H
  refine SA_condF rfl h2940 ?_
  refine qr' ?_
  refine s' (.bool (decide (a1 = 141))) (V_eql rfl rfl) ?_
  refine s' (.bool (decide (a1 = 141))) as' ?_
  refine na' ?_
  by_cases h2941 : a1 = 141
  ·replace H:=g_ift h2941 H
   refine SA_condT rfl h2941 ?_
   refine fc' 1 fun hc2942=>?_
   refine fc' 2 fun hc2943=>?_
   refine fc' 3 fun hc2944=>?_
   refine fc' 4 fun hc2945=>?_
   refine SA_region ?_
   refine l' (lA' b6 0 5 [pt' b0_]) ?_
   obtain⟨r2946,C2959,H⟩:=g_bind H
   refine o' (ca' [0,1,2,3,4] [5] (xf' [.agg #[pt' b0_]]) (F126Lb_0_.ok (b0_:=b0_) (p0:=p0) C2959) ?_)
   rintro _ _⟨A2947,c2948,A2950,c2951,A2953,c2954,A2956,c2957,rfl,rfl⟩
   refine RA_nil (inb_normal ?_)
   have h_:=oi' H;subst h_
   exact at_normal ⟨r2946,rfl,A2947,c2948,A2950,c2951,A2953,c2954,A2956,c2957,sq' [0,1,2,3,4,5]⟩
  replace H:=g_iff h2941 H
  refine SA_condF rfl h2941 ?_
  refine SA_ret (inb_ret (thn_ret (thn_ret ?_)))
  have h_:=oi' H;subst h_
  have hb_:=el_ret Bt8
  have hr_:=Option.some.inj hb_
  clear hb_
  subst hr_
  exact BQ_R0 [Blk b0_ 34 (c34' p0 A0_0 c0_0 A0_1 c0_1 A0_2 c0_2 A0_3 c0_3),Buf k55 55 A0_0 c0_0 p0.f0.f2,bl' 3 A0_1 c0_1 p0.f7,Buf k55 55 A0_2 c0_2 p0.f16.f2,bw' 21 A0_3 c0_3 p0.f17] rfl (gs' [0,1,2,3,4]) ⟨A0_0,c0_0,A0_1,c0_1,A0_2,c0_2,A0_3,c0_3,rfl,rfl⟩
 rintro e ds As ⟨s9,ht,A10,c11,A13,c14,A16,c17,A19,c20,hst2960⟩
 clear H
 subst ht
 replace Bt8:=el_go Bt8
 have H:=Bt8
 clear Bt8
 refine at_normal ?_
 refine SA.of_St hst2960 fun junk=>?_
 refine SA_region ?_
 refine s' (pt' b6) (fa' b6 0 0) ?_
 refine l' (ld' b6 0 5) ?_
 refine s' (pt' b0_) nc' ?_
 refine s' (pa' b0_ 5) (fa' b0_ 0 5) ?_
 refine o' (st' b0_ 5 0 [.bool false] (c34' ({ s9 with f3:=false }) A10 c11 A13 c14 A16 c17 A19 c20) ?_)
 refine RA_nil ?_
 have h_:=oi' H;subst h_
 exact bn' [0,1,2,3,4] ⟨A10,c11,A13,c14,A16,c17,A19,c20,rfl,rfl⟩


def F74Lb_0_.f (k : Nat) (p0 : S34) (p1 : Int) : Option (S34):=(F75Lb_0_.f k p0 p1).bind (fun r13=>some (r13))
theorem F74Lb_0_.ok {p0 : S34} {p1 : Int} {r : S34} (H : F74Lb_0_.f k p0 p1 = some r) : SCA Tryz.prog 74 #[.agg #[.pointer (some ⟨b0_,0,none⟩)],.pointer (some ⟨b1_,0,none⟩)] [Blk b0_ 34 (c34' p0 A0_0 c0_0 A0_1 c0_1 A0_2 c0_2 A0_3 c0_3),Buf k55 55 A0_0 c0_0 p0.f0.f2,bl' 3 A0_1 c0_1 p0.f7,Buf k55 55 A0_2 c0_2 p0.f16.f2,bw' 21 A0_3 c0_3 p0.f17,Blk b1_ 21 [iw' p1]] (fun v B=>∃ P0_0_ q0_0_ P0_1_ q0_1_ P0_2_ q0_2_ P0_3_ q0_3_,v = .tuple #[]∧B = [Blk b0_ 34 (c34' r P0_0_ q0_0_ P0_1_ q0_1_ P0_2_ q0_2_ P0_3_ q0_3_),Buf k55 55 P0_0_ q0_0_ r.f0.f2,bl' 3 P0_1_ q0_1_ r.f7,Buf k55 55 P0_2_ q0_2_ r.f16.f2,bw' 21 P0_3_ q0_3_ r.f17,Blk b1_ 21 [iw' p1]]):=by
 refine SCA_of_body Tryz.func74 rfl rfl ?_
 unfold F74Lb_0_.f at H
 refine qr' ?_
 refine o' (bx' fun b7=>?_)
 refine na' ?_
 refine fc' 1 fun hc9=>?_
 refine fc' 2 fun hc10=>?_
 refine fc' 3 fun hc11=>?_
 refine fc' 4 fun hc12=>?_
 refine SA_region ?_
 refine l' (lA' b7 0 6 [pt' b0_]) ?_
 refine l' (ld' b1_ 0 5) ?_
 obtain⟨r13,C26,H⟩:=g_bind H
 refine o' (ca' [0,1,2,3,4] [5,6] (xf' [.agg #[pt' b0_],iw' p1]) (F75Lb_0_.ok (b0_:=b0_) (p0:=p0) (a1:=p1) C26) ?_)
 rintro _ _⟨A14,c15,A17,c18,A20,c21,A23,c24,rfl,rfl⟩
 refine RA_nil ?_
 have h_:=oi' H;subst h_
 exact bn' [0,1,2,3,4,5] ⟨A14,c15,A17,c18,A20,c21,A23,c24,rfl,rfl⟩


def F62f74x_1_.f (k : Nat) (a0 : S34) (p2000 : Int) : Option (S34 × Int):=(F16b0.f k a0).bind (fun r10=>if (!r10) = true then (some (((S34.mk (S26.mk 0 0 ([] : (List S55))) 0 0 false (S28.mk 0 0 false false false false false false false false) 0 0 ([] : (List Int)) false false false false false false (S31.mk 0 0 false false (S28.mk 0 0 false false false false false false false false)) false (S26.mk 0 0 ([] : (List S55))) ([] : (List Int))),2))) else ((F97.f a0).bind (fun r16=>(F74Lb_0_.f k r16 p2000).bind (fun r29=>some ((r29,0))))))
theorem F62f74x_1_.ok {a0 : S34} {p2000 : Int} {r : S34 × Int} (H : F62f74x_1_.f k a0 p2000 = some r) : SCA Tryz.prog 62 #[.agg (c34' a0 A0_0 c0_0 A0_1 c0_1 A0_2 c0_2 A0_3 c0_3).toArray,.func (.func 74) #[] #[.pointer (some ⟨b2000_,0,none⟩)]] [Ro k55 A0_0 c0_0 a0.f0.f2,rl' A0_1 c0_1 a0.f7,Ro k55 A0_2 c0_2 a0.f16.f2,rw' A0_3 c0_3 a0.f17,Blk b2000_ 21 [iw' p2000]] (fun v B=>∃ A0_0_ c0_0_ A0_1_ c0_1_ A0_2_ c0_2_ A0_3_ c0_3_,v = .tuple #[.agg (c34' r.1 A0_0_ c0_0_ A0_1_ c0_1_ A0_2_ c0_2_ A0_3_ c0_3_).toArray,il' r.2]∧B = [Buf k55 55 A0_0_ c0_0_ r.1.f0.f2,bl' 3 A0_1_ c0_1_ r.1.f7,Buf k55 55 A0_2_ c0_2_ r.1.f16.f2,bw' 21 A0_3_ c0_3_ r.1.f17,Blk b2000_ 21 [iw' p2000]]):=by
 refine SCA_of_body Tryz.func62 rfl rfl ?_
 unfold F62f74x_1_.f at H
 refine qr' ?_
 refine o' (bx' fun b6=>?_)
 refine o' (al' fun b8=>?_)
 refine s' (il' 0) as' ?_
 refine nq' ?_
 refine l' (lA' b6 0 5 (c34' a0 A0_0 c0_0 A0_1 c0_1 A0_2 c0_2 A0_3 c0_3)) ?_
 obtain⟨r10,C44,H⟩:=g_bind H
 refine o' (ca' [0,1,2,3] [0,1,2,3,4,5,6] (xf' [.agg (c34' a0 A0_0 c0_0 A0_1 c0_1 A0_2 c0_2 A0_3 c0_3).toArray]) (F16.ok (a0:=a0) C44) ?_)
 rintro _ _⟨rfl,rfl⟩
 refine s' (.bool (!r10)) (V_not rfl) ?_
 refine na' ?_
 by_cases h11 : (!r10) = true
 ·replace H:=g_ift h11 H
  refine SA_condTb rfl h11 ?_
  refine qr' ?_
  refine s' (.agg (c34' z34' none 0 none 0 none 0 none 0).toArray) bd' ?_
  refine o' (su' b8 0 6 (c34' z34' none 0 none 0 none 0 none 0) ?_)
  refine s' (il' 2) as' ?_
  refine ntt' ?_
  have h_:=oi' H;subst h_
  exact BQ_RL (rs:=[.cell 4 34,.tmp 5]) (vs:=[.agg (c34' z34' none 0 none 0 none 0 none 0).toArray,il' 2]) [Buf k55 55 none 0 ([] : (List S55)),bl' 3 none 0 ([] : (List Int)),Buf k55 55 none 0 ([] : (List S55)),bw' 21 none 0 ([] : (List Int)),Blk b2000_ 21 [iw' p2000]] rfl ⟨RV.cell (k:=6) rfl rfl Tryz.underlying34 rfl sz34,RV.tmp rfl,trivial⟩ rfl ((Gh.nilBuf k55 55).trans ((Gh.nilBuf (Kd.int .i64) 3).trans ((Gh.nilBuf k55 55).trans ((Gh.nilBuf (Kd.int .i32) 21).trans (gs' [7,8,9,10,4]))))) ⟨none,0,none,0,none,0,none,0,rfl,rfl⟩
 replace H:=g_iff h11 H
 refine SA_condFb rfl h11 ?_
 refine SA_skip (at_normal (qr' ?_))
 refine l' (lA' b6 0 5 (c34' a0 A0_0 c0_0 A0_1 c0_1 A0_2 c0_2 A0_3 c0_3)) ?_
 obtain⟨r16,C43,H⟩:=g_bind H
 refine o' (ca' [0,1,2,3] [0,1,2,3,4,5,6] (xf' [.agg (c34' a0 A0_0 c0_0 A0_1 c0_1 A0_2 c0_2 A0_3 c0_3).toArray]) (F97.ok (a0:=a0) C43) ?_)
 rintro _ _⟨A17,c18,A20,c21,A23,c24,A26,c27,rfl,rfl⟩
 refine o' (su' b6 0 9 (c34' r16 A17 c18 A20 c21 A23 c24 A26 c27) ?_)
 refine nr' ?_
 refine s' (.func (.func 74) #[] #[pt' b2000_]) mv' ?_
 refine s' (.agg #[pt' b6]) bd' ?_
 obtain⟨r29,C42,H⟩:=g_bind H
 refine o' (ca' [9,0,1,2,3,8] [4,5,6,7,10] (X_fnV (vs:=[.agg #[pt' b6]]) (cap:=[pt' b2000_]) rfl Tryz.func74 nm74 rfl rfl) (F74Lb_0_.ok (b0_:=b6) (p0:=r16) (b1_:=b2000_) (p1:=p2000) C42) ?_)
 rintro _ _⟨A30,c31,A33,c34,A36,c37,A39,c40,rfl,rfl⟩
 refine nr' ?_
 refine l' (lA' b6 0 0 (c34' r29 A30 c31 A33 c34 A36 c37 A39 c40)) ?_
 refine o' (su' b8 0 10 (c34' r29 A30 c31 A33 c34 A36 c37 A39 c40) ?_)
 refine s' (il' 0) as' ?_
 refine nt' ?_
 have h_:=oi' H;subst h_
 exact b2' [.cell 4 34,.tmp 5] [1,2,3,4,5] ⟨A30,c31,A33,c34,A36,c37,A39,c40,rfl,rfl⟩ ⟨RV.cell (k:=10) rfl rfl Tryz.underlying34 rfl sz34,RV.tmp rfl,trivial⟩


def F28.f (k : Nat) (a0 : S34) (a1 : Int) : Option (S34 × Int):=(F62f74x_1_.f k a0 a1).bind (fun r11=>some ((r11.1,r11.2)))
theorem F28.ok {a0 : S34} {a1 : Int} {r : S34 × Int} (H : F28.f k a0 a1 = some r) : SCA Tryz.prog 28 #[.agg (c34' a0 A0_0 c0_0 A0_1 c0_1 A0_2 c0_2 A0_3 c0_3).toArray,iw' a1] [Ro k55 A0_0 c0_0 a0.f0.f2,rl' A0_1 c0_1 a0.f7,Ro k55 A0_2 c0_2 a0.f16.f2,rw' A0_3 c0_3 a0.f17] (fun v B=>∃ A0_0_ c0_0_ A0_1_ c0_1_ A0_2_ c0_2_ A0_3_ c0_3_,v = .tuple #[.agg (c34' r.1 A0_0_ c0_0_ A0_1_ c0_1_ A0_2_ c0_2_ A0_3_ c0_3_).toArray,il' r.2]∧B = [Buf k55 55 A0_0_ c0_0_ r.1.f0.f2,bl' 3 A0_1_ c0_1_ r.1.f7,Buf k55 55 A0_2_ c0_2_ r.1.f16.f2,bw' 21 A0_3_ c0_3_ r.1.f17]):=by
 refine SCA_of_body Tryz.func28 rfl rfl ?_
 unfold F28.f at H
 refine qr' ?_
 refine o' (bx' fun b5=>?_)
 refine o' (bx' fun b7=>?_)
 refine o' (al' fun b9=>?_)
 refine s' (il' 0) as' ?_
 refine nr' ?_
 refine l' (lA' b5 0 4 (c34' a0 A0_0 c0_0 A0_1 c0_1 A0_2 c0_2 A0_3 c0_3)) ?_
 refine s' (.func (.func 74) #[] #[pt' b7]) (V_makeFuncL (us:=[pt' b7]) rfl) ?_
 obtain⟨r11,C24,H⟩:=g_bind H
 refine o' (ca' [0,1,2,3,5] [0,1,2,3,4,6] (xf' [.agg (c34' a0 A0_0 c0_0 A0_1 c0_1 A0_2 c0_2 A0_3 c0_3).toArray,.func (.func 74) #[] #[pt' b7]]) (F62f74x_1_.ok (a0:=a0) (b2000_:=b7) (p2000:=a1) C24) ?_)
 rintro _ _⟨A12,c13,A15,c16,A18,c19,A21,c22,rfl,rfl⟩
 refine s' (.agg (c34' r11.1 A12 c13 A15 c16 A18 c19 A21 c22).toArray) ex' ?_
 refine s' (il' r11.2) ex' ?_
 refine o' (su' b9 0 10 (c34' r11.1 A12 c13 A15 c16 A18 c19 A21 c22) ?_)
 refine s' (il' r11.2) as' ?_
 refine nt' ?_
 have h_:=oi' H;subst h_
 exact b2' [.cell 4 34,.tmp 5] [0,1,2,3] ⟨A12,c13,A15,c16,A18,c19,A21,c22,rfl,rfl⟩ ⟨RV.cell (k:=10) rfl rfl Tryz.underlying34 rfl sz34,RV.tmp rfl,trivial⟩


def F127.f (a0 : Int) (a1 : Int) (a2 : Int) : Option (Int):=lt (maxI a1 (minI a0 a2)) fun n1=>some (n1)
theorem F127.ok {a0 : Int} {a1 : Int} {a2 : Int} {r : Int} (H : F127.f a0 a1 a2 = some r) : SCA Tryz.prog 127 #[il' a0,il' a1,il' a2] [] (fun v B=>v = il' r∧B = []):=by
 refine SCA_of_body Tryz.func127 rfl rfl ?_
 unfold F127.f at H
 refine qr' ?_
 refine s' (il' 0) as' ?_
 refine nr' ?_
 refine s' (il' a1) mv' ?_
 refine s' (il' a0) mv' ?_
 refine s' (il' a2) mv' ?_
 refine s' (il' (minI a0 a2)) (V_min rfl rfl) ?_
 refine s' (il' (maxI a1 (minI a0 a2))) (V_max rfl rfl) ?_
 obtain⟨n1,hn1,H⟩:=g_lt H
 refine s' (il' n1) (V_assign (v:=il' n1) (congrArg (Value.int .i64) hn1.symm)) ?_
 refine nt' ?_
 have h_:=oi' H;subst h_
 exact b1' [] ⟨rfl,rfl⟩


def F128.f (a0 : Int) : Option (Int):=(F127.f a0 (-1024) 1024).bind (fun r1=>some (r1))
theorem F128.ok {a0 : Int} {r : Int} (H : F128.f a0 = some r) : SCA Tryz.prog 128 #[il' a0] [] (fun v B=>v = il' r∧B = []):=by
 refine SCA_of_body Tryz.func128 rfl rfl ?_
 unfold F128.f at H
 refine qr' ?_
 refine s' (il' 0) as' ?_
 refine nr' ?_
 refine s' (il' a0) mv' ?_
 obtain⟨r1,C2,H⟩:=g_bind H
 refine o' (ca' [] [] (xf' [il' a0,il' (-1024),il' 1024]) (F127.ok (a0:=a0) (a1:=(-1024)) (a2:=1024) C2) ?_)
 rintro _ _⟨rfl,rfl⟩
 refine s' (il' r1) as' ?_
 refine nt' ?_
 have h_:=oi' H;subst h_
 exact b1' [] ⟨rfl,rfl⟩

end Go.Proofs.YtckilbegmbaeeaaGreat.Z5

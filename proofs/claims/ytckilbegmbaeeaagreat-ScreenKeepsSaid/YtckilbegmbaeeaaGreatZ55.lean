/- What functions compute, and that they do: 114, 57, 59, 72Lb_0_, 73Lb_0_. -/
import Derived.Test.YtckilbegmbaeeaaGreatZ50
import Derived.Test.YtckilbegmbaeeaaGreatZ51
import Derived.Test.YtckilbegmbaeeaaGreatZ52
import Derived.Test.YtckilbegmbaeeaaGreatZ53
import Derived.Test.YtckilbegmbaeeaaGreatZ54
namespace Go.Proofs.YtckilbegmbaeeaaGreat.Z5
open Go Go.RowKit Go.Proofs.YtckilbegmbaeeaaGreat.SL
set_option linter.unusedVariables false
set_option maxHeartbeats 20000000
set_option maxRecDepth 100000
set_option linter.unusedSimpArgs false
attribute [local irreducible] IntKind.wrap minI maxI shrI shlI andI orI xorI andNotI cplI rd sub bytesOf strOf slA
variable {b0_ b1_ c0_0 c0_1 c0_2 c0_3 c1_0 k : Nat}
variable {A0_0 A0_1 A0_2 A0_3 A1_0 : Option Addr}
def F73Lb_0_.f (k : Nat) (p0 : S34) (a1 : Int) : Option (S34):=(F117.f k a1).bind (fun r8=>if r8 ≤ 0 then (if r8 = 0 then ((F118Lb_0_.f k p0 a1).bind (fun r15=>some (r15))) else (some (p0))) else (lt (p0.f3 && p0.f8) fun q29=>(if q29 = true then ((F119Lb_0_.f k ({ p0 with f2:=0 })).bind (fun r50=>some r50)) else (some p0) : Option (S34)).bind (fun t32=>(if r8 = 2 then ((F120Lb_0_.f ({ t32 with f3:=false })).bind (fun r610=>some (decide (t32.f2 = r610)))) else (some false) : Option (Bool)).bind (fun t65=>(if t65 = true then ((if (!t32.f8) = true then (some true) else ((F120Lb_0_.f ({ t32 with f3:=false })).bind (fun r814=>some (decide (r814 = 0)))) : Option Bool).bind (fun q812=>if q812 = true then (some (Out.ret (({ t32 with f3:=false })))) else ((F119Lb_0_.f k ({ t32 with f2:=0,f3:=false })).bind (fun r818=>some (Out.go r818))))) else (some (Out.go ({ t32 with f3:=false }))) : Option (Out (S34) (S34))).bind (fun t793=>Out.el t793 (fun r_=>some r_) (fun s794=>(F121Lb_0_.f s794).bind (fun r837=>if (0 ≤ r837.1∧0 ≤ r837.2∧r837.1 + r837.2 ≤ (s794.f0.f2.length : Int)) then ((if s794.f10 = true then ((F122w0.f k s794.f0.f2 r837.1 r837.2 s794.f2 r8 s794.f4).bind (fun r1564=>if r1564.length = s794.f0.f2.length then (some r1564) else none)) else (some s794.f0.f2) : Option ((List S55))).bind (fun t842=>if t842.length = s794.f0.f2.length then ((F124.f k a1 s794.f4).bind (fun r2346=>(F123w0b2.f k t842 r837.1 r837.2 s794.f2 r2346).bind (fun r2406=>if r2406.length = t842.length then ((F120Lb_0_.f ({ s794 with f0:=(S26.mk s794.f0.f0 s794.f0.f1 r2406),f2:=(IntKind.i64.wrap (s794.f2 + r8)) })).bind (fun r2828=>if (IntKind.i64.wrap (s794.f2 + r8)) > r2828 then ((F120Lb_0_.f ({ s794 with f0:=(S26.mk s794.f0.f0 s794.f0.f1 r2406),f2:=(IntKind.i64.wrap (s794.f2 + r8)) })).bind (fun r3250=>some (({ s794 with f0:=(S26.mk s794.f0.f0 s794.f0.f1 r2406),f2:=r3250,f3:=true })))) else (some (({ s794 with f0:=(S26.mk s794.f0.f0 s794.f0.f1 r2406),f2:=(IntKind.i64.wrap (s794.f2 + r8)) }))))) else none))) else none)) else none)))))))
theorem F73Lb_0_.ok {p0 : S34} {a1 : Int} {r : S34} (H : F73Lb_0_.f k p0 a1 = some r) : SCA Tryz.prog 73 #[.agg #[.pointer (some ⟨b0_,0,none⟩)],iw' a1] [Blk b0_ 34 (c34' p0 A0_0 c0_0 A0_1 c0_1 A0_2 c0_2 A0_3 c0_3),Buf k55 55 A0_0 c0_0 p0.f0.f2,bl' 3 A0_1 c0_1 p0.f7,Buf k55 55 A0_2 c0_2 p0.f16.f2,bw' 21 A0_3 c0_3 p0.f17] (fun v B=>∃ P0_0_ q0_0_ P0_1_ q0_1_ P0_2_ q0_2_ P0_3_ q0_3_,v = .tuple #[]∧B = [Blk b0_ 34 (c34' r P0_0_ q0_0_ P0_1_ q0_1_ P0_2_ q0_2_ P0_3_ q0_3_),Buf k55 55 P0_0_ q0_0_ r.f0.f2,bl' 3 P0_1_ q0_1_ r.f7,Buf k55 55 P0_2_ q0_2_ r.f16.f2,bw' 21 P0_3_ q0_3_ r.f17]):=by
 refine SCA_of_body Tryz.func73 rfl rfl ?_
 unfold F73Lb_0_.f at H
 refine qr' ?_
 refine o' (bx' fun b6=>?_)
 refine nr' ?_
 refine s' (iw' a1) mv' ?_
 obtain⟨r8,C3673,H⟩:=g_bind H
 refine o' (ca' [] [0,1,2,3,4,5] (xf' [iw' a1]) (F117.ok (a0:=a1) C3673) ?_)
 rintro _ _⟨rfl,rfl⟩
 refine s' (il' r8) as' ?_
 refine nq' ?_
 refine s' (il' r8) mv' ?_
 refine s' (.bool (decide (r8 ≤ 0))) (V_leq rfl rfl) ?_
 refine na' ?_
 by_cases h9 : r8 ≤ 0
 ·replace H:=g_ift h9 H
  refine SA_condT rfl h9 ?_
  refine SA_seq (qr' ?_)
  refine s' (il' r8) mv' ?_
  refine s' (.bool (decide (r8 = 0))) (V_eql rfl rfl) ?_
  refine na' ?_
  by_cases h10 : r8 = 0
  ·replace H:=g_ift h10 H
   refine SA_condT rfl h10 ?_
   refine fc' 1 fun hc11=>?_
   refine fc' 2 fun hc12=>?_
   refine fc' 3 fun hc13=>?_
   refine fc' 4 fun hc14=>?_
   refine SA_region ?_
   refine l' (lA' b6 0 5 [pt' b0_]) ?_
   refine s' (iw' a1) mv' ?_
   obtain⟨r15,C28,H⟩:=g_bind H
   refine o' (ca' [0,1,2,3,4] [5] (xf' [.agg #[pt' b0_],iw' a1]) (F118Lb_0_.ok (b0_:=b0_) (p0:=p0) (a1:=a1) C28) ?_)
   rintro _ _⟨A16,c17,A19,c20,A22,c23,A25,c26,rfl,rfl⟩
   refine ntt' ?_
   have h_:=oi' H;subst h_
   exact BQ_R0 [Blk b0_ 34 (c34' r15 A16 c17 A19 c20 A22 c23 A25 c26),Buf k55 55 A16 c17 r15.f0.f2,bl' 3 A19 c20 r15.f7,Buf k55 55 A22 c23 r15.f16.f2,bw' 21 A25 c26 r15.f17] rfl (gs' [0,1,2,3,4]) ⟨A16,c17,A19,c20,A22,c23,A25,c26,rfl,rfl⟩
  replace H:=g_iff h10 H
  refine SA_condF rfl h10 ?_
  refine SA_skip (at_normal (SA_ret (thn_ret ?_)))
  have h_:=oi' H;subst h_
  exact BQ_R0 [Blk b0_ 34 (c34' p0 A0_0 c0_0 A0_1 c0_1 A0_2 c0_2 A0_3 c0_3),Buf k55 55 A0_0 c0_0 p0.f0.f2,bl' 3 A0_1 c0_1 p0.f7,Buf k55 55 A0_2 c0_2 p0.f16.f2,bw' 21 A0_3 c0_3 p0.f17] rfl (gs' [0,1,2,3,4]) ⟨A0_0,c0_0,A0_1,c0_1,A0_2,c0_2,A0_3,c0_3,rfl,rfl⟩
 replace H:=g_iff h9 H
 refine SA_condF rfl h9 ?_
 refine SA_skip (at_normal (SA_seq (qr' ?_)))
 refine s' (pt' b6) (fa' b6 0 0) ?_
 refine l' (ld' b6 0 5) ?_
 refine s' (pt' b0_) nc' ?_
 refine s' (pa' b0_ 5) (fa' b0_ 0 5) ?_
 refine l' (ld' b0_ 5 0) ?_
 refine s' (.bool p0.f3) mv' ?_
 obtain⟨q29,hq29,H⟩:=g_lt H
 refine RA_cut 6 (fun e ds As=>St [(1,iw' a1),(2,pt' b6),(4,il' r8),(26,.bool q29)] [Blk b0_ 34 (c34' p0 A0_0 c0_0 A0_1 c0_1 A0_2 c0_2 A0_3 c0_3),Buf k55 55 A0_0 c0_0 p0.f0.f2,bl' 3 A0_1 c0_1 p0.f7,Buf k55 55 A0_2 c0_2 p0.f16.f2,bw' 21 A0_3 c0_3 p0.f17,Blk b6 84 [pt' b0_]] e ds As) ?_ ?_
 ·by_cases h30 : p0.f3 = true
  ·refine y' h30 (pt' b6) (fa' b6 0 0) ?_
   refine z' h30 (ld' b6 0 5) ?_
   refine y' h30 (pt' b0_) nc' ?_
   refine y' h30 (pa' b0_ 19) (fa' b0_ 0 19) ?_
   refine z' h30 (ld' b0_ 19 0) ?_
   refine pT' h30 ?_
   refine RA_nil ?_
   exact at_normal (St.mk1 (aeq rfl (aeq rfl (aeq rfl (aeq (congrArg Value.bool (and_t hq29 (h30))) aeq0)))) (gs' [0,1,2,3,4,5]))
  refine no' 5 (bno h30) ?_
  refine pF' (bno h30) ?_
  refine RA_nil ?_
  exact at_normal (St.mk1 (aeq rfl (aeq rfl (aeq rfl (aeq (congrArg Value.bool (and_f hq29 (bno h30))) aeq0)))) (gs' [0,1,2,3,4,5]))
 rintro e ds As hst31
 refine na' ?_
 refine SA.of_St hst31 fun junk=>?_
 obtain⟨t32,H,Bt32⟩:=g_bind H
 refine SA_mid (fun e ds As=>∃ (A33 : Option Addr) (c34 : Nat),∃ (A36 : Option Addr) (c37 : Nat),∃ (A39 : Option Addr) (c40 : Nat),∃ (A42 : Option Addr) (c43 : Nat),St [(1,iw' a1),(2,pt' b6),(4,il' r8)] [Blk b0_ 34 (c34' t32 A33 c34 A36 c37 A39 c40 A42 c43),Buf k55 55 A33 c34 t32.f0.f2,bl' 3 A36 c37 t32.f7,Buf k55 55 A39 c40 t32.f16.f2,bw' 21 A42 c43 t32.f17,Blk b6 84 [pt' b0_]] e ds As) ?_ ?_
 ·by_cases h45 : q29 = true
  ·replace H:=g_ift h45 H
   refine SA_condTb rfl h45 ?_
   refine qr' ?_
   refine s' (pt' b6) (fa' b6 0 0) ?_
   refine l' (ld' b6 0 5) ?_
   refine s' (pt' b0_) nc' ?_
   refine s' (pa' b0_ 4) (fa' b0_ 0 4) ?_
   refine o' (st' b0_ 4 0 [il' 0] (c34' ({ p0 with f2:=0 }) A0_0 c0_0 A0_1 c0_1 A0_2 c0_2 A0_3 c0_3) ?_)
   refine na' ?_
   refine fc' 1 fun hc46=>?_
   refine fc' 2 fun hc47=>?_
   refine fc' 3 fun hc48=>?_
   refine fc' 4 fun hc49=>?_
   refine SA_region ?_
   refine l' (lA' b6 0 5 [pt' b0_]) ?_
   obtain⟨r50,C63,H⟩:=g_bind H
   refine o' (ca' [0,1,2,3,4] [5] (xf' [.agg #[pt' b0_]]) (F119Lb_0_.ok (b0_:=b0_) (p0:=({ p0 with f2:=0 })) C63) ?_)
   rintro _ _⟨A51,c52,A54,c55,A57,c58,A60,c61,rfl,rfl⟩
   refine RA_nil ?_
   have h_:=oi' H;subst h_
   exact at_normal ⟨A51,c52,A54,c55,A57,c58,A60,c61,sq' [0,1,2,3,4,5]⟩
  replace H:=g_iff h45 H
  refine SA_condFb rfl h45 ?_
  refine SA_skip ?_
  have h_:=oi' H;subst h_
  exact at_normal ⟨A0_0,c0_0,A0_1,c0_1,A0_2,c0_2,A0_3,c0_3,sq' [0,1,2,3,4,5]⟩
 rintro e ds As ⟨A33,c34,A36,c37,A39,c40,A42,c43,hst64⟩
 clear H
 have H:=Bt32
 clear Bt32
 refine at_normal ?_
 refine SA.of_St hst64 fun junk=>?_
 refine qr' ?_
 refine s' (pt' b6) (fa' b6 0 0) ?_
 refine l' (ld' b6 0 5) ?_
 refine s' (pt' b0_) nc' ?_
 refine s' (pa' b0_ 5) (fa' b0_ 0 5) ?_
 refine o' (st' b0_ 5 0 [.bool false] (c34' ({ t32 with f3:=false }) A33 c34 A36 c37 A39 c40 A42 c43) ?_)
 refine na' (SA_seq (SA_seq ?_))
 obtain⟨t65,H,Bt65⟩:=g_bind H
 refine SA_mid (fun e ds As=>St [(1,iw' a1),(2,pt' b6),(4,il' r8),(48,.bool t65)] [Blk b0_ 34 (c34' ({ t32 with f3:=false }) A33 c34 A36 c37 A39 c40 A42 c43),Buf k55 55 A33 c34 t32.f0.f2,bl' 3 A36 c37 t32.f7,Buf k55 55 A39 c40 t32.f16.f2,bw' 21 A42 c43 t32.f17,Blk b6 84 [pt' b0_]] e ds As) ?_ ?_
 ·refine fc' 1 fun hc66=>?_
  refine fc' 2 fun hc67=>?_
  refine fc' 3 fun hc68=>?_
  refine fc' 4 fun hc69=>?_
  refine SA_drawMq (rg' 0 12) #[[],[0],[0,1],[0,1,2],(rg' 0 4),(rg' 0 5),(rg' 0 6),(rg' 0 7),[0,1,2],[0,1,2,8],(rg' 0 10),(rg' 0 11)] [Blk b0_ 34 (c34' ({ t32 with f3:=false }) A33 c34 A36 c37 A39 c40 A42 c43),Blk b6 84 [pt' b0_]] mixed (PanOk.thn (PanOk.thn (PanOk.thn PanOk.body))) fun I0 hh0 w0 pk=>?_
  refine mt' (il' r8) 0 [0,5] rfl mv' ?_
  refine mt' (.bool (decide (r8 = 2))) 1 [0,5] rfl (V_eql rfl rfl) ?_
  refine mt' (.bool (decide (r8 = 2))) 2 [0,5] rfl mv' ?_
  by_cases h791 : r8 = 2
  ·replace H:=g_ift h791 H
   refine DM_take (v:=pt' b6) 3 [0,5] (by kernel_rfl) rfl rfl (.yes rfl rfl rfl rfl (dec_t h791)) pk rfl rfl rfl (VR.ofV (fa' b6 0 0)) ?_
   refine DM_take 4 [0,5] (by kernel_rfl) rfl rfl (.yes rfl rfl rfl rfl (dec_t h791)) pk rfl rfl rfl (ld' b6 0 1) ?_
   refine DM_take (v:=pt' b0_) 5 [0,5] (by kernel_rfl) rfl rfl (.yes rfl rfl rfl rfl (dec_t h791)) pk rfl rfl rfl (VR.ofV nc') ?_
   refine DM_take (v:=pa' b0_ 4) 6 [0,5] (by kernel_rfl) rfl rfl (.yes rfl rfl rfl rfl (dec_t h791)) pk rfl rfl rfl (VR.ofV (fa' b0_ 0 4)) ?_
   refine DM_take 7 [0,5] (by kernel_rfl) rfl rfl (.yes rfl rfl rfl rfl (dec_t h791)) pk rfl rfl rfl (ld' b0_ 4 0) ?_
   refine DM_take 8 [0,5] (by kernel_rfl) rfl rfl (.yes rfl rfl rfl rfl (dec_t h791)) pk rfl rfl rfl (lA' b6 0 1 [pt' b0_]) ?_
   obtain⟨r610,C611,H⟩:=g_bind H
   refine DM_one 9 (by kernel_rfl) rfl (.yes rfl rfl rfl rfl (dec_t h791)) (ca' [0,1,2,3,4] [5] (xf' [.agg #[pt' b0_]]) (F120Lb_0_.ok (b0_:=b0_) (p0:=({ t32 with f3:=false })) C611) ?_)
   rintro _ _⟨rfl,rfl⟩
   refine ⟨fun _=>⟨[0,5],rfl,rfl⟩,?_⟩
   refine DM_take (v:=.bool (decide (t32.f2 = r610))) 10 [0,5] (by kernel_rfl) rfl rfl (.yes rfl rfl rfl rfl (dec_t h791)) pk rfl rfl rfl (VR.ofV (V_eql rfl rfl)) ?_
   refine mr' 11 [0,5] rfl (VR.ofV (V_pickT rfl (dec_t h791) rfl)) ?_
   refine DN_done (by kernel_rfl) ?_
   have h_:=oi' H;subst h_
   exact sm' [0,1,2,3,4,5]
  replace H:=g_iff h791 H
  refine DM_skip 3 [0,5] (by kernel_rfl) rfl rfl (.no rfl rfl rfl rfl (dec_f h791)) pk rfl rfl rfl ?_
  refine DM_skip 4 [0,5] (by kernel_rfl) rfl rfl (.no rfl rfl rfl rfl (dec_f h791)) pk rfl rfl rfl ?_
  refine DM_skip 5 [0,5] (by kernel_rfl) rfl rfl (.no rfl rfl rfl rfl (dec_f h791)) pk rfl rfl rfl ?_
  refine DM_skip 6 [0,5] (by kernel_rfl) rfl rfl (.no rfl rfl rfl rfl (dec_f h791)) pk rfl rfl rfl ?_
  refine DM_skip 7 [0,5] (by kernel_rfl) rfl rfl (.no rfl rfl rfl rfl (dec_f h791)) pk rfl rfl rfl ?_
  refine DM_skip 8 [0,5] (by kernel_rfl) rfl rfl (.no rfl rfl rfl rfl (dec_f h791)) pk rfl rfl rfl ?_
  refine DM_skip 9 [0,5] (by kernel_rfl) rfl rfl (.no rfl rfl rfl rfl (dec_f h791)) pk rfl rfl rfl ?_
  refine DM_skip 10 [0,5] (by kernel_rfl) rfl rfl (.no rfl rfl rfl rfl (dec_f h791)) pk rfl rfl rfl ?_
  refine mr' 11 [0,5] rfl (VR.ofV (V_pickF rfl (dec_f h791) rfl)) ?_
  refine DN_done (by kernel_rfl) ?_
  have h_:=oi' H;subst h_
  exact sm' [0,1,2,3,4,5]
 rintro e ds As hst792
 clear H
 have H:=Bt65
 clear Bt65
 refine at_normal ?_
 refine SA.of_St hst792 fun junk=>?_
 obtain⟨t793,H,Bt793⟩:=g_bind H
 refine SA_mid (fun e ds As=>∃ (s794 : S34),t793 = Out.go s794∧∃ (A795 : Option Addr) (c796 : Nat),∃ (A798 : Option Addr) (c799 : Nat),∃ (A801 : Option Addr) (c802 : Nat),∃ (A804 : Option Addr) (c805 : Nat),St [(1,iw' a1),(2,pt' b6),(4,il' r8)] [Blk b0_ 34 (c34' s794 A795 c796 A798 c799 A801 c802 A804 c805),Buf k55 55 A795 c796 s794.f0.f2,bl' 3 A798 c799 s794.f7,Buf k55 55 A801 c802 s794.f16.f2,bw' 21 A804 c805 s794.f17,Blk b6 84 [pt' b0_]] e ds As) ?_ ?_
 ·by_cases h807 : t65 = true
  ·replace H:=g_ift h807 H
   refine SA_condTb rfl h807 ?_
   refine SA_seq (SA_seq ?_)
   refine fc' 1 fun hc808=>?_
   refine fc' 2 fun hc809=>?_
   refine fc' 3 fun hc810=>?_
   refine fc' 4 fun hc811=>?_
   refine SA_region ?_
   refine s' (pt' b6) (fa' b6 0 0) ?_
   refine l' (ld' b6 0 5) ?_
   refine s' (pt' b0_) nc' ?_
   refine s' (pa' b0_ 19) (fa' b0_ 0 19) ?_
   refine l' (ld' b0_ 19 0) ?_
   refine s' (.bool (!t32.f8)) (V_not rfl) ?_
   refine s' (.bool (!t32.f8)) mv' ?_
   obtain⟨q812,H,Bq812⟩:=g_bind H
   refine RA_cut 4 (fun e ds As=>St [(1,iw' a1),(2,pt' b6),(4,il' r8),(59,.bool q812)] [Blk b0_ 34 (c34' ({ t32 with f3:=false }) A33 c34 A36 c37 A39 c40 A42 c43),Buf k55 55 A33 c34 t32.f0.f2,bl' 3 A36 c37 t32.f7,Buf k55 55 A39 c40 t32.f16.f2,bw' 21 A42 c43 t32.f17,Blk b6 84 [pt' b0_]] e ds As) ?_ ?_
   ·by_cases h813 : (!t32.f8) = true
    ·replace H:=g_ift h813 H
     refine no' 3 h813 ?_
     refine pT' h813 ?_
     have h_:=oi' H;subst h_
     exact rm' [0,1,2,3,4,5]
    replace H:=g_iff h813 H
    refine z' (bno h813) (lA' b6 0 5 [pt' b0_]) ?_
    obtain⟨r814,C815,H⟩:=g_bind H
    refine yo' (bno h813) (ca' [0,1,2,3,4] [5] (xf' [.agg #[pt' b0_]]) (F120Lb_0_.ok (b0_:=b0_) (p0:=({ t32 with f3:=false })) C815) ?_)
    rintro _ _⟨rfl,rfl⟩
    refine y' (bno h813) (.bool (decide (r814 = 0))) (V_eql rfl rfl) ?_
    refine pF' (bno h813) ?_
    have h_:=oi' H;subst h_
    exact rm' [0,1,2,3,4,5]
   rintro e ds As hst816
   clear H
   have H:=Bq812
   clear Bq812
   refine na' ?_
   refine SA.of_St hst816 fun junk=>?_
   by_cases h817 : q812 = true
   ·replace H:=g_ift h817 H
    refine SA_condTb rfl h817 ?_
    refine SA_ret (thn_ret (thn_ret (thn_ret ?_)))
    have h_:=oi' H;subst h_
    have hb_:=el_ret Bt793
    have hr_:=Option.some.inj hb_
    clear hb_
    subst hr_
    exact BQ_R0 [Blk b0_ 34 (c34' ({ t32 with f3:=false }) A33 c34 A36 c37 A39 c40 A42 c43),Buf k55 55 A33 c34 t32.f0.f2,bl' 3 A36 c37 t32.f7,Buf k55 55 A39 c40 t32.f16.f2,bw' 21 A42 c43 t32.f17] rfl (gs' [0,1,2,3,4]) ⟨A33,c34,A36,c37,A39,c40,A42,c43,rfl,rfl⟩
   replace H:=g_iff h817 H
   refine SA_condFb rfl h817 ?_
   refine SA_skip (at_normal (qr' ?_))
   refine s' (pt' b6) (fa' b6 0 0) ?_
   refine l' (ld' b6 0 5) ?_
   refine s' (pt' b0_) nc' ?_
   refine s' (pa' b0_ 4) (fa' b0_ 0 4) ?_
   refine o' (st' b0_ 4 0 [il' 0] (c34' ({ t32 with f2:=0,f3:=false }) A33 c34 A36 c37 A39 c40 A42 c43) ?_)
   refine na' (SA_region ?_)
   refine l' (lA' b6 0 5 [pt' b0_]) ?_
   obtain⟨r818,C831,H⟩:=g_bind H
   refine o' (ca' [0,1,2,3,4] [5] (xf' [.agg #[pt' b0_]]) (F119Lb_0_.ok (b0_:=b0_) (p0:=({ t32 with f2:=0,f3:=false })) C831) ?_)
   rintro _ _⟨A819,c820,A822,c823,A825,c826,A828,c829,rfl,rfl⟩
   refine RA_nil ?_
   have h_:=oi' H;subst h_
   exact at_normal ⟨r818,rfl,A819,c820,A822,c823,A825,c826,A828,c829,sq' [0,1,2,3,4,5]⟩
  replace H:=g_iff h807 H
  refine SA_condFb rfl h807 ?_
  refine SA_skip ?_
  have h_:=oi' H;subst h_
  exact at_normal ⟨({ t32 with f3:=false }),rfl,A33,c34,A36,c37,A39,c40,A42,c43,sq' [0,1,2,3,4,5]⟩
 rintro e ds As ⟨s794,ht,A795,c796,A798,c799,A801,c802,A804,c805,hst832⟩
 clear H
 subst ht
 replace Bt793:=el_go Bt793
 have H:=Bt793
 clear Bt793
 refine at_normal ?_
 refine SA.of_St hst832 fun junk=>?_
 refine SA_seq ?_
 refine fc' 1 fun hc833=>?_
 refine fc' 2 fun hc834=>?_
 refine fc' 3 fun hc835=>?_
 refine fc' 4 fun hc836=>?_
 refine SA_region ?_
 refine l' (lA' b6 0 5 [pt' b0_]) ?_
 obtain⟨r837,C3672,H⟩:=g_bind H
 obtain⟨⟨hl841a,hl841b,hl841c⟩,H⟩:=g_pos H
 refine o' (ca' [0,1,2,3,4] [5] (xf' [.agg #[pt' b0_]]) (F121Lb_0_.ok (b0_:=b0_) (p0:=s794) C3672) ?_)
 rintro _ _⟨V838,v839,hW840,rfl,rfl⟩
 refine s' (.slice V838 r837.2.toNat v839) as' ?_
 refine nq' ?_
 refine s' (pt' b6) (fa' b6 0 0) ?_
 refine l' (ld' b6 0 5) ?_
 refine s' (pt' b0_) nc' ?_
 refine s' (pa' b0_ 21) (fa' b0_ 0 21) ?_
 refine l' (ld' b0_ 21 0) ?_
 refine na' ?_
 obtain⟨t842,H,Bt842⟩:=g_bind H
 refine SA_mid (fun e ds As=>St [(1,iw' a1),(2,pt' b6),(4,il' r8),(5,.slice V838 r837.2.toNat v839)] [Blk b0_ 34 (c34' ({ s794 with f0:=(S26.mk s794.f0.f0 s794.f0.f1 t842) }) A795 c796 A798 c799 A801 c802 A804 c805),Buf k55 55 A795 c796 t842,bl' 3 A798 c799 s794.f7,Buf k55 55 A801 c802 s794.f16.f2,bw' 21 A804 c805 s794.f17,Blk b6 84 [pt' b0_]] e ds As) ?_ ?_
 ·by_cases h843 : s794.f10 = true
  ·replace H:=g_ift h843 H
   refine SA_condTb rfl h843 ?_
   refine SA_drawHq (rg' 0 12) (List.toArray ([]::[]::[1]::[1,2]::[1,2,3]::(rg' 1 4)::[]::[]::[7]::[7,8]::[7,8,9]::(rg' 7 4)::(rg' 0 12)::[])) [0,5] (rg' 1 4) mixed rfl rfl rfl (PanOk.thn (PanOk.thn PanOk.body)) fun I0 hS h0 hh0 w0 sH dd pk=>?_
   refine t' (.slice V838 r837.2.toNat v839) 0 rfl sH mv' ?_
   refine t' (pt' b6) 1 rfl sH (fa' b6 0 0) ?_
   refine r' 2 rfl sH (ld' b6 0 1) ?_
   refine t' (pt' b0_) 3 rfl sH nc' ?_
   refine t' (pa' b0_ 4) 4 rfl sH (fa' b0_ 0 4) ?_
   refine r' 5 rfl sH (ld' b0_ 4 0) ?_
   refine t' (il' r8) 6 rfl sH mv' ?_
   refine t' (pt' b6) 7 rfl sH (fa' b6 0 0) ?_
   refine r' 8 rfl sH (ld' b6 0 1) ?_
   refine t' (pt' b0_) 9 rfl sH nc' ?_
   refine t' (pa' b0_ 6) 10 rfl sH (fa' b0_ 0 6) ?_
   refine r' 11 rfl sH (lA' b0_ 6 0 (c28' s794.f4)) ?_
   obtain⟨r1564,C1566,H⟩:=g_bind H
   obtain⟨hl1565,H⟩:=g_pos H
   refine DH_one 12 dd (by kernel_rfl) rfl (.no rfl) (ca' [0] [1,2,3] (xf' [.slice V838 r837.2.toNat v839,il' s794.f2,il' r8,.agg (c28' s794.f4).toArray]) (F122w0.ok (l0:=s794.f0.f2) (o0:=r837.1) (n0:=r837.2) (A0:=A795) (c0:=c796) (V0:=V838) (v0:=v839) (hw0:=hW840) (a1:=s794.f2) (a2:=r8) (a3:=s794.f4) C1566) ?_)
   rintro _ _⟨rfl,rfl⟩
   try unfold c34'
   try rewrite [← hl1565]
   try unfold c34' at sH
   try rewrite [← hl1565] at sH
   refine DH_open dd sH ?_
   refine DN_done (by kernel_rfl) ?_
   have h_:=oi' H;subst h_
   exact sm' [0,2,3,4,5,1]
  replace H:=g_iff h843 H
  refine SA_condFb rfl h843 ?_
  refine SA_skip ?_
  have h_:=oi' H;subst h_
  exact sm' [0,1,2,3,4,5]
 rintro e ds As hst1625
 clear H
 have H:=Bt842
 clear Bt842
 obtain⟨hl3671,H⟩:=g_pos H
 refine at_normal ?_
 refine SA.of_St hst1625 fun junk=>?_
 refine SA_seq ?_
 refine SA_drawHq (rg' 0 12) (List.toArray ([]::[]::[1]::[1,2]::[1,2,3]::(rg' 1 4)::[]::[]::[7]::[7,8]::[7,8,9]::(rg' 7 4)::(rg' 6 6)::(rg' 0 12)::[])) [0,5] (rg' 1 4) mixed rfl rfl rfl (PanOk.thn PanOk.body) fun I0 hS h0 hh0 w0 sH dd pk=>?_
 refine t' (.slice V838 r837.2.toNat v839) 0 rfl sH mv' ?_
 refine t' (pt' b6) 1 rfl sH (fa' b6 0 0) ?_
 refine r' 2 rfl sH (ld' b6 0 1) ?_
 refine t' (pt' b0_) 3 rfl sH nc' ?_
 refine t' (pa' b0_ 4) 4 rfl sH (fa' b0_ 0 4) ?_
 refine r' 5 rfl sH (ld' b0_ 4 0) ?_
 refine t' (iw' a1) 6 rfl sH mv' ?_
 refine t' (pt' b6) 7 rfl sH (fa' b6 0 0) ?_
 refine r' 8 rfl sH (ld' b6 0 1) ?_
 refine t' (pt' b0_) 9 rfl sH nc' ?_
 refine t' (pa' b0_ 6) 10 rfl sH (fa' b0_ 0 6) ?_
 refine r' 11 rfl sH (lA' b0_ 6 0 (c28' s794.f4)) ?_
 obtain⟨r2346,C2350,H⟩:=g_bind H
 refine DH_one 12 dd (by kernel_rfl) rfl (.no rfl) (ca' [] [0,1,2,3] (xf' [iw' a1,.agg (c28' s794.f4).toArray]) (F124.ok (a0:=a1) (a1:=s794.f4) C2350) ?_)
 rintro _ _⟨A2347,c2348,rfl,rfl⟩
 obtain⟨r2406,C2408,H⟩:=g_bind H
 obtain⟨hl2407,H⟩:=g_pos H
 refine DH_one 13 dd (by kernel_rfl) rfl (.no rfl) (ca' [1,0] [2,3,4] (xf' [.slice V838 r837.2.toNat v839,il' s794.f2,.slice A2347 r2346.length c2348]) (F123w0b2.ok (l0:=t842) (o0:=r837.1) (n0:=r837.2) (A0:=A795) (c0:=c796) (V0:=V838) (v0:=v839) (hw0:=hW840) (a1:=s794.f2) (l2:=r2346) (A2:=A2347) (c2:=c2348) C2408) ?_)
 rintro _ _⟨rfl,rfl⟩
 try unfold c34'
 try rewrite [← hl2407]
 try unfold c34' at sH
 try rewrite [← hl2407] at sH
 refine DH_open dd sH ?_
 refine DN_done (by kernel_rfl) ?_
 refine at_normal (qr' ?_)
 refine s' (pt' b6) (fa' b6 0 0) ?_
 refine l' (ld' b6 0 1) ?_
 refine s' (pt' b0_) nc' ?_
 refine s' (pa' b0_ 4) (fa' b0_ 0 4) ?_
 refine l' (ld' b0_ 4 0) ?_
 refine s' (il' r8) mv' ?_
 refine s' (il' (IntKind.i64.wrap (s794.f2 + r8))) (V_add rfl rfl) ?_
 refine s' (pt' b0_) nc' ?_
 refine s' (pa' b0_ 4) (fa' b0_ 0 4) ?_
 refine o' (st' b0_ 4 0 [il' (IntKind.i64.wrap (s794.f2 + r8))] (c34' ({ s794 with f0:=(S26.mk s794.f0.f0 s794.f0.f1 r2406),f2:=(IntKind.i64.wrap (s794.f2 + r8)) }) A795 c796 A798 c799 A801 c802 A804 c805) ?_)
 refine na' (SA_seq ?_)
 refine fc' 3 fun hc2467=>?_
 refine SA_drawMq [0,1,2,3,4,5,7] #[[],[0],[0,1],[0,1,2],(rg' 0 4),[],[5],(rg' 0 6)] [Blk b0_ 34 (c34' ({ s794 with f0:=(S26.mk s794.f0.f0 s794.f0.f1 r2406),f2:=(IntKind.i64.wrap (s794.f2 + r8)) }) A795 c796 A798 c799 A801 c802 A804 c805),Blk b6 84 [pt' b0_]] mixed (PanOk.thn PanOk.body) fun I0 hh0 w0 pk=>?_
 refine mt' (pt' b6) 0 [0,1] rfl (fa' b6 0 0) ?_
 refine mr' 1 [0,1] rfl (ld' b6 0 1) ?_
 refine mt' (pt' b0_) 2 [0,1] rfl nc' ?_
 refine mt' (pa' b0_ 4) 3 [0,1] rfl (fa' b0_ 0 4) ?_
 refine mr' 4 [0,1] rfl (ld' b0_ 4 0) ?_
 refine mr' 5 [0,1] rfl (lA' b6 0 1 [pt' b0_]) ?_
 obtain⟨r2828,C2829,H⟩:=g_bind H
 refine DM_one 6 (by kernel_rfl) rfl (.no rfl) (ca' [0,2,4,5,6] [1,3] (xf' [.agg #[pt' b0_]]) (F120Lb_0_.ok (b0_:=b0_) (p0:=({ s794 with f0:=(S26.mk s794.f0.f0 s794.f0.f1 r2406),f2:=(IntKind.i64.wrap (s794.f2 + r8)) })) C2829) ?_)
 rintro _ _⟨rfl,rfl⟩
 refine ⟨fun _=>⟨[0,5],rfl,rfl⟩,?_⟩
 refine mt' (.bool (decide ((IntKind.i64.wrap (s794.f2 + r8)) > r2828))) 7 [0,5] rfl (V_gtr rfl rfl) ?_
 refine DN_done (by kernel_rfl) ?_
 refine at_normal ?_
 refine SA.of_St (l:=[(2,pt' b6),(116,.bool (decide ((IntKind.i64.wrap (s794.f2 + r8)) > r2828)))]) (B:=[Blk b0_ 34 (c34' ({ s794 with f0:=(S26.mk s794.f0.f0 s794.f0.f1 r2406),f2:=(IntKind.i64.wrap (s794.f2 + r8)) }) A795 c796 A798 c799 A801 c802 A804 c805),Buf k55 55 A795 c796 r2406,bl' 3 A798 c799 s794.f7,Buf k55 55 A801 c802 s794.f16.f2,bw' 21 A804 c805 s794.f17,Blk b6 84 [pt' b0_]]) (St.mk1 (aeq rfl (aeq rfl aeq0)) (Gh.sel [0,1,2,3,4,5] (by kernel_rfl) (by kernel_rfl))) fun junk=>?_
 by_cases h2949 : (IntKind.i64.wrap (s794.f2 + r8)) > r2828
 ·replace H:=g_ift h2949 H
  refine SA_condT rfl h2949 ?_
  refine SA_drawHq [0,1,2,3,4,6,7,9,10] #[[],[0],[],[2],[],[4],[0,1,4],[0,1,4,6],[0,1,4,6,7],[0,1,2,3,4,6,7],[0,1,2,3,4,6,7,9],[0,1,2,3,4,6,7,9,10]] [5] (rg' 0 5) mixed rfl rfl rfl PanOk.body fun I0 hS h0 hh0 w0 sH dd pk=>?_
  refine t' (pt' b6) 0 rfl sH (fa' b6 0 0) ?_
  refine r' 1 rfl sH (ld' b6 0 0) ?_
  refine t' (pt' b6) 2 rfl sH (fa' b6 0 0) ?_
  refine r' 3 rfl sH (ld' b6 0 0) ?_
  refine r' 4 rfl sH (lA' b6 0 0 [pt' b0_]) ?_
  obtain⟨r3250,C3251,H⟩:=g_bind H
  refine DH_one 5 dd (by kernel_rfl) rfl (.no rfl) (ca' [0,1,2,3,4] [] (xf' [.agg #[pt' b0_]]) (F120Lb_0_.ok (b0_:=b0_) (p0:=({ s794 with f0:=(S26.mk s794.f0.f0 s794.f0.f1 r2406),f2:=(IntKind.i64.wrap (s794.f2 + r8)) })) C3251) ?_)
  rintro _ _⟨rfl,rfl⟩
  refine t' (pt' b0_) 6 rfl sH nc' ?_
  refine t' (pa' b0_ 4) 7 rfl sH (fa' b0_ 0 4) ?_
  refine DH_one 8 dd (by kernel_rfl) rfl (.no rfl) (st' b0_ 4 0 [il' r3250] (c34' ({ s794 with f0:=(S26.mk s794.f0.f0 s794.f0.f1 r2406),f2:=r3250 }) A795 c796 A798 c799 A801 c802 A804 c805) ?_)
  refine t' (pt' b0_) 9 rfl sH nc' ?_
  refine t' (pa' b0_ 5) 10 rfl sH (fa' b0_ 0 5) ?_
  refine DH_one 11 dd (by kernel_rfl) rfl (.no rfl) (st' b0_ 5 0 [.bool true] (c34' ({ s794 with f0:=(S26.mk s794.f0.f0 s794.f0.f1 r2406),f2:=r3250,f3:=true }) A795 c796 A798 c799 A801 c802 A804 c805) ?_)
  refine DH_open dd sH ?_
  refine DN_done (by kernel_rfl) ?_
  have h_:=oi' H;subst h_
  exact bn' [1,2,3,4,5] ⟨A795,c796,A798,c799,A801,c802,A804,c805,rfl,rfl⟩
 replace H:=g_iff h2949 H
 refine SA_condF rfl h2949 ?_
 refine SA_skip ?_
 have h_:=oi' H;subst h_
 exact bn' [0,1,2,3,4] ⟨A795,c796,A798,c799,A801,c802,A804,c805,rfl,rfl⟩


def F72Lb_0_.f (k : Nat) (p0 : S34) (p1 : Int) : Option (S34):=(F73Lb_0_.f k p0 p1).bind (fun r13=>some (r13))
theorem F72Lb_0_.ok {p0 : S34} {p1 : Int} {r : S34} (H : F72Lb_0_.f k p0 p1 = some r) : SCA Tryz.prog 72 #[.agg #[.pointer (some ⟨b0_,0,none⟩)],.pointer (some ⟨b1_,0,none⟩)] [Blk b0_ 34 (c34' p0 A0_0 c0_0 A0_1 c0_1 A0_2 c0_2 A0_3 c0_3),Buf k55 55 A0_0 c0_0 p0.f0.f2,bl' 3 A0_1 c0_1 p0.f7,Buf k55 55 A0_2 c0_2 p0.f16.f2,bw' 21 A0_3 c0_3 p0.f17,Blk b1_ 21 [iw' p1]] (fun v B=>∃ P0_0_ q0_0_ P0_1_ q0_1_ P0_2_ q0_2_ P0_3_ q0_3_,v = .tuple #[]∧B = [Blk b0_ 34 (c34' r P0_0_ q0_0_ P0_1_ q0_1_ P0_2_ q0_2_ P0_3_ q0_3_),Buf k55 55 P0_0_ q0_0_ r.f0.f2,bl' 3 P0_1_ q0_1_ r.f7,Buf k55 55 P0_2_ q0_2_ r.f16.f2,bw' 21 P0_3_ q0_3_ r.f17,Blk b1_ 21 [iw' p1]]):=by
 refine SCA_of_body Tryz.func72 rfl rfl ?_
 unfold F72Lb_0_.f at H
 refine qr' ?_
 refine o' (bx' fun b7=>?_)
 refine na' ?_
 refine fc' 1 fun hc9=>?_
 refine fc' 2 fun hc10=>?_
 refine fc' 3 fun hc11=>?_
 refine fc' 4 fun hc12=>?_
 refine SA_region ?_
 refine l' (lA' b7 0 6 [pt' b0_]) ?_
 refine l' (ld' b1_ 0 5) ?_
 obtain⟨r13,C26,H⟩:=g_bind H
 refine o' (ca' [0,1,2,3,4] [5,6] (xf' [.agg #[pt' b0_],iw' p1]) (F73Lb_0_.ok (b0_:=b0_) (p0:=p0) (a1:=p1) C26) ?_)
 rintro _ _⟨A14,c15,A17,c18,A20,c21,A23,c24,rfl,rfl⟩
 refine RA_nil ?_
 have h_:=oi' H;subst h_
 exact bn' [0,1,2,3,4,5] ⟨A14,c15,A17,c18,A20,c21,A23,c24,rfl,rfl⟩


theorem F57.ok {a0 : S26} {r : Bool} (H : F57b0.f k a0 = some r) : SCA Tryz.prog 57 #[.agg #[il' a0.f0,il' a0.f1,.slice A0_0 a0.f2.length c0_0]] [Ro k55 A0_0 c0_0 a0.f2] (fun v B=>v = .bool r∧B = []):=by
 refine SCA_of_body Tryz.func57 rfl rfl ?_
 unfold F57b0.f at H
 refine qr' ?_
 refine o' (bx' fun b2=>?_)
 refine s' (.bool false) as' ?_
 refine nq' ?_
 refine s' (pt' b2) (fa' b2 0 0) ?_
 refine l' (ld' b2 0 1) ?_
 refine s' (pa' b2 1) (fa' b2 0 1) ?_
 refine l' (ld' b2 1 1) ?_
 obtain⟨r4,C45,H⟩:=g_bind H
 refine o' (ca' [] [0,1] (xf' [il' a0.f0,il' a0.f1]) (F68.ok (a0:=a0.f0) (a1:=a0.f1) C45) ?_)
 rintro _ _⟨rfl,rfl⟩
 refine s' (.bool (!r4)) (V_not rfl) ?_
 refine s' (.bool (!r4)) mv' ?_
 obtain⟨q5,hq5,H⟩:=g_lt H
 refine RA_cut 10 (fun e ds As=>St [(1,pt' b2),(23,.bool q5)] [Blk b2 26 [il' a0.f0,il' a0.f1,.slice A0_0 a0.f2.length c0_0],Ro k55 A0_0 c0_0 a0.f2] e ds As) ?_ ?_
 ·by_cases h6 : (!r4) = true
  ·refine no' 9 h6 ?_
   refine pT' h6 ?_
   refine RA_nil ?_
   exact at_normal (St.mk1 (aeq rfl (aeq (congrArg Value.bool (or_t hq5 (h6))) aeq0)) (gs' [1,0]))
  refine y' (bno h6) (pa' b2 2) (fa' b2 0 2) ?_
  refine z' (bno h6) (ld' b2 2 1) ?_
  refine y' (bno h6) (il' (a0.f2.length : Int)) (V_len Tryz.underlying24 rfl) ?_
  refine y' (bno h6) (pt' b2) (fa' b2 0 0) ?_
  refine z' (bno h6) (ld' b2 0 1) ?_
  refine y' (bno h6) (pa' b2 1) (fa' b2 0 1) ?_
  refine z' (bno h6) (ld' b2 1 1) ?_
  refine y' (bno h6) (il' (IntKind.i64.wrap (a0.f0 * a0.f1))) (V_mul rfl rfl) ?_
  refine y' (bno h6) (.bool (decide ((a0.f2.length : Int) ≠ (IntKind.i64.wrap (a0.f0 * a0.f1))))) (V_neq rfl rfl) ?_
  refine pF' (bno h6) ?_
  refine RA_nil ?_
  exact at_normal (St.mk1 (aeq rfl (aeq (congrArg Value.bool (or_f hq5 (bno h6))) aeq0)) (gs' [1,0]))
 rintro e ds As hst7
 refine na' ?_
 refine SA.of_St hst7 fun junk=>?_
 by_cases h8 : q5 = true
 ·replace H:=g_ift h8 H
  refine SA_condTb rfl h8 ?_
  refine qr' ?_
  refine s' (.bool false) as' ?_
  refine ntt' ?_
  have h_:=oi' H;subst h_
  exact b1' [] ⟨rfl,rfl⟩
 replace H:=g_iff h8 H
 refine SA_condFb rfl h8 ?_
 refine SA_skip (at_normal (qr' ?_))
 refine s' (.agg (c55' (S55.mk 0 (S53.mk 0 0 0) 1 z28')).toArray) bd' ?_
 refine o' (al' fun b9=>?_)
 refine o' (su' b9 0 2 (c55' (S55.mk 0 (S53.mk 0 0 0) 1 z28')) ?_)
 refine nq' ?_
 refine s' (pa' b2 2) (fa' b2 0 2) ?_
 refine l' (ld' b2 2 0) ?_
 refine s' (il' (a0.f2.length : Int)) (V_len Tryz.underlying24 rfl) ?_
 refine s' (il' 0) mv' ?_
 refine na' ?_
 obtain⟨t11,H,Bt11⟩:=g_bind H
 refine SA_mid (fun e ds As=>∃ (s12 : S55),t11 = Out.go s12∧∃ (b13 : Nat),St [(3,pt' b13)] [Blk b13 55 (c55' s12)] e ds As) ?_ ?_
 ·refine SA_block ?_
  refine SA_loop (fun k_ e ds As=>∃ (x3_13 : S55) (x28_13 : Int),∃ (b14 : Nat),F57b0.l0 a0 k_ x3_13 x28_13 = some t11∧St [(1,pt' b2),(3,pt' b14),(26,.slice A0_0 a0.f2.length c0_0),(27,il' (a0.f2.length : Int)),(28,il' x28_13)] [Blk b2 26 [il' a0.f0,il' a0.f1,.slice A0_0 a0.f2.length c0_0],Ro k55 A0_0 c0_0 a0.f2,Blk b14 55 (c55' x3_13)] e ds As) (k:=k) ⟨_,_,b9,H,sq' [0,1,2]⟩ ?_
  clear H
  rintro k15 e ds As ⟨x3_13,x28_13,b14,H,hst16⟩
  obtain _ | k15:=k15
  ·cases H
  rw [F57b0.l0] at H
  refine SA.of_St hst16 fun junk=>?_
  refine qr' ?_
  refine s' (.bool (decide (x28_13 < (a0.f2.length : Int)))) (V_lss rfl rfl) ?_
  refine na' (SA_seq ?_)
  by_cases h17 : x28_13 < (a0.f2.length : Int)
  ·replace H:=g_ift h17 H
   refine SA_condT rfl h17 ?_
   refine SA_skip (at_normal (SA_seq (SA_block (qr' ?_))))
   refine s' (il' x28_13) mv' ?_
   obtain⟨⟨g18,g19⟩,H⟩:=g_pos H
   refine l' (VR_index (i:=x28_13) Tryz.underlying24 sz55 rfl rfl (Src.ro (k:=1) rfl) g18 g19) ?_
   refine l' (VR_loadA_el (enc:=enc55) (i:=x28_13) (j:=x28_13.toNat * 15) (m:=0) (sz:=15) (vs:=(c55' (S55.mk ((rd a0.f2 x28_13).f0) ((rd a0.f2 x28_13).f1) ((rd a0.f2 x28_13).f2) ((rd a0.f2 x28_13).f3)))) Tryz.underlying55 rfl sz55 rfl rfl rfl (Src.ro (k:=1) rfl) g18 g19 (fun _ _ h=>h) rfl) ?_
   refine o' (al' fun b20=>?_)
   refine s' (il' x28_13) as' ?_
   refine o' (su' b20 0 3 (c55' (S55.mk ((rd a0.f2 x28_13).f0) ((rd a0.f2 x28_13).f1) ((rd a0.f2 x28_13).f2) ((rd a0.f2 x28_13).f3))) ?_)
   refine nq' ?_
   refine s' (il' x28_13) mv' ?_
   refine s' (pt' b2) (fa' b2 0 0) ?_
   refine l' (ld' b2 0 0) ?_
   obtain⟨g22,H⟩:=g_pos H
   refine s' (il' (x28_13.tmod a0.f0)) (V_rem rfl rfl g22) ?_
   refine s' (.bool (decide ((x28_13.tmod a0.f0) = 0))) (V_eql rfl rfl) ?_
   refine s' (.bool (decide ((x28_13.tmod a0.f0) = 0))) mv' ?_
   obtain⟨q23,hq23,H⟩:=g_lt H
   refine RA_cut 4 (fun e ds As=>St [(1,pt' b2),(3,pt' b14),(4,il' x28_13),(5,pt' b20),(26,.slice A0_0 a0.f2.length c0_0),(27,il' (a0.f2.length : Int)),(28,il' x28_13),(42,.bool q23)] [Blk b2 26 [il' a0.f0,il' a0.f1,.slice A0_0 a0.f2.length c0_0],Ro k55 A0_0 c0_0 a0.f2,Blk b14 55 (c55' x3_13),Blk b20 55 (c55' (S55.mk ((rd a0.f2 x28_13).f0) ((rd a0.f2 x28_13).f1) ((rd a0.f2 x28_13).f2) ((rd a0.f2 x28_13).f3)))] e ds As) ?_ ?_
   ·by_cases h24 : (x28_13.tmod a0.f0) = 0
    ·refine y' (dec_t h24) (pa' b14 4) (fa' b14 0 4) ?_
     refine z' (dec_t h24) (ld' b14 4 2) ?_
     refine y' (dec_t h24) (.bool (decide (x3_13.f2 = 2))) (V_eql rfl rfl) ?_
     refine pT' (dec_t h24) ?_
     refine RA_nil ?_
     exact at_normal (St.mk1 (aeq rfl (aeq rfl (aeq rfl (aeq rfl (aeq rfl (aeq rfl (aeq rfl (aeq (congrArg Value.bool (and_t hq23 (dec_t h24))) aeq0)))))))) (gs' [0,1,2,3]))
    refine no' 3 (dec_f h24) ?_
    refine pF' (dec_f h24) ?_
    refine RA_nil ?_
    exact at_normal (St.mk1 (aeq rfl (aeq rfl (aeq rfl (aeq rfl (aeq rfl (aeq rfl (aeq rfl (aeq (congrArg Value.bool (and_f hq23 (dec_f h24))) aeq0)))))))) (gs' [0,1,2,3]))
   rintro e ds As hst25
   refine na' ?_
   refine SA.of_St hst25 fun junk=>?_
   by_cases h26 : q23 = true
   ·replace H:=g_ift h26 H
    refine SA_condTb rfl h26 ?_
    refine qr' ?_
    refine s' (.bool false) as' ?_
    refine ntt' (inb_ret (thn_ret (thn_ret (inb_ret (thn_ret (thn_ret ?_))))))
    have h_:=oi' H;subst h_
    have hb_:=el_ret Bt11
    have hr_:=Option.some.inj hb_
    clear hb_
    subst hr_
    exact b1' [] ⟨rfl,rfl⟩
   replace H:=g_iff h26 H
   refine SA_condFb rfl h26 ?_
   refine SA_skip (at_normal (qr' ?_))
   refine s' (pa' b20 4) (fa' b20 0 4) ?_
   refine l' (ld' b20 4 3) ?_
   refine s' (.bool (decide (((rd a0.f2 x28_13).f2) = 0))) (V_eql rfl rfl) ?_
   refine s' (.bool (decide (((rd a0.f2 x28_13).f2) = 0))) mv' ?_
   obtain⟨q27,hq27,H⟩:=g_lt H
   refine cR' 6 [(1,pt' b2),(3,pt' b14),(4,il' x28_13),(5,pt' b20),(26,.slice A0_0 a0.f2.length c0_0),(27,il' (a0.f2.length : Int)),(28,il' x28_13),(52,.bool q27)] [Blk b2 26 [il' a0.f0,il' a0.f1,.slice A0_0 a0.f2.length c0_0],Ro k55 A0_0 c0_0 a0.f2,Blk b14 55 (c55' x3_13),Blk b20 55 (c55' (S55.mk ((rd a0.f2 x28_13).f0) ((rd a0.f2 x28_13).f1) ((rd a0.f2 x28_13).f2) ((rd a0.f2 x28_13).f3)))] ?_ fun junk=>?_
   ·by_cases h28 : ((rd a0.f2 x28_13).f2) = 0
    ·refine y' (dec_t h28) (pa' b20 5) (fa' b20 0 5) ?_
     refine z' (dec_t h28) (lA' b20 5 3 (c28' ((rd a0.f2 x28_13).f3))) ?_
     refine y' (dec_t h28) (pa' b14 5) (fa' b14 0 5) ?_
     refine z' (dec_t h28) (lA' b14 5 2 (c28' x3_13.f3)) ?_
     refine y' (dec_t h28) (.bool (decide (((rd a0.f2 x28_13).f3) = x3_13.f3))) (V_eqlD (xs:=(c28' ((rd a0.f2 x28_13).f3))) (ys:=(c28' x3_13.f3)) (r:=(((((rd a0.f2 x28_13).f3).f0) == x3_13.f3.f0) && (((((rd a0.f2 x28_13).f3).f1) == x3_13.f3.f1) && (((((rd a0.f2 x28_13).f3).f2) == x3_13.f3.f2) && (((((rd a0.f2 x28_13).f3).f3) == x3_13.f3.f3) && (((((rd a0.f2 x28_13).f3).f4) == x3_13.f3.f4) && (((((rd a0.f2 x28_13).f3).f5) == x3_13.f3.f5) && (((((rd a0.f2 x28_13).f3).f6) == x3_13.f3.f6) && (((((rd a0.f2 x28_13).f3).f7) == x3_13.f3.f7) && (((((rd a0.f2 x28_13).f3).f8) == x3_13.f3.f8) && (((((rd a0.f2 x28_13).f3).f9) == x3_13.f3.f9) && true))))))))))) (p:=((rd a0.f2 x28_13).f3) = x3_13.f3) eqg28 rfl rfl (by kernel_rfl) (eqv28 (x:=((rd a0.f2 x28_13).f3)) (y:=x3_13.f3))) ?_
     refine pT' (dec_t h28) ?_
     refine RA_nil ?_
     exact at_normal (St.mk1 (aeq rfl (aeq rfl (aeq rfl (aeq rfl (aeq rfl (aeq rfl (aeq rfl (aeq (congrArg Value.bool (and_t hq27 (dec_t h28))) aeq0)))))))) (gs' [0,1,2,3]))
    refine no' 5 (dec_f h28) ?_
    refine pF' (dec_f h28) ?_
    refine RA_nil ?_
    exact at_normal (St.mk1 (aeq rfl (aeq rfl (aeq rfl (aeq rfl (aeq rfl (aeq rfl (aeq rfl (aeq (congrArg Value.bool (and_f hq27 (dec_f h28))) aeq0)))))))) (gs' [0,1,2,3]))
   refine s' (.bool q27) mv' ?_
   obtain⟨q30,H,Bq30⟩:=g_bind H
   refine cR' 6 [(1,pt' b2),(3,pt' b14),(5,pt' b20),(26,.slice A0_0 a0.f2.length c0_0),(27,il' (a0.f2.length : Int)),(28,il' x28_13),(59,.bool q30)] [Blk b2 26 [il' a0.f0,il' a0.f1,.slice A0_0 a0.f2.length c0_0],Ro k55 A0_0 c0_0 a0.f2,Blk b14 55 (c55' x3_13),Blk b20 55 (c55' (S55.mk ((rd a0.f2 x28_13).f0) ((rd a0.f2 x28_13).f1) ((rd a0.f2 x28_13).f2) ((rd a0.f2 x28_13).f3)))] ?_ fun junk=>?_
   ·by_cases h31 : q27 = true
    ·replace H:=g_ift h31 H
     refine y' h31 (il' x28_13) mv' ?_
     refine y' h31 (pt' b2) (fa' b2 0 0) ?_
     refine z' h31 (ld' b2 0 0) ?_
     obtain⟨g32,H⟩:=g_pos H
     refine y' h31 (il' (x28_13.tmod a0.f0)) (V_rem rfl rfl g32) ?_
     refine y' h31 (.bool (decide ((x28_13.tmod a0.f0) > 0))) (V_gtr rfl rfl) ?_
     refine pT' h31 ?_
     have h_:=oi' H;subst h_
     exact rm' [0,1,2,3]
    replace H:=g_iff h31 H
    refine no' 5 (bno h31) ?_
    refine pF' (bno h31) ?_
    have h_:=oi' H;subst h_
    exact rm' [0,1,2,3]
   replace H:=Bq30
   refine s' (.bool q30) as' ?_
   refine nq' ?_
   refine l' (lA' b20 0 3 (c55' (S55.mk ((rd a0.f2 x28_13).f0) ((rd a0.f2 x28_13).f1) ((rd a0.f2 x28_13).f2) ((rd a0.f2 x28_13).f3)))) ?_
   obtain⟨r34,C43,H⟩:=g_bind H
   refine o' (ca' [] [0,1,2,3] (xf' [.agg (c55' (S55.mk ((rd a0.f2 x28_13).f0) ((rd a0.f2 x28_13).f1) ((rd a0.f2 x28_13).f2) ((rd a0.f2 x28_13).f3))).toArray]) (F112.ok (a0:=(S55.mk ((rd a0.f2 x28_13).f0) ((rd a0.f2 x28_13).f1) ((rd a0.f2 x28_13).f2) ((rd a0.f2 x28_13).f3))) C43) ?_)
   rintro _ _⟨rfl,rfl⟩
   refine s' (.bool (!r34)) (V_not rfl) ?_
   refine s' (.bool (!r34)) mv' ?_
   obtain⟨q35,hq35,H⟩:=g_lt H
   refine cR' 6 [(1,pt' b2),(3,pt' b14),(5,pt' b20),(6,.bool q30),(26,.slice A0_0 a0.f2.length c0_0),(27,il' (a0.f2.length : Int)),(28,il' x28_13),(69,.bool q35)] [Blk b2 26 [il' a0.f0,il' a0.f1,.slice A0_0 a0.f2.length c0_0],Ro k55 A0_0 c0_0 a0.f2,Blk b14 55 (c55' x3_13),Blk b20 55 (c55' (S55.mk ((rd a0.f2 x28_13).f0) ((rd a0.f2 x28_13).f1) ((rd a0.f2 x28_13).f2) ((rd a0.f2 x28_13).f3)))] ?_ fun junk=>?_
   ·by_cases h36 : (!r34) = true
    ·refine no' 5 h36 ?_
     refine pT' h36 ?_
     refine RA_nil ?_
     exact at_normal (St.mk1 (aeq rfl (aeq rfl (aeq rfl (aeq rfl (aeq rfl (aeq rfl (aeq rfl (aeq (congrArg Value.bool (or_t hq35 (h36))) aeq0)))))))) (gs' [0,1,2,3]))
    refine y' (bno h36) (pa' b14 4) (fa' b14 0 4) ?_
    refine z' (bno h36) (ld' b14 4 2) ?_
    refine y' (bno h36) (.bool (decide (x3_13.f2 = 2))) (V_eql rfl rfl) ?_
    refine y' (bno h36) (.bool q30) mv' ?_
    refine y' (bno h36) (.bool (decide ((decide (x3_13.f2 = 2)) ≠ q30))) (V_neqB Tryz.underlying4 rfl rfl) ?_
    refine pF' (bno h36) ?_
    refine RA_nil ?_
    exact at_normal (St.mk1 (aeq rfl (aeq rfl (aeq rfl (aeq rfl (aeq rfl (aeq rfl (aeq rfl (aeq (congrArg Value.bool (or_f hq35 (bno h36))) aeq0)))))))) (gs' [0,1,2,3]))
   refine s' (.bool q35) mv' ?_
   obtain⟨q38,H,Bq38⟩:=g_bind H
   refine RA_cut 8 (fun e ds As=>St [(1,pt' b2),(3,pt' b14),(5,pt' b20),(26,.slice A0_0 a0.f2.length c0_0),(27,il' (a0.f2.length : Int)),(28,il' x28_13),(78,.bool q38)] [Blk b2 26 [il' a0.f0,il' a0.f1,.slice A0_0 a0.f2.length c0_0],Ro k55 A0_0 c0_0 a0.f2,Blk b14 55 (c55' x3_13),Blk b20 55 (c55' (S55.mk ((rd a0.f2 x28_13).f0) ((rd a0.f2 x28_13).f1) ((rd a0.f2 x28_13).f2) ((rd a0.f2 x28_13).f3)))] e ds As) ?_ ?_
   ·by_cases h39 : q35 = true
    ·replace H:=g_ift h39 H
     refine no' 4 h39 ?_
     refine nu' ?_
     refine nu' ?_
     refine no' 1 h39 ?_
     refine pT' h39 ?_
     have h_:=oi' H;subst h_
     exact rm' [0,1,2,3]
    replace H:=g_iff h39 H
    refine y' (bno h39) (pa' b20 4) (fa' b20 0 4) ?_
    refine z' (bno h39) (ld' b20 4 3) ?_
    refine y' (bno h39) (.bool (decide (((rd a0.f2 x28_13).f2) = 0))) (V_eql rfl rfl) ?_
    refine y' (bno h39) (.bool (decide (((rd a0.f2 x28_13).f2) = 0))) mv' ?_
    by_cases h40 : ((rd a0.f2 x28_13).f2) = 0
    ·replace H:=g_ift h40 H
     refine y' (dec_t h40) (.bool q30) mv' ?_
     refine y' (dec_t h40) (.bool (!q30)) (V_not rfl) ?_
     refine yo' (bno h39) (OA_v rfl (V_pickT rfl (dec_t h40) rfl) ?_)
     refine pF' (bno h39) ?_
     have h_:=oi' H;subst h_
     exact rm' [0,1,2,3]
    replace H:=g_iff h40 H
    refine no' 2 (dec_f h40) ?_
    refine yo' (bno h39) (OA_v rfl (V_pickF rfl (dec_f h40) rfl) ?_)
    refine pF' (bno h39) ?_
    have h_:=oi' H;subst h_
    exact rm' [0,1,2,3]
   rintro e ds As hst41
   clear H
   have H:=Bq38
   clear Bq38
   refine na' ?_
   refine SA.of_St hst41 fun junk=>?_
   by_cases h42 : q38 = true
   ·replace H:=g_ift h42 H
    refine SA_condTb rfl h42 ?_
    refine qr' ?_
    refine s' (.bool false) as' ?_
    refine ntt' (inb_ret (thn_ret (thn_ret (inb_ret (thn_ret (thn_ret ?_))))))
    have h_:=oi' H;subst h_
    have hb_:=el_ret Bt11
    have hr_:=Option.some.inj hb_
    clear hb_
    subst hr_
    exact b1' [] ⟨rfl,rfl⟩
   replace H:=g_iff h42 H
   refine SA_condFb rfl h42 ?_
   refine SA_skip (at_normal (SA_region ?_))
   refine l' (lA' b20 0 3 (c55' (S55.mk ((rd a0.f2 x28_13).f0) ((rd a0.f2 x28_13).f1) ((rd a0.f2 x28_13).f2) ((rd a0.f2 x28_13).f3)))) ?_
   refine o' (su' b14 0 2 (c55' (S55.mk ((rd a0.f2 x28_13).f0) ((rd a0.f2 x28_13).f1) ((rd a0.f2 x28_13).f2) ((rd a0.f2 x28_13).f3))) ?_)
   refine RA_nil (inb_normal (at_normal (SA_region ?_)))
   refine s' (il' (IntKind.i64.wrap (x28_13 + 1))) (V_add rfl rfl) ?_
   refine s' (il' (IntKind.i64.wrap (x28_13 + 1))) mv' ?_
   refine RA_nil ?_
   exact at_normal ⟨k15,Nat.lt_succ_self _,_,_,b14,H,sq' [0,1,2]⟩
  replace H:=g_iff h17 H
  refine SA_condF rfl h17 ?_
  refine SA_exit (thn_exit (thn_exit (inb_hit ?_)))
  have h_:=oi' H;subst h_
  exact at_normal ⟨x3_13,rfl,b14,sq' [2]⟩
 rintro e ds As ⟨s12,ht,b13,hst44⟩
 clear H
 subst ht
 replace Bt11:=el_go Bt11
 have H:=Bt11
 clear Bt11
 refine at_normal ?_
 refine SA.of_St hst44 fun junk=>?_
 refine qr' ?_
 refine s' (pa' b13 4) (fa' b13 0 4) ?_
 refine l' (ld' b13 4 0) ?_
 refine s' (.bool (decide (s12.f2 ≠ 2))) (V_neq rfl rfl) ?_
 refine s' (.bool (decide (s12.f2 ≠ 2))) as' ?_
 refine nt' ?_
 have h_:=oi' H;subst h_
 exact b1' [] ⟨rfl,rfl⟩


theorem F114.ok {l0 : (List S55)} {l1 : (List S55)} {A0 : Option Addr} {c0 : Nat} {A1 : Option Addr} {c1 : Nat} {r : Bool} (H : F114b0.f k l0 l1 = some r) : SCA Tryz.prog 114 #[.slice A0 l0.length c0,.slice A1 l1.length c1] [Ro k55 A0 c0 l0,Ro k55 A1 c1 l1] (fun v B=>v = .bool r∧B = []):=by
 refine SCA_of_body Tryz.func114 rfl rfl ?_
 unfold F114b0.f at H
 refine qr' ?_
 refine s' (.bool false) as' ?_
 refine nq' ?_
 refine s' (.slice A0 l0.length c0) mv' ?_
 refine s' (il' (l0.length : Int)) (V_len Tryz.underlying24 rfl) ?_
 refine s' (.slice A1 l1.length c1) mv' ?_
 refine s' (il' (l1.length : Int)) (V_len Tryz.underlying24 rfl) ?_
 refine s' (.bool (decide ((l0.length : Int) ≠ (l1.length : Int)))) (V_neq rfl rfl) ?_
 refine na' ?_
 by_cases h3 : (l0.length : Int) ≠ (l1.length : Int)
 ·replace H:=g_ift h3 H
  refine SA_condT rfl h3 ?_
  refine qr' ?_
  refine s' (.bool false) as' ?_
  refine ntt' ?_
  have h_:=oi' H;subst h_
  exact b1' [] ⟨rfl,rfl⟩
 replace H:=g_iff h3 H
 refine SA_condF rfl h3 ?_
 refine SA_skip (at_normal (SA_seq (qr' ?_)))
 refine s' (.slice A0 l0.length c0) mv' ?_
 refine s' (il' (l0.length : Int)) (V_len Tryz.underlying24 rfl) ?_
 refine s' (il' 0) mv' ?_
 refine na' ?_
 obtain⟨t4,H,Bt4⟩:=g_bind H
 refine SA_mid (fun e ds As=>∃ (s5 : Unit),t4 = Out.go s5∧St [] [] e ds As) ?_ ?_
 ·refine SA_block ?_
  refine SA_loop (fun k_ e ds As=>∃ (x13_5 : Int),F114b0.l0 l0 l1 k_ x13_5 = some t4∧St [(0,.slice A0 l0.length c0),(1,.slice A1 l1.length c1),(12,il' (l0.length : Int)),(13,il' x13_5)] [Ro k55 A0 c0 l0,Ro k55 A1 c1 l1] e ds As) (k:=k) ⟨_,H,sq' [0,1]⟩ ?_
  clear H
  rintro k6 e ds As ⟨x13_5,H,hst7⟩
  obtain _ | k6:=k6
  ·cases H
  rw [F114b0.l0] at H
  refine SA.of_St hst7 fun junk=>?_
  refine qr' ?_
  refine s' (.bool (decide (x13_5 < (l0.length : Int)))) (V_lss rfl rfl) ?_
  refine na' (SA_seq ?_)
  by_cases h8 : x13_5 < (l0.length : Int)
  ·replace H:=g_ift h8 H
   refine SA_condT rfl h8 ?_
   refine SA_skip (at_normal (SA_seq (SA_block (qr' ?_))))
   refine s' (il' x13_5) mv' ?_
   refine s' (il' x13_5) as' ?_
   refine na' (SA_seq ?_)
   refine SA_drawHq (rg' 0 9) #[[],[],[0,1],[0,1,2],[],[],[4,5],[4,5,6],(rg' 0 8)] [0,1] [0,1] mixed rfl rfl rfl (PanOk.thn (PanOk.inb (PanOk.thn (PanOk.thn (PanOk.inb (PanOk.thn (PanOk.thn PanOk.body))))))) fun I0 hS h0 hh0 w0 sH dd pk=>?_
   refine t' (.slice A0 l0.length c0) 0 rfl sH mv' ?_
   refine t' (il' x13_5) 1 rfl sH mv' ?_
   obtain⟨⟨g129,g130⟩,H⟩:=g_pos H
   refine r' 2 rfl sH (VR_index (i:=x13_5) Tryz.underlying24 sz55 rfl rfl (Src.ro (k:=0) rfl) g129 g130) ?_
   refine r' 3 rfl sH (VR_loadA_el (enc:=enc55) (i:=x13_5) (j:=x13_5.toNat * 15) (m:=0) (sz:=15) (vs:=(c55' (S55.mk ((rd l0 x13_5).f0) ((rd l0 x13_5).f1) ((rd l0 x13_5).f2) ((rd l0 x13_5).f3)))) Tryz.underlying55 rfl sz55 rfl rfl rfl (Src.ro (k:=0) rfl) g129 g130 (fun _ _ h=>h) rfl) ?_
   refine t' (.slice A1 l1.length c1) 4 rfl sH mv' ?_
   refine t' (il' x13_5) 5 rfl sH mv' ?_
   obtain⟨⟨g369,g370⟩,H⟩:=g_pos H
   refine r' 6 rfl sH (VR_index (i:=x13_5) Tryz.underlying24 sz55 rfl rfl (Src.ro (k:=1) rfl) g369 g370) ?_
   refine r' 7 rfl sH (VR_loadA_el (enc:=enc55) (i:=x13_5) (j:=x13_5.toNat * 15) (m:=0) (sz:=15) (vs:=(c55' (S55.mk ((rd l1 x13_5).f0) ((rd l1 x13_5).f1) ((rd l1 x13_5).f2) ((rd l1 x13_5).f3)))) Tryz.underlying55 rfl sz55 rfl rfl rfl (Src.ro (k:=1) rfl) g369 g370 (fun _ _ h=>h) rfl) ?_
   refine t' (.bool (decide ((rd l0 x13_5) ≠ (rd l1 x13_5)))) 8 rfl sH (V_neqD (xs:=(c55' (S55.mk ((rd l0 x13_5).f0) ((rd l0 x13_5).f1) ((rd l0 x13_5).f2) ((rd l0 x13_5).f3)))) (ys:=(c55' (S55.mk ((rd l1 x13_5).f0) ((rd l1 x13_5).f1) ((rd l1 x13_5).f2) ((rd l1 x13_5).f3)))) (r:=((((rd l0 x13_5).f0) == ((rd l1 x13_5).f0)) && ((((((rd l0 x13_5).f1).f0) == (((rd l1 x13_5).f1).f0)) && (((((rd l0 x13_5).f1).f1) == (((rd l1 x13_5).f1).f1)) && (((((rd l0 x13_5).f1).f2) == (((rd l1 x13_5).f1).f2)) && true))) && ((((rd l0 x13_5).f2) == ((rd l1 x13_5).f2)) && ((((((rd l0 x13_5).f3).f0) == (((rd l1 x13_5).f3).f0)) && (((((rd l0 x13_5).f3).f1) == (((rd l1 x13_5).f3).f1)) && (((((rd l0 x13_5).f3).f2) == (((rd l1 x13_5).f3).f2)) && (((((rd l0 x13_5).f3).f3) == (((rd l1 x13_5).f3).f3)) && (((((rd l0 x13_5).f3).f4) == (((rd l1 x13_5).f3).f4)) && (((((rd l0 x13_5).f3).f5) == (((rd l1 x13_5).f3).f5)) && (((((rd l0 x13_5).f3).f6) == (((rd l1 x13_5).f3).f6)) && (((((rd l0 x13_5).f3).f7) == (((rd l1 x13_5).f3).f7)) && (((((rd l0 x13_5).f3).f8) == (((rd l1 x13_5).f3).f8)) && (((((rd l0 x13_5).f3).f9) == (((rd l1 x13_5).f3).f9)) && true)))))))))) && true))))) (p:=(rd l0 x13_5) = (rd l1 x13_5)) eqg55 rfl rfl (by kernel_rfl) (eqv55 (x:=rd l0 x13_5) (y:=rd l1 x13_5))) ?_
   refine DH_open dd sH ?_
   refine DN_done (by kernel_rfl) ?_
   refine at_normal ?_
   by_cases h550 : (rd l0 x13_5) ≠ (rd l1 x13_5)
   ·replace H:=g_ift h550 H
    refine SA_condT rfl h550 ?_
    refine qr' ?_
    refine s' (.bool false) as' ?_
    refine nt' (inb_ret (thn_ret (thn_ret (inb_ret (thn_ret (thn_ret ?_))))))
    have h_:=oi' H;subst h_
    have hb_:=el_ret Bt4
    have hr_:=Option.some.inj hb_
    clear hb_
    subst hr_
    exact b1' [] ⟨rfl,rfl⟩
   replace H:=g_iff h550 H
   refine SA_condF rfl h550 ?_
   refine SA_skip (inb_normal (at_normal (SA_region ?_)))
   refine s' (il' (IntKind.i64.wrap (x13_5 + 1))) (V_add rfl rfl) ?_
   refine s' (il' (IntKind.i64.wrap (x13_5 + 1))) mv' ?_
   refine RA_nil ?_
   exact at_normal ⟨k6,Nat.lt_succ_self _,_,H,sq' [0,1]⟩
  replace H:=g_iff h8 H
  refine SA_condF rfl h8 ?_
  refine SA_exit (thn_exit (thn_exit (inb_hit ?_)))
  have h_:=oi' H;subst h_
  exact at_normal ⟨(),rfl,sq' []⟩
 rintro e ds As ⟨s5,ht,hst551⟩
 clear H
 subst ht
 replace Bt4:=el_go Bt4
 have H:=Bt4
 clear Bt4
 refine at_normal ?_
 refine SA.of_St hst551 fun junk=>?_
 refine qr' ?_
 refine s' (.bool true) as' ?_
 refine nt' ?_
 have h_:=oi' H;subst h_
 exact b1' [] ⟨rfl,rfl⟩


theorem F59.ok {a0 : S26} {a1 : S26} {r : Bool} (H : F59b0.f k a0 a1 = some r) : SCA Tryz.prog 59 #[.agg #[il' a0.f0,il' a0.f1,.slice A0_0 a0.f2.length c0_0],.agg #[il' a1.f0,il' a1.f1,.slice A1_0 a1.f2.length c1_0]] [Ro k55 A0_0 c0_0 a0.f2,Ro k55 A1_0 c1_0 a1.f2] (fun v B=>v = .bool r∧B = []):=by
 refine SCA_of_body Tryz.func59 rfl rfl ?_
 unfold F59b0.f at H
 refine qr' ?_
 refine o' (bx' fun b3=>?_)
 refine o' (bx' fun b5=>?_)
 refine s' (.bool false) as' ?_
 refine nr' ?_
 refine s' (pt' b3) (fa' b3 0 0) ?_
 refine l' (ld' b3 0 2) ?_
 refine s' (pt' b5) (fa' b5 0 0) ?_
 refine l' (ld' b5 0 3) ?_
 refine s' (.bool (decide (a0.f0 = a1.f0))) (V_eql rfl rfl) ?_
 refine s' (.bool (decide (a0.f0 = a1.f0))) mv' ?_
 obtain⟨q7,hq7,H⟩:=g_lt H
 refine cR' 6 [(2,pt' b3),(3,pt' b5),(16,.bool q7)] [Blk b3 26 [il' a0.f0,il' a0.f1,.slice A0_0 a0.f2.length c0_0],Ro k55 A0_0 c0_0 a0.f2,Blk b5 26 [il' a1.f0,il' a1.f1,.slice A1_0 a1.f2.length c1_0],Ro k55 A1_0 c1_0 a1.f2] ?_ fun junk=>?_
 ·by_cases h8 : a0.f0 = a1.f0
  ·refine y' (dec_t h8) (pa' b3 1) (fa' b3 0 1) ?_
   refine z' (dec_t h8) (ld' b3 1 2) ?_
   refine y' (dec_t h8) (pa' b5 1) (fa' b5 0 1) ?_
   refine z' (dec_t h8) (ld' b5 1 3) ?_
   refine y' (dec_t h8) (.bool (decide (a0.f1 = a1.f1))) (V_eql rfl rfl) ?_
   refine pT' (dec_t h8) ?_
   refine RA_nil ?_
   exact at_normal (St.mk1 (aeq rfl (aeq rfl (aeq (congrArg Value.bool (and_t hq7 (dec_t h8))) aeq0))) (gs' [2,0,3,1]))
  refine no' 5 (dec_f h8) ?_
  refine pF' (dec_f h8) ?_
  refine RA_nil ?_
  exact at_normal (St.mk1 (aeq rfl (aeq rfl (aeq (congrArg Value.bool (and_f hq7 (dec_f h8))) aeq0))) (gs' [2,0,3,1]))
 refine s' (.bool q7) mv' ?_
 obtain⟨q10,H,Bq10⟩:=g_bind H
 refine cR' 6 [(23,.bool q10)] [] ?_ fun junk=>?_
 ·by_cases h11 : q7 = true
  ·replace H:=g_ift h11 H
   refine y' h11 (pa' b3 2) (fa' b3 0 2) ?_
   refine z' h11 (ld' b3 2 0) ?_
   refine y' h11 (pa' b5 2) (fa' b5 0 2) ?_
   refine z' h11 (ld' b5 2 2) ?_
   obtain⟨r12,C13,H⟩:=g_bind H
   refine yo' h11 (ca' [1,3] [0,1,2,3] (xf' [.slice A0_0 a0.f2.length c0_0,.slice A1_0 a1.f2.length c1_0]) (F114.ok (l0:=a0.f2) (A0:=A0_0) (c0:=c0_0) (l1:=a1.f2) (A1:=A1_0) (c1:=c1_0) C13) ?_)
   rintro _ _⟨rfl,rfl⟩
   refine pT' h11 ?_
   have h_:=oi' H;subst h_
   exact rm' []
  replace H:=g_iff h11 H
  refine no' 5 (bno h11) ?_
  refine pF' (bno h11) ?_
  have h_:=oi' H;subst h_
  exact rm' []
 replace H:=Bq10
 refine s' (.bool q10) as' ?_
 refine nt' ?_
 have h_:=oi' H;subst h_
 exact b1' [] ⟨rfl,rfl⟩

end Go.Proofs.YtckilbegmbaeeaaGreat.Z5

/- What functions compute, and that they do: 129w0, 130Lb_0_, 29, 30, 62f76xx_1_, 62f78xx_1_, 76Lb_0_, 77Lb_0_, 78Lb_0_, 79Lb_0_. -/
import Derived.Test.YtckilbegmbaeeaaGreatZ50
import Derived.Test.YtckilbegmbaeeaaGreatZ52
import Derived.Test.YtckilbegmbaeeaaGreatZ53
import Derived.Test.YtckilbegmbaeeaaGreatZ54
import Derived.Test.YtckilbegmbaeeaaGreatZ56
import Derived.Test.YtckilbegmbaeeaaGreatZ57
namespace Go.Proofs.YtckilbegmbaeeaaGreat.Z5
open Go Go.RowKit Go.Proofs.YtckilbegmbaeeaaGreat.SL
set_option linter.unusedVariables false
set_option maxHeartbeats 20000000
set_option maxRecDepth 100000
set_option linter.unusedSimpArgs false
attribute [local irreducible] IntKind.wrap minI maxI shrI shlI andI orI xorI andNotI cplI rd sub bytesOf strOf slA
variable {b0_ b1_ b2000_ b2001_ b2_ c0_0 c0_1 c0_2 c0_3 k : Nat}
variable {A0_0 A0_1 A0_2 A0_3 : Option Addr}
def F77Lb_0_.f (p0 : S34) (a1 : Int) (a2 : Int) : Option (S34):=lt (IntKind.i64.wrap (p0.f0.f1 - 1)) fun n488=>(if p0.f1 ≤ p0.f6 then (some p0.f6) else (some n488) : Option (Int)).bind (fun t1210=>(if p0.f1 ≥ p0.f5 then (some p0.f5) else (some 0) : Option (Int)).bind (fun t1874=>(F128.f a1).bind (fun r2357=>(F127.f (IntKind.i64.wrap (p0.f1 + r2357)) t1874 t1210).bind (fun r2597=>(F128.f a2).bind (fun r3322=>(F120Lb_0_.f ({ p0 with f1:=r2597 })).bind (fun r3502=>(F127.f (IntKind.i64.wrap (p0.f2 + r3322)) 0 r3502).bind (fun r3562=>some (({ p0 with f1:=r2597,f2:=r3562,f3:=false })))))))))
theorem F77Lb_0_.ok {p0 : S34} {a1 : Int} {a2 : Int} {r : S34} (H : F77Lb_0_.f p0 a1 a2 = some r) : SCA Tryz.prog 77 #[.agg #[.pointer (some ⟨b0_,0,none⟩)],il' a1,il' a2] [Blk b0_ 34 (c34' p0 A0_0 c0_0 A0_1 c0_1 A0_2 c0_2 A0_3 c0_3),Buf k55 55 A0_0 c0_0 p0.f0.f2,bl' 3 A0_1 c0_1 p0.f7,Buf k55 55 A0_2 c0_2 p0.f16.f2,bw' 21 A0_3 c0_3 p0.f17] (fun v B=>∃ P0_0_ q0_0_ P0_1_ q0_1_ P0_2_ q0_2_ P0_3_ q0_3_,v = .tuple #[]∧B = [Blk b0_ 34 (c34' r P0_0_ q0_0_ P0_1_ q0_1_ P0_2_ q0_2_ P0_3_ q0_3_),Buf k55 55 P0_0_ q0_0_ r.f0.f2,bl' 3 P0_1_ q0_1_ r.f7,Buf k55 55 P0_2_ q0_2_ r.f16.f2,bw' 21 P0_3_ q0_3_ r.f17]):=by
 refine SCA_of_body Tryz.func77 rfl rfl ?_
 unfold F77Lb_0_.f at H
 refine qr' ?_
 refine o' (bx' fun b6=>?_)
 refine na' (SA_seq ?_)
 refine SA_drawHq (rg' 0 9) #[[],[0],[0,1],[0,1,2],(rg' 0 4),(rg' 0 5),(rg' 0 6),[],(rg' 0 8)] [0,5] (rg' 1 4) mixed rfl rfl rfl (PanOk.thn PanOk.body) fun I0 hS h0 hh0 w0 sH dd pk=>?_
 refine t' (pt' b6) 0 rfl sH (fa' b6 0 0) ?_
 refine r' 1 rfl sH (ld' b6 0 1) ?_
 refine t' (pt' b0_) 2 rfl sH nc' ?_
 refine t' (pt' b0_) 3 rfl sH (fa' b0_ 0 0) ?_
 refine t' (pa' b0_ 1) 4 rfl sH (fa' b0_ 0 1) ?_
 refine r' 5 rfl sH (ld' b0_ 1 0) ?_
 refine t' (il' (IntKind.i64.wrap (p0.f0.f1 - 1))) 6 rfl sH (V_sub rfl rfl) ?_
 refine t' (il' 0) 7 rfl sH as' ?_
 obtain⟨n488,hn488,H⟩:=g_lt H
 refine t' (il' n488) 8 rfl sH (V_assign (v:=il' n488) (congrArg (Value.int .i64) hn488.symm)) ?_
 refine DH_open dd sH ?_
 refine DN_done (by kernel_rfl) ?_
 refine at_normal (SA_seq (SA_seq ?_))
 refine SA_drawHq (rg' 0 11) #[[],[0],[0,1],[0,1,2],(rg' 0 4),[],[5],[5,6],[5,6,7],(rg' 5 4),(rg' 0 10)] [0,1] (rg' 2 4) mixed rfl rfl rfl (PanOk.thn (PanOk.thn PanOk.body)) fun I0 hS h0 hh0 w0 sH dd pk=>?_
 refine t' (pt' b6) 0 rfl sH (fa' b6 0 0) ?_
 refine r' 1 rfl sH (ld' b6 0 1) ?_
 refine t' (pt' b0_) 2 rfl sH nc' ?_
 refine t' (pa' b0_ 3) 3 rfl sH (fa' b0_ 0 3) ?_
 refine r' 4 rfl sH (ld' b0_ 3 0) ?_
 refine t' (pt' b6) 5 rfl sH (fa' b6 0 0) ?_
 refine r' 6 rfl sH (ld' b6 0 1) ?_
 refine t' (pt' b0_) 7 rfl sH nc' ?_
 refine t' (pa' b0_ 17) 8 rfl sH (fa' b0_ 0 17) ?_
 refine r' 9 rfl sH (ld' b0_ 17 0) ?_
 refine t' (.bool (decide (p0.f1 ≤ p0.f6))) 10 rfl sH (V_leq rfl rfl) ?_
 refine DH_open dd sH ?_
 refine DN_done (by kernel_rfl) ?_
 refine at_normal ?_
 obtain⟨t1210,H,Bt1210⟩:=g_bind H
 refine SA_mid (fun e ds As=>St [(1,il' a1),(2,il' a2),(3,pt' b6),(6,il' 0),(7,il' t1210)] [Blk b0_ 34 (c34' p0 A0_0 c0_0 A0_1 c0_1 A0_2 c0_2 A0_3 c0_3),Buf k55 55 A0_0 c0_0 p0.f0.f2,bl' 3 A0_1 c0_1 p0.f7,Buf k55 55 A0_2 c0_2 p0.f16.f2,bw' 21 A0_3 c0_3 p0.f17,Blk b6 84 [pt' b0_]] e ds As) ?_ ?_
 ·by_cases h1211 : p0.f1 ≤ p0.f6
  ·replace H:=g_ift h1211 H
   refine SA_condT rfl h1211 ?_
   refine SA_region ?_
   refine s' (pt' b6) (fa' b6 0 0) ?_
   refine l' (ld' b6 0 1) ?_
   refine s' (pt' b0_) nc' ?_
   refine s' (pa' b0_ 17) (fa' b0_ 0 17) ?_
   refine l' (ld' b0_ 17 0) ?_
   refine s' (il' p0.f6) as' ?_
   refine RA_nil ?_
   have h_:=oi' H;subst h_
   exact sm' [0,2,3,4,5,1]
  replace H:=g_iff h1211 H
  refine SA_condF rfl h1211 ?_
  refine SA_skip ?_
  have h_:=oi' H;subst h_
  exact sm' [0,2,3,4,5,1]
 rintro e ds As hst1212
 clear H
 have H:=Bt1210
 clear Bt1210
 refine at_normal ?_
 refine SA.of_St hst1212 fun junk=>?_
 refine SA_seq (SA_seq ?_)
 refine SA_drawHq (rg' 0 11) #[[],[0],[0,1],[0,1,2],(rg' 0 4),[],[5],[5,6],[5,6,7],(rg' 5 4),(rg' 0 10)] [0,5] (rg' 1 4) mixed rfl rfl rfl (PanOk.thn (PanOk.thn PanOk.body)) fun I0 hS h0 hh0 w0 sH dd pk=>?_
 refine t' (pt' b6) 0 rfl sH (fa' b6 0 0) ?_
 refine r' 1 rfl sH (ld' b6 0 1) ?_
 refine t' (pt' b0_) 2 rfl sH nc' ?_
 refine t' (pa' b0_ 3) 3 rfl sH (fa' b0_ 0 3) ?_
 refine r' 4 rfl sH (ld' b0_ 3 0) ?_
 refine t' (pt' b6) 5 rfl sH (fa' b6 0 0) ?_
 refine r' 6 rfl sH (ld' b6 0 1) ?_
 refine t' (pt' b0_) 7 rfl sH nc' ?_
 refine t' (pa' b0_ 16) 8 rfl sH (fa' b0_ 0 16) ?_
 refine r' 9 rfl sH (ld' b0_ 16 0) ?_
 refine t' (.bool (decide (p0.f1 ≥ p0.f5))) 10 rfl sH (V_geq rfl rfl) ?_
 refine DH_open dd sH ?_
 refine DN_done (by kernel_rfl) ?_
 refine at_normal ?_
 obtain⟨t1874,H,Bt1874⟩:=g_bind H
 refine SA_mid (fun e ds As=>St [(1,il' a1),(2,il' a2),(3,pt' b6),(6,il' t1874),(7,il' t1210)] [Blk b0_ 34 (c34' p0 A0_0 c0_0 A0_1 c0_1 A0_2 c0_2 A0_3 c0_3),Buf k55 55 A0_0 c0_0 p0.f0.f2,bl' 3 A0_1 c0_1 p0.f7,Buf k55 55 A0_2 c0_2 p0.f16.f2,bw' 21 A0_3 c0_3 p0.f17,Blk b6 84 [pt' b0_]] e ds As) ?_ ?_
 ·by_cases h1875 : p0.f1 ≥ p0.f5
  ·replace H:=g_ift h1875 H
   refine SA_condT rfl h1875 ?_
   refine SA_region ?_
   refine s' (pt' b6) (fa' b6 0 0) ?_
   refine l' (ld' b6 0 1) ?_
   refine s' (pt' b0_) nc' ?_
   refine s' (pa' b0_ 16) (fa' b0_ 0 16) ?_
   refine l' (ld' b0_ 16 0) ?_
   refine s' (il' p0.f5) as' ?_
   refine RA_nil ?_
   have h_:=oi' H;subst h_
   exact sm' [0,2,3,4,5,1]
  replace H:=g_iff h1875 H
  refine SA_condF rfl h1875 ?_
  refine SA_skip ?_
  have h_:=oi' H;subst h_
  exact sm' [0,2,3,4,5,1]
 rintro e ds As hst1876
 clear H
 have H:=Bt1874
 clear Bt1874
 refine at_normal ?_
 refine SA.of_St hst1876 fun junk=>?_
 refine SA_seq ?_
 refine SA_drawHq (0::1::2::3::4::5::6::7::9::10::11::13::14::[]) (List.toArray ([]::[0]::[]::[2]::[2,3]::[2,3,4]::(rg' 2 4)::[]::[7]::(rg' 2 6)::[]::[]::[2,3,4,5,6,7,9,10,11]::[0,1,2,3,4,5,6,7,9,10,11]::[0,1,2,3,4,5,6,7,9,10,11,13]::(0::1::2::3::4::5::6::7::9::10::11::13::14::[])::[])) [0,5] (rg' 1 4) mixed rfl rfl rfl (PanOk.thn PanOk.body) fun I0 hS h0 hh0 w0 sH dd pk=>?_
 refine t' (pt' b6) 0 rfl sH (fa' b6 0 0) ?_
 refine r' 1 rfl sH (ld' b6 0 1) ?_
 refine t' (pt' b6) 2 rfl sH (fa' b6 0 0) ?_
 refine r' 3 rfl sH (ld' b6 0 1) ?_
 refine t' (pt' b0_) 4 rfl sH nc' ?_
 refine t' (pa' b0_ 3) 5 rfl sH (fa' b0_ 0 3) ?_
 refine r' 6 rfl sH (ld' b0_ 3 0) ?_
 refine t' (il' a1) 7 rfl sH mv' ?_
 refine t' (il' t1874) 10 rfl sH mv' ?_
 refine t' (il' t1210) 11 rfl sH mv' ?_
 obtain⟨r2357,C2358,H⟩:=g_bind H
 refine DH_one 8 dd (by kernel_rfl) rfl (.no rfl) (ca' [] [0,1,2,3] (xf' [il' a1]) (F128.ok (a0:=a1) C2358) ?_)
 rintro _ _⟨rfl,rfl⟩
 refine t' (il' (IntKind.i64.wrap (p0.f1 + r2357))) 9 rfl sH (V_add rfl rfl) ?_
 obtain⟨r2597,C2598,H⟩:=g_bind H
 refine DH_one 12 dd (by kernel_rfl) rfl (.no rfl) (ca' [] [0,1,2,3] (xf' [il' (IntKind.i64.wrap (p0.f1 + r2357)),il' t1874,il' t1210]) (F127.ok (a0:=IntKind.i64.wrap (p0.f1 + r2357)) (a1:=t1874) (a2:=t1210) C2598) ?_)
 rintro _ _⟨rfl,rfl⟩
 refine t' (pt' b0_) 13 rfl sH nc' ?_
 refine t' (pa' b0_ 3) 14 rfl sH (fa' b0_ 0 3) ?_
 refine DH_open dd sH ?_
 refine DN_one 15 (by kernel_rfl) rfl rfl (.no rfl) (st' b0_ 3 0 [il' r2597] (c34' ({ p0 with f1:=r2597 }) A0_0 c0_0 A0_1 c0_1 A0_2 c0_2 A0_3 c0_3) ?_)
 refine DN_done (by kernel_rfl) ?_
 refine at_normal (SA_seq ?_)
 refine fc' 2 fun hc2838=>?_
 refine fc' 3 fun hc2839=>?_
 refine fc' 4 fun hc2840=>?_
 refine fc' 5 fun hc2841=>?_
 refine SA_drawMq [0,1,2,3,4,5,6,7,9,10,13,14] (List.toArray ([]::[0]::[]::[2]::[2,3]::[2,3,4]::(rg' 2 4)::[]::[7]::(rg' 2 6)::[]::[7,10]::[2,3,4,5,6,7,9,10]::[0,1,2,3,4,5,6,7,9,10]::[0,1,2,3,4,5,6,7,9,10,13]::[0,1,2,3,4,5,6,7,9,10,13,14]::[])) [Blk b0_ 34 (c34' ({ p0 with f1:=r2597 }) A0_0 c0_0 A0_1 c0_1 A0_2 c0_2 A0_3 c0_3),Blk b6 84 [pt' b0_]] mixed (PanOk.thn PanOk.body) fun I0 hh0 w0 pk=>?_
 refine mt' (pt' b6) 0 [0,1] rfl (fa' b6 0 0) ?_
 refine mr' 1 [0,1] rfl (ld' b6 0 1) ?_
 refine mt' (pt' b6) 2 [0,1] rfl (fa' b6 0 0) ?_
 refine mr' 3 [0,1] rfl (ld' b6 0 1) ?_
 refine mt' (pt' b0_) 4 [0,1] rfl nc' ?_
 refine mt' (pa' b0_ 4) 5 [0,1] rfl (fa' b0_ 0 4) ?_
 refine mr' 6 [0,1] rfl (ld' b0_ 4 0) ?_
 refine mt' (il' a2) 7 [0,1] rfl mv' ?_
 refine mr' 10 [0,1] rfl (lA' b6 0 1 [pt' b0_]) ?_
 obtain⟨r3322,C3323,H⟩:=g_bind H
 refine DM_one 8 (by kernel_rfl) rfl (.no rfl) (ca' [] [0,1,2,3,4,5] (xf' [il' a2]) (F128.ok (a0:=a2) C3323) ?_)
 rintro _ _⟨rfl,rfl⟩
 refine ⟨fun _=>⟨[0,1],rfl,rfl⟩,?_⟩
 refine mt' (il' (IntKind.i64.wrap (p0.f2 + r3322))) 9 [0,1] rfl (V_add rfl rfl) ?_
 obtain⟨r3502,C3503,H⟩:=g_bind H
 refine DM_one 11 (by kernel_rfl) rfl (.no rfl) (ca' [0,2,3,4,5] [1] (xf' [.agg #[pt' b0_]]) (F120Lb_0_.ok (b0_:=b0_) (p0:=({ p0 with f1:=r2597 })) C3503) ?_)
 rintro _ _⟨rfl,rfl⟩
 refine ⟨fun _=>⟨[0,5],rfl,rfl⟩,?_⟩
 obtain⟨r3562,C3563,H⟩:=g_bind H
 refine DM_one 12 (by kernel_rfl) rfl (.no rfl) (ca' [] [0,1,2,3,4,5] (xf' [il' (IntKind.i64.wrap (p0.f2 + r3322)),il' 0,il' r3502]) (F127.ok (a0:=IntKind.i64.wrap (p0.f2 + r3322)) (a1:=0) (a2:=r3502) C3563) ?_)
 rintro _ _⟨rfl,rfl⟩
 refine ⟨fun _=>⟨[0,5],rfl,rfl⟩,?_⟩
 refine mt' (pt' b0_) 13 [0,5] rfl nc' ?_
 refine mt' (pa' b0_ 4) 14 [0,5] rfl (fa' b0_ 0 4) ?_
 refine DM_one 15 (by kernel_rfl) rfl (.no rfl) (st' b0_ 4 0 [il' r3562] (c34' ({ p0 with f1:=r2597,f2:=r3562 }) A0_0 c0_0 A0_1 c0_1 A0_2 c0_2 A0_3 c0_3) ?_)
 refine ⟨fun h_=>absurd h_ (by decide),?_⟩
 refine DN_done (by kernel_rfl) ?_
 refine at_normal ?_
 refine SA.of_St (l:=[(3,pt' b6)]) (B:=[Blk b0_ 34 (c34' ({ p0 with f1:=r2597,f2:=r3562 }) A0_0 c0_0 A0_1 c0_1 A0_2 c0_2 A0_3 c0_3),Buf k55 55 A0_0 c0_0 p0.f0.f2,bl' 3 A0_1 c0_1 p0.f7,Buf k55 55 A0_2 c0_2 p0.f16.f2,bw' 21 A0_3 c0_3 p0.f17,Blk b6 84 [pt' b0_]]) (St.mk1 (aeq rfl aeq0) (Gh.sel [0,1,2,3,4,5] (by kernel_rfl) (by kernel_rfl))) fun junk=>?_
 refine SA_region ?_
 refine s' (pt' b6) (fa' b6 0 0) ?_
 refine l' (ld' b6 0 5) ?_
 refine s' (pt' b0_) nc' ?_
 refine s' (pa' b0_ 5) (fa' b0_ 0 5) ?_
 refine o' (st' b0_ 5 0 [.bool false] (c34' ({ p0 with f1:=r2597,f2:=r3562,f3:=false }) A0_0 c0_0 A0_1 c0_1 A0_2 c0_2 A0_3 c0_3) ?_)
 refine RA_nil ?_
 have h_:=oi' H;subst h_
 exact bn' [0,1,2,3,4] ⟨A0_0,c0_0,A0_1,c0_1,A0_2,c0_2,A0_3,c0_3,rfl,rfl⟩


def F76Lb_0_.f (p0 : S34) (p1 : Int) (p2 : Int) : Option (S34):=(F77Lb_0_.f p0 p1 p2).bind (fun r14=>some (r14))
theorem F76Lb_0_.ok {p0 : S34} {p1 : Int} {p2 : Int} {r : S34} (H : F76Lb_0_.f p0 p1 p2 = some r) : SCA Tryz.prog 76 #[.agg #[.pointer (some ⟨b0_,0,none⟩)],.pointer (some ⟨b1_,0,none⟩),.pointer (some ⟨b2_,0,none⟩)] [Blk b0_ 34 (c34' p0 A0_0 c0_0 A0_1 c0_1 A0_2 c0_2 A0_3 c0_3),Buf k55 55 A0_0 c0_0 p0.f0.f2,bl' 3 A0_1 c0_1 p0.f7,Buf k55 55 A0_2 c0_2 p0.f16.f2,bw' 21 A0_3 c0_3 p0.f17,Blk b1_ 3 [il' p1],Blk b2_ 3 [il' p2]] (fun v B=>∃ P0_0_ q0_0_ P0_1_ q0_1_ P0_2_ q0_2_ P0_3_ q0_3_,v = .tuple #[]∧B = [Blk b0_ 34 (c34' r P0_0_ q0_0_ P0_1_ q0_1_ P0_2_ q0_2_ P0_3_ q0_3_),Buf k55 55 P0_0_ q0_0_ r.f0.f2,bl' 3 P0_1_ q0_1_ r.f7,Buf k55 55 P0_2_ q0_2_ r.f16.f2,bw' 21 P0_3_ q0_3_ r.f17,Blk b1_ 3 [il' p1],Blk b2_ 3 [il' p2]]):=by
 refine SCA_of_body Tryz.func76 rfl rfl ?_
 unfold F76Lb_0_.f at H
 refine qr' ?_
 refine o' (bx' fun b8=>?_)
 refine na' ?_
 refine fc' 1 fun hc10=>?_
 refine fc' 2 fun hc11=>?_
 refine fc' 3 fun hc12=>?_
 refine fc' 4 fun hc13=>?_
 refine SA_region ?_
 refine l' (lA' b8 0 7 [pt' b0_]) ?_
 refine l' (ld' b1_ 0 5) ?_
 refine l' (ld' b2_ 0 6) ?_
 obtain⟨r14,C27,H⟩:=g_bind H
 refine o' (ca' [0,1,2,3,4] [5,6,7] (xf' [.agg #[pt' b0_],il' p1,il' p2]) (F77Lb_0_.ok (b0_:=b0_) (p0:=p0) (a1:=p1) (a2:=p2) C27) ?_)
 rintro _ _⟨A15,c16,A18,c19,A21,c22,A24,c25,rfl,rfl⟩
 refine RA_nil ?_
 have h_:=oi' H;subst h_
 exact bn' [0,1,2,3,4,5,6] ⟨A15,c16,A18,c19,A21,c22,A24,c25,rfl,rfl⟩


def F62f76xx_1_.f (k : Nat) (a0 : S34) (p2000 : Int) (p2001 : Int) : Option (S34 × Int):=(F16b0.f k a0).bind (fun r11=>if (!r11) = true then (some (((S34.mk (S26.mk 0 0 ([] : (List S55))) 0 0 false (S28.mk 0 0 false false false false false false false false) 0 0 ([] : (List Int)) false false false false false false (S31.mk 0 0 false false (S28.mk 0 0 false false false false false false false false)) false (S26.mk 0 0 ([] : (List S55))) ([] : (List Int))),2))) else ((F97.f a0).bind (fun r17=>(F76Lb_0_.f r17 p2000 p2001).bind (fun r30=>some ((r30,0))))))
theorem F62f76xx_1_.ok {a0 : S34} {p2000 : Int} {p2001 : Int} {r : S34 × Int} (H : F62f76xx_1_.f k a0 p2000 p2001 = some r) : SCA Tryz.prog 62 #[.agg (c34' a0 A0_0 c0_0 A0_1 c0_1 A0_2 c0_2 A0_3 c0_3).toArray,.func (.func 76) #[] #[.pointer (some ⟨b2000_,0,none⟩),.pointer (some ⟨b2001_,0,none⟩)]] [Ro k55 A0_0 c0_0 a0.f0.f2,rl' A0_1 c0_1 a0.f7,Ro k55 A0_2 c0_2 a0.f16.f2,rw' A0_3 c0_3 a0.f17,Blk b2000_ 3 [il' p2000],Blk b2001_ 3 [il' p2001]] (fun v B=>∃ A0_0_ c0_0_ A0_1_ c0_1_ A0_2_ c0_2_ A0_3_ c0_3_,v = .tuple #[.agg (c34' r.1 A0_0_ c0_0_ A0_1_ c0_1_ A0_2_ c0_2_ A0_3_ c0_3_).toArray,il' r.2]∧B = [Buf k55 55 A0_0_ c0_0_ r.1.f0.f2,bl' 3 A0_1_ c0_1_ r.1.f7,Buf k55 55 A0_2_ c0_2_ r.1.f16.f2,bw' 21 A0_3_ c0_3_ r.1.f17,Blk b2000_ 3 [il' p2000],Blk b2001_ 3 [il' p2001]]):=by
 refine SCA_of_body Tryz.func62 rfl rfl ?_
 unfold F62f76xx_1_.f at H
 refine qr' ?_
 refine o' (bx' fun b7=>?_)
 refine o' (al' fun b9=>?_)
 refine s' (il' 0) as' ?_
 refine nq' ?_
 refine l' (lA' b7 0 6 (c34' a0 A0_0 c0_0 A0_1 c0_1 A0_2 c0_2 A0_3 c0_3)) ?_
 obtain⟨r11,C45,H⟩:=g_bind H
 refine o' (ca' [0,1,2,3] [0,1,2,3,4,5,6,7] (xf' [.agg (c34' a0 A0_0 c0_0 A0_1 c0_1 A0_2 c0_2 A0_3 c0_3).toArray]) (F16.ok (a0:=a0) C45) ?_)
 rintro _ _⟨rfl,rfl⟩
 refine s' (.bool (!r11)) (V_not rfl) ?_
 refine na' ?_
 by_cases h12 : (!r11) = true
 ·replace H:=g_ift h12 H
  refine SA_condTb rfl h12 ?_
  refine qr' ?_
  refine s' (.agg (c34' z34' none 0 none 0 none 0 none 0).toArray) bd' ?_
  refine o' (su' b9 0 7 (c34' z34' none 0 none 0 none 0 none 0) ?_)
  refine s' (il' 2) as' ?_
  refine ntt' ?_
  have h_:=oi' H;subst h_
  exact BQ_RL (rs:=[.cell 4 34,.tmp 5]) (vs:=[.agg (c34' z34' none 0 none 0 none 0 none 0).toArray,il' 2]) [Buf k55 55 none 0 ([] : (List S55)),bl' 3 none 0 ([] : (List Int)),Buf k55 55 none 0 ([] : (List S55)),bw' 21 none 0 ([] : (List Int)),Blk b2000_ 3 [il' p2000],Blk b2001_ 3 [il' p2001]] rfl ⟨RV.cell (k:=7) rfl rfl Tryz.underlying34 rfl sz34,RV.tmp rfl,trivial⟩ rfl ((Gh.nilBuf k55 55).trans ((Gh.nilBuf (Kd.int .i64) 3).trans ((Gh.nilBuf k55 55).trans ((Gh.nilBuf (Kd.int .i32) 21).trans (gs' [8,9,10,11,4,5]))))) ⟨none,0,none,0,none,0,none,0,rfl,rfl⟩
 replace H:=g_iff h12 H
 refine SA_condFb rfl h12 ?_
 refine SA_skip (at_normal (qr' ?_))
 refine l' (lA' b7 0 6 (c34' a0 A0_0 c0_0 A0_1 c0_1 A0_2 c0_2 A0_3 c0_3)) ?_
 obtain⟨r17,C44,H⟩:=g_bind H
 refine o' (ca' [0,1,2,3] [0,1,2,3,4,5,6,7] (xf' [.agg (c34' a0 A0_0 c0_0 A0_1 c0_1 A0_2 c0_2 A0_3 c0_3).toArray]) (F97.ok (a0:=a0) C44) ?_)
 rintro _ _⟨A18,c19,A21,c22,A24,c25,A27,c28,rfl,rfl⟩
 refine o' (su' b7 0 10 (c34' r17 A18 c19 A21 c22 A24 c25 A27 c28) ?_)
 refine nr' ?_
 refine s' (.func (.func 76) #[] #[pt' b2000_,pt' b2001_]) mv' ?_
 refine s' (.agg #[pt' b7]) bd' ?_
 obtain⟨r30,C43,H⟩:=g_bind H
 refine o' (ca' [10,0,1,2,3,8,9] [4,5,6,7,11] (X_fnV (vs:=[.agg #[pt' b7]]) (cap:=[pt' b2000_,pt' b2001_]) rfl Tryz.func76 nm76 rfl rfl) (F76Lb_0_.ok (b0_:=b7) (p0:=r17) (b1_:=b2000_) (p1:=p2000) (b2_:=b2001_) (p2:=p2001) C43) ?_)
 rintro _ _⟨A31,c32,A34,c35,A37,c38,A40,c41,rfl,rfl⟩
 refine nr' ?_
 refine l' (lA' b7 0 0 (c34' r30 A31 c32 A34 c35 A37 c38 A40 c41)) ?_
 refine o' (su' b9 0 11 (c34' r30 A31 c32 A34 c35 A37 c38 A40 c41) ?_)
 refine s' (il' 0) as' ?_
 refine nt' ?_
 have h_:=oi' H;subst h_
 exact b2' [.cell 4 34,.tmp 5] [1,2,3,4,5,6] ⟨A31,c32,A34,c35,A37,c38,A40,c41,rfl,rfl⟩ ⟨RV.cell (k:=11) rfl rfl Tryz.underlying34 rfl sz34,RV.tmp rfl,trivial⟩


def F29.f (k : Nat) (a0 : S34) (a1 : Int) (a2 : Int) : Option (S34 × Int):=(F62f76xx_1_.f k a0 a1 a2).bind (fun r13=>some ((r13.1,r13.2)))
theorem F29.ok {a0 : S34} {a1 : Int} {a2 : Int} {r : S34 × Int} (H : F29.f k a0 a1 a2 = some r) : SCA Tryz.prog 29 #[.agg (c34' a0 A0_0 c0_0 A0_1 c0_1 A0_2 c0_2 A0_3 c0_3).toArray,il' a1,il' a2] [Ro k55 A0_0 c0_0 a0.f0.f2,rl' A0_1 c0_1 a0.f7,Ro k55 A0_2 c0_2 a0.f16.f2,rw' A0_3 c0_3 a0.f17] (fun v B=>∃ A0_0_ c0_0_ A0_1_ c0_1_ A0_2_ c0_2_ A0_3_ c0_3_,v = .tuple #[.agg (c34' r.1 A0_0_ c0_0_ A0_1_ c0_1_ A0_2_ c0_2_ A0_3_ c0_3_).toArray,il' r.2]∧B = [Buf k55 55 A0_0_ c0_0_ r.1.f0.f2,bl' 3 A0_1_ c0_1_ r.1.f7,Buf k55 55 A0_2_ c0_2_ r.1.f16.f2,bw' 21 A0_3_ c0_3_ r.1.f17]):=by
 refine SCA_of_body Tryz.func29 rfl rfl ?_
 unfold F29.f at H
 refine qr' ?_
 refine o' (bx' fun b5=>?_)
 refine o' (bx' fun b7=>?_)
 refine o' (bx' fun b9=>?_)
 refine o' (al' fun b11=>?_)
 refine s' (il' 0) as' ?_
 refine nr' ?_
 refine l' (lA' b5 0 4 (c34' a0 A0_0 c0_0 A0_1 c0_1 A0_2 c0_2 A0_3 c0_3)) ?_
 refine s' (.func (.func 76) #[] #[pt' b7,pt' b9]) (V_makeFuncL (us:=[pt' b7,pt' b9]) rfl) ?_
 obtain⟨r13,C26,H⟩:=g_bind H
 refine o' (ca' [0,1,2,3,5,6] [0,1,2,3,4,7] (xf' [.agg (c34' a0 A0_0 c0_0 A0_1 c0_1 A0_2 c0_2 A0_3 c0_3).toArray,.func (.func 76) #[] #[pt' b7,pt' b9]]) (F62f76xx_1_.ok (a0:=a0) (b2000_:=b7) (p2000:=a1) (b2001_:=b9) (p2001:=a2) C26) ?_)
 rintro _ _⟨A14,c15,A17,c18,A20,c21,A23,c24,rfl,rfl⟩
 refine s' (.agg (c34' r13.1 A14 c15 A17 c18 A20 c21 A23 c24).toArray) ex' ?_
 refine s' (il' r13.2) ex' ?_
 refine o' (su' b11 0 11 (c34' r13.1 A14 c15 A17 c18 A20 c21 A23 c24) ?_)
 refine s' (il' r13.2) as' ?_
 refine nt' ?_
 have h_:=oi' H;subst h_
 exact b2' [.cell 6 34,.tmp 7] [0,1,2,3] ⟨A14,c15,A17,c18,A20,c21,A23,c24,rfl,rfl⟩ ⟨RV.cell (k:=11) rfl rfl Tryz.underlying34 rfl sz34,RV.tmp rfl,trivial⟩


def F79Lb_0_.f (p0 : S34) (a1 : Int) (a2 : Int) : Option (S34):=lt (IntKind.i64.wrap (p0.f0.f1 - 1)) fun n488=>(if p0.f9 = true then (some (p0.f5,p0.f6)) else (some (0,n488)) : Option (Int × Int)).bind (fun t549=>(F128.f a1).bind (fun r1513=>(F127.f (IntKind.i64.wrap (t549.1 + r1513)) t549.1 t549.2).bind (fun r1753=>(F120Lb_0_.f ({ p0 with f1:=r1753 })).bind (fun r2238=>(F127.f a2 0 r2238).bind (fun r2298=>some (({ p0 with f1:=r1753,f2:=r2298,f3:=false })))))))
theorem F79Lb_0_.ok {p0 : S34} {a1 : Int} {a2 : Int} {r : S34} (H : F79Lb_0_.f p0 a1 a2 = some r) : SCA Tryz.prog 79 #[.agg #[.pointer (some ⟨b0_,0,none⟩)],il' a1,il' a2] [Blk b0_ 34 (c34' p0 A0_0 c0_0 A0_1 c0_1 A0_2 c0_2 A0_3 c0_3),Buf k55 55 A0_0 c0_0 p0.f0.f2,bl' 3 A0_1 c0_1 p0.f7,Buf k55 55 A0_2 c0_2 p0.f16.f2,bw' 21 A0_3 c0_3 p0.f17] (fun v B=>∃ P0_0_ q0_0_ P0_1_ q0_1_ P0_2_ q0_2_ P0_3_ q0_3_,v = .tuple #[]∧B = [Blk b0_ 34 (c34' r P0_0_ q0_0_ P0_1_ q0_1_ P0_2_ q0_2_ P0_3_ q0_3_),Buf k55 55 P0_0_ q0_0_ r.f0.f2,bl' 3 P0_1_ q0_1_ r.f7,Buf k55 55 P0_2_ q0_2_ r.f16.f2,bw' 21 P0_3_ q0_3_ r.f17]):=by
 refine SCA_of_body Tryz.func79 rfl rfl ?_
 unfold F79Lb_0_.f at H
 refine qr' ?_
 refine o' (bx' fun b6=>?_)
 refine na' (SA_seq ?_)
 refine SA_drawHq (rg' 0 9) #[[],[0],[0,1],[0,1,2],(rg' 0 4),(rg' 0 5),(rg' 0 6),[],(rg' 0 8)] [0,5] (rg' 1 4) mixed rfl rfl rfl (PanOk.thn PanOk.body) fun I0 hS h0 hh0 w0 sH dd pk=>?_
 refine t' (pt' b6) 0 rfl sH (fa' b6 0 0) ?_
 refine r' 1 rfl sH (ld' b6 0 1) ?_
 refine t' (pt' b0_) 2 rfl sH nc' ?_
 refine t' (pt' b0_) 3 rfl sH (fa' b0_ 0 0) ?_
 refine t' (pa' b0_ 1) 4 rfl sH (fa' b0_ 0 1) ?_
 refine r' 5 rfl sH (ld' b0_ 1 0) ?_
 refine t' (il' (IntKind.i64.wrap (p0.f0.f1 - 1))) 6 rfl sH (V_sub rfl rfl) ?_
 refine t' (il' 0) 7 rfl sH as' ?_
 obtain⟨n488,hn488,H⟩:=g_lt H
 refine t' (il' n488) 8 rfl sH (V_assign (v:=il' n488) (congrArg (Value.int .i64) hn488.symm)) ?_
 refine DH_open dd sH ?_
 refine DN_done (by kernel_rfl) ?_
 refine at_normal (SA_seq (qr' ?_))
 refine s' (pt' b6) (fa' b6 0 0) ?_
 refine l' (ld' b6 0 1) ?_
 refine s' (pt' b0_) nc' ?_
 refine s' (pa' b0_ 20) (fa' b0_ 0 20) ?_
 refine l' (ld' b0_ 20 0) ?_
 refine na' ?_
 obtain⟨t549,H,Bt549⟩:=g_bind H
 refine SA_mid (fun e ds As=>St [(1,il' a1),(2,il' a2),(3,pt' b6),(6,il' t549.1),(7,il' t549.2)] [Blk b0_ 34 (c34' p0 A0_0 c0_0 A0_1 c0_1 A0_2 c0_2 A0_3 c0_3),Buf k55 55 A0_0 c0_0 p0.f0.f2,bl' 3 A0_1 c0_1 p0.f7,Buf k55 55 A0_2 c0_2 p0.f16.f2,bw' 21 A0_3 c0_3 p0.f17,Blk b6 84 [pt' b0_]] e ds As) ?_ ?_
 ·by_cases h550 : p0.f9 = true
  ·replace H:=g_ift h550 H
   refine SA_condTb rfl h550 ?_
   refine SA_drawHq (rg' 0 12) #[[],[0],[0,1],[0,1,2],(rg' 0 4),[],[5],[5,6],[5,6,7],(rg' 5 4),(rg' 0 5),(rg' 0 11)] [0,1] (rg' 2 4) mixed rfl rfl rfl (PanOk.thn (PanOk.thn PanOk.body)) fun I0 hS h0 hh0 w0 sH dd pk=>?_
   refine t' (pt' b6) 0 rfl sH (fa' b6 0 0) ?_
   refine r' 1 rfl sH (ld' b6 0 1) ?_
   refine t' (pt' b0_) 2 rfl sH nc' ?_
   refine t' (pa' b0_ 16) 3 rfl sH (fa' b0_ 0 16) ?_
   refine r' 4 rfl sH (ld' b0_ 16 0) ?_
   refine t' (pt' b6) 5 rfl sH (fa' b6 0 0) ?_
   refine r' 6 rfl sH (ld' b6 0 1) ?_
   refine t' (pt' b0_) 7 rfl sH nc' ?_
   refine t' (pa' b0_ 17) 8 rfl sH (fa' b0_ 0 17) ?_
   refine r' 9 rfl sH (ld' b0_ 17 0) ?_
   refine t' (il' p0.f5) 10 rfl sH as' ?_
   refine t' (il' p0.f6) 11 rfl sH as' ?_
   refine DH_open dd sH ?_
   refine DN_done (by kernel_rfl) ?_
   have h_:=oi' H;subst h_
   exact sm' [0,2,3,4,5,1]
  replace H:=g_iff h550 H
  refine SA_condFb rfl h550 ?_
  refine SA_skip ?_
  have h_:=oi' H;subst h_
  exact sm' [0,2,3,4,5,1]
 rintro e ds As hst1272
 clear H
 have H:=Bt549
 clear Bt549
 refine at_normal ?_
 refine SA.of_St hst1272 fun junk=>?_
 refine SA_seq ?_
 refine SA_drawHq [0,1,2,3,5,6,7,9,10] #[[],[0],[],[],[3],[2,3],[],[],[2,3,5,6,7],[0,1,2,3,5,6,7],[0,1,2,3,5,6,7,9],[0,1,2,3,5,6,7,9,10]] [5] (rg' 0 5) mixed rfl rfl rfl (PanOk.thn PanOk.body) fun I0 hS h0 hh0 w0 sH dd pk=>?_
 refine t' (pt' b6) 0 rfl sH (fa' b6 0 0) ?_
 refine r' 1 rfl sH (ld' b6 0 0) ?_
 refine t' (il' t549.1) 2 rfl sH mv' ?_
 refine t' (il' a1) 3 rfl sH mv' ?_
 refine t' (il' t549.1) 6 rfl sH mv' ?_
 refine t' (il' t549.2) 7 rfl sH mv' ?_
 obtain⟨r1513,C1514,H⟩:=g_bind H
 refine DH_one 4 dd (by kernel_rfl) rfl (.no rfl) (ca' [] [0,1,2,3,4] (xf' [il' a1]) (F128.ok (a0:=a1) C1514) ?_)
 rintro _ _⟨rfl,rfl⟩
 refine t' (il' (IntKind.i64.wrap (t549.1 + r1513))) 5 rfl sH (V_add rfl rfl) ?_
 obtain⟨r1753,C1754,H⟩:=g_bind H
 refine DH_one 8 dd (by kernel_rfl) rfl (.no rfl) (ca' [] [0,1,2,3,4] (xf' [il' (IntKind.i64.wrap (t549.1 + r1513)),il' t549.1,il' t549.2]) (F127.ok (a0:=IntKind.i64.wrap (t549.1 + r1513)) (a1:=t549.1) (a2:=t549.2) C1754) ?_)
 rintro _ _⟨rfl,rfl⟩
 refine t' (pt' b0_) 9 rfl sH nc' ?_
 refine t' (pa' b0_ 3) 10 rfl sH (fa' b0_ 0 3) ?_
 refine DH_one 11 dd (by kernel_rfl) rfl (.no rfl) (st' b0_ 3 0 [il' r1753] (c34' ({ p0 with f1:=r1753 }) A0_0 c0_0 A0_1 c0_1 A0_2 c0_2 A0_3 c0_3) ?_)
 refine DH_open dd sH ?_
 refine DN_done (by kernel_rfl) ?_
 refine at_normal (SA_seq ?_)
 refine fc' 2 fun hc1994=>?_
 refine fc' 3 fun hc1995=>?_
 refine fc' 4 fun hc1996=>?_
 refine fc' 5 fun hc1997=>?_
 refine SA_drawHq [0,1,2,3,6,7] #[[],[0],[],[],[3],[2,3],(rg' 0 4),[0,1,2,3,6],[0,1,2,3,6,7]] [0] (rg' 1 5) mixed rfl rfl rfl (PanOk.thn PanOk.body) fun I0 hS h0 hh0 w0 sH dd pk=>?_
 refine t' (pt' b6) 0 rfl sH (fa' b6 0 0) ?_
 refine r' 1 rfl sH (ld' b6 0 0) ?_
 refine t' (il' a2) 2 rfl sH mv' ?_
 refine r' 3 rfl sH (lA' b6 0 0 [pt' b0_]) ?_
 obtain⟨r2238,C2239,H⟩:=g_bind H
 refine DH_one 4 dd (by kernel_rfl) rfl (.no rfl) (ca' [0,1,2,3,4] [] (xf' [.agg #[pt' b0_]]) (F120Lb_0_.ok (b0_:=b0_) (p0:=({ p0 with f1:=r1753 })) C2239) ?_)
 rintro _ _⟨rfl,rfl⟩
 obtain⟨r2298,C2299,H⟩:=g_bind H
 refine DH_one 5 dd (by kernel_rfl) rfl (.no rfl) (ca' [] [0,1,2,3,4] (xf' [il' a2,il' 0,il' r2238]) (F127.ok (a0:=a2) (a1:=0) (a2:=r2238) C2299) ?_)
 rintro _ _⟨rfl,rfl⟩
 refine t' (pt' b0_) 6 rfl sH nc' ?_
 refine t' (pa' b0_ 4) 7 rfl sH (fa' b0_ 0 4) ?_
 refine DH_one 8 dd (by kernel_rfl) rfl (.no rfl) (st' b0_ 4 0 [il' r2298] (c34' ({ p0 with f1:=r1753,f2:=r2298 }) A0_0 c0_0 A0_1 c0_1 A0_2 c0_2 A0_3 c0_3) ?_)
 refine DH_open dd sH ?_
 refine DN_done (by kernel_rfl) ?_
 refine at_normal (SA_region ?_)
 refine s' (pt' b6) (fa' b6 0 0) ?_
 refine l' (ld' b6 0 0) ?_
 refine s' (pt' b0_) nc' ?_
 refine s' (pa' b0_ 5) (fa' b0_ 0 5) ?_
 refine o' (st' b0_ 5 1 [.bool false] (c34' ({ p0 with f1:=r1753,f2:=r2298,f3:=false }) A0_0 c0_0 A0_1 c0_1 A0_2 c0_2 A0_3 c0_3) ?_)
 refine RA_nil ?_
 have h_:=oi' H;subst h_
 exact bn' [1,2,3,4,5] ⟨A0_0,c0_0,A0_1,c0_1,A0_2,c0_2,A0_3,c0_3,rfl,rfl⟩


def F78Lb_0_.f (p0 : S34) (p1 : Int) (p2 : Int) : Option (S34):=(F79Lb_0_.f p0 p1 p2).bind (fun r14=>some (r14))
theorem F78Lb_0_.ok {p0 : S34} {p1 : Int} {p2 : Int} {r : S34} (H : F78Lb_0_.f p0 p1 p2 = some r) : SCA Tryz.prog 78 #[.agg #[.pointer (some ⟨b0_,0,none⟩)],.pointer (some ⟨b1_,0,none⟩),.pointer (some ⟨b2_,0,none⟩)] [Blk b0_ 34 (c34' p0 A0_0 c0_0 A0_1 c0_1 A0_2 c0_2 A0_3 c0_3),Buf k55 55 A0_0 c0_0 p0.f0.f2,bl' 3 A0_1 c0_1 p0.f7,Buf k55 55 A0_2 c0_2 p0.f16.f2,bw' 21 A0_3 c0_3 p0.f17,Blk b1_ 3 [il' p1],Blk b2_ 3 [il' p2]] (fun v B=>∃ P0_0_ q0_0_ P0_1_ q0_1_ P0_2_ q0_2_ P0_3_ q0_3_,v = .tuple #[]∧B = [Blk b0_ 34 (c34' r P0_0_ q0_0_ P0_1_ q0_1_ P0_2_ q0_2_ P0_3_ q0_3_),Buf k55 55 P0_0_ q0_0_ r.f0.f2,bl' 3 P0_1_ q0_1_ r.f7,Buf k55 55 P0_2_ q0_2_ r.f16.f2,bw' 21 P0_3_ q0_3_ r.f17,Blk b1_ 3 [il' p1],Blk b2_ 3 [il' p2]]):=by
 refine SCA_of_body Tryz.func78 rfl rfl ?_
 unfold F78Lb_0_.f at H
 refine qr' ?_
 refine o' (bx' fun b8=>?_)
 refine na' ?_
 refine fc' 1 fun hc10=>?_
 refine fc' 2 fun hc11=>?_
 refine fc' 3 fun hc12=>?_
 refine fc' 4 fun hc13=>?_
 refine SA_region ?_
 refine l' (lA' b8 0 7 [pt' b0_]) ?_
 refine l' (ld' b1_ 0 5) ?_
 refine l' (ld' b2_ 0 6) ?_
 obtain⟨r14,C27,H⟩:=g_bind H
 refine o' (ca' [0,1,2,3,4] [5,6,7] (xf' [.agg #[pt' b0_],il' p1,il' p2]) (F79Lb_0_.ok (b0_:=b0_) (p0:=p0) (a1:=p1) (a2:=p2) C27) ?_)
 rintro _ _⟨A15,c16,A18,c19,A21,c22,A24,c25,rfl,rfl⟩
 refine RA_nil ?_
 have h_:=oi' H;subst h_
 exact bn' [0,1,2,3,4,5,6] ⟨A15,c16,A18,c19,A21,c22,A24,c25,rfl,rfl⟩


def F62f78xx_1_.f (k : Nat) (a0 : S34) (p2000 : Int) (p2001 : Int) : Option (S34 × Int):=(F16b0.f k a0).bind (fun r11=>if (!r11) = true then (some (((S34.mk (S26.mk 0 0 ([] : (List S55))) 0 0 false (S28.mk 0 0 false false false false false false false false) 0 0 ([] : (List Int)) false false false false false false (S31.mk 0 0 false false (S28.mk 0 0 false false false false false false false false)) false (S26.mk 0 0 ([] : (List S55))) ([] : (List Int))),2))) else ((F97.f a0).bind (fun r17=>(F78Lb_0_.f r17 p2000 p2001).bind (fun r30=>some ((r30,0))))))
theorem F62f78xx_1_.ok {a0 : S34} {p2000 : Int} {p2001 : Int} {r : S34 × Int} (H : F62f78xx_1_.f k a0 p2000 p2001 = some r) : SCA Tryz.prog 62 #[.agg (c34' a0 A0_0 c0_0 A0_1 c0_1 A0_2 c0_2 A0_3 c0_3).toArray,.func (.func 78) #[] #[.pointer (some ⟨b2000_,0,none⟩),.pointer (some ⟨b2001_,0,none⟩)]] [Ro k55 A0_0 c0_0 a0.f0.f2,rl' A0_1 c0_1 a0.f7,Ro k55 A0_2 c0_2 a0.f16.f2,rw' A0_3 c0_3 a0.f17,Blk b2000_ 3 [il' p2000],Blk b2001_ 3 [il' p2001]] (fun v B=>∃ A0_0_ c0_0_ A0_1_ c0_1_ A0_2_ c0_2_ A0_3_ c0_3_,v = .tuple #[.agg (c34' r.1 A0_0_ c0_0_ A0_1_ c0_1_ A0_2_ c0_2_ A0_3_ c0_3_).toArray,il' r.2]∧B = [Buf k55 55 A0_0_ c0_0_ r.1.f0.f2,bl' 3 A0_1_ c0_1_ r.1.f7,Buf k55 55 A0_2_ c0_2_ r.1.f16.f2,bw' 21 A0_3_ c0_3_ r.1.f17,Blk b2000_ 3 [il' p2000],Blk b2001_ 3 [il' p2001]]):=by
 refine SCA_of_body Tryz.func62 rfl rfl ?_
 unfold F62f78xx_1_.f at H
 refine qr' ?_
 refine o' (bx' fun b7=>?_)
 refine o' (al' fun b9=>?_)
 refine s' (il' 0) as' ?_
 refine nq' ?_
 refine l' (lA' b7 0 6 (c34' a0 A0_0 c0_0 A0_1 c0_1 A0_2 c0_2 A0_3 c0_3)) ?_
 obtain⟨r11,C45,H⟩:=g_bind H
 refine o' (ca' [0,1,2,3] [0,1,2,3,4,5,6,7] (xf' [.agg (c34' a0 A0_0 c0_0 A0_1 c0_1 A0_2 c0_2 A0_3 c0_3).toArray]) (F16.ok (a0:=a0) C45) ?_)
 rintro _ _⟨rfl,rfl⟩
 refine s' (.bool (!r11)) (V_not rfl) ?_
 refine na' ?_
 by_cases h12 : (!r11) = true
 ·replace H:=g_ift h12 H
  refine SA_condTb rfl h12 ?_
  refine qr' ?_
  refine s' (.agg (c34' z34' none 0 none 0 none 0 none 0).toArray) bd' ?_
  refine o' (su' b9 0 7 (c34' z34' none 0 none 0 none 0 none 0) ?_)
  refine s' (il' 2) as' ?_
  refine ntt' ?_
  have h_:=oi' H;subst h_
  exact BQ_RL (rs:=[.cell 4 34,.tmp 5]) (vs:=[.agg (c34' z34' none 0 none 0 none 0 none 0).toArray,il' 2]) [Buf k55 55 none 0 ([] : (List S55)),bl' 3 none 0 ([] : (List Int)),Buf k55 55 none 0 ([] : (List S55)),bw' 21 none 0 ([] : (List Int)),Blk b2000_ 3 [il' p2000],Blk b2001_ 3 [il' p2001]] rfl ⟨RV.cell (k:=7) rfl rfl Tryz.underlying34 rfl sz34,RV.tmp rfl,trivial⟩ rfl ((Gh.nilBuf k55 55).trans ((Gh.nilBuf (Kd.int .i64) 3).trans ((Gh.nilBuf k55 55).trans ((Gh.nilBuf (Kd.int .i32) 21).trans (gs' [8,9,10,11,4,5]))))) ⟨none,0,none,0,none,0,none,0,rfl,rfl⟩
 replace H:=g_iff h12 H
 refine SA_condFb rfl h12 ?_
 refine SA_skip (at_normal (qr' ?_))
 refine l' (lA' b7 0 6 (c34' a0 A0_0 c0_0 A0_1 c0_1 A0_2 c0_2 A0_3 c0_3)) ?_
 obtain⟨r17,C44,H⟩:=g_bind H
 refine o' (ca' [0,1,2,3] [0,1,2,3,4,5,6,7] (xf' [.agg (c34' a0 A0_0 c0_0 A0_1 c0_1 A0_2 c0_2 A0_3 c0_3).toArray]) (F97.ok (a0:=a0) C44) ?_)
 rintro _ _⟨A18,c19,A21,c22,A24,c25,A27,c28,rfl,rfl⟩
 refine o' (su' b7 0 10 (c34' r17 A18 c19 A21 c22 A24 c25 A27 c28) ?_)
 refine nr' ?_
 refine s' (.func (.func 78) #[] #[pt' b2000_,pt' b2001_]) mv' ?_
 refine s' (.agg #[pt' b7]) bd' ?_
 obtain⟨r30,C43,H⟩:=g_bind H
 refine o' (ca' [10,0,1,2,3,8,9] [4,5,6,7,11] (X_fnV (vs:=[.agg #[pt' b7]]) (cap:=[pt' b2000_,pt' b2001_]) rfl Tryz.func78 nm78 rfl rfl) (F78Lb_0_.ok (b0_:=b7) (p0:=r17) (b1_:=b2000_) (p1:=p2000) (b2_:=b2001_) (p2:=p2001) C43) ?_)
 rintro _ _⟨A31,c32,A34,c35,A37,c38,A40,c41,rfl,rfl⟩
 refine nr' ?_
 refine l' (lA' b7 0 0 (c34' r30 A31 c32 A34 c35 A37 c38 A40 c41)) ?_
 refine o' (su' b9 0 11 (c34' r30 A31 c32 A34 c35 A37 c38 A40 c41) ?_)
 refine s' (il' 0) as' ?_
 refine nt' ?_
 have h_:=oi' H;subst h_
 exact b2' [.cell 4 34,.tmp 5] [1,2,3,4,5,6] ⟨A31,c32,A34,c35,A37,c38,A40,c41,rfl,rfl⟩ ⟨RV.cell (k:=11) rfl rfl Tryz.underlying34 rfl sz34,RV.tmp rfl,trivial⟩


def F30.f (k : Nat) (a0 : S34) (a1 : Int) (a2 : Int) : Option (S34 × Int):=(F62f78xx_1_.f k a0 a1 a2).bind (fun r13=>some ((r13.1,r13.2)))
theorem F30.ok {a0 : S34} {a1 : Int} {a2 : Int} {r : S34 × Int} (H : F30.f k a0 a1 a2 = some r) : SCA Tryz.prog 30 #[.agg (c34' a0 A0_0 c0_0 A0_1 c0_1 A0_2 c0_2 A0_3 c0_3).toArray,il' a1,il' a2] [Ro k55 A0_0 c0_0 a0.f0.f2,rl' A0_1 c0_1 a0.f7,Ro k55 A0_2 c0_2 a0.f16.f2,rw' A0_3 c0_3 a0.f17] (fun v B=>∃ A0_0_ c0_0_ A0_1_ c0_1_ A0_2_ c0_2_ A0_3_ c0_3_,v = .tuple #[.agg (c34' r.1 A0_0_ c0_0_ A0_1_ c0_1_ A0_2_ c0_2_ A0_3_ c0_3_).toArray,il' r.2]∧B = [Buf k55 55 A0_0_ c0_0_ r.1.f0.f2,bl' 3 A0_1_ c0_1_ r.1.f7,Buf k55 55 A0_2_ c0_2_ r.1.f16.f2,bw' 21 A0_3_ c0_3_ r.1.f17]):=by
 refine SCA_of_body Tryz.func30 rfl rfl ?_
 unfold F30.f at H
 refine qr' ?_
 refine o' (bx' fun b5=>?_)
 refine o' (bx' fun b7=>?_)
 refine o' (bx' fun b9=>?_)
 refine o' (al' fun b11=>?_)
 refine s' (il' 0) as' ?_
 refine nr' ?_
 refine l' (lA' b5 0 4 (c34' a0 A0_0 c0_0 A0_1 c0_1 A0_2 c0_2 A0_3 c0_3)) ?_
 refine s' (.func (.func 78) #[] #[pt' b7,pt' b9]) (V_makeFuncL (us:=[pt' b7,pt' b9]) rfl) ?_
 obtain⟨r13,C26,H⟩:=g_bind H
 refine o' (ca' [0,1,2,3,5,6] [0,1,2,3,4,7] (xf' [.agg (c34' a0 A0_0 c0_0 A0_1 c0_1 A0_2 c0_2 A0_3 c0_3).toArray,.func (.func 78) #[] #[pt' b7,pt' b9]]) (F62f78xx_1_.ok (a0:=a0) (b2000_:=b7) (p2000:=a1) (b2001_:=b9) (p2001:=a2) C26) ?_)
 rintro _ _⟨A14,c15,A17,c18,A20,c21,A23,c24,rfl,rfl⟩
 refine s' (.agg (c34' r13.1 A14 c15 A17 c18 A20 c21 A23 c24).toArray) ex' ?_
 refine s' (il' r13.2) ex' ?_
 refine o' (su' b11 0 11 (c34' r13.1 A14 c15 A17 c18 A20 c21 A23 c24) ?_)
 refine s' (il' r13.2) as' ?_
 refine nt' ?_
 have h_:=oi' H;subst h_
 exact b2' [.cell 6 34,.tmp 7] [0,1,2,3] ⟨A14,c15,A17,c18,A20,c21,A23,c24,rfl,rfl⟩ ⟨RV.cell (k:=11) rfl rfl Tryz.underlying34 rfl sz34,RV.tmp rfl,trivial⟩


def F129w0.f (k : Nat) (l0 : (List S55)) (o0 : Int) (n0 : Int) (a1 : Int) (a2 : Int) (a3 : S28) : Option ((List S55)):=if 0 ≤ o0∧0 ≤ n0∧o0 + n0 ≤ (l0.length : Int) then (if 0 ≤ a1∧a1 ≤ a2∧a2 ≤ n0 then ((F116w0.f k l0 (o0 + a1) (a2 - a1) a3).bind (fun r305=>if r305.length = l0.length then ((F136w0.f k r305 o0 n0).bind (fun r366=>if r366.length = r305.length then (some (r366)) else none)) else none)) else none) else none
theorem F129w0.ok {l0 : (List S55)} {o0 : Int} {n0 : Int} {a1 : Int} {a2 : Int} {a3 : S28} {A0 V0 : Option Addr} {c0 v0 : Nat} (hw0 : Win A0 V0 15 o0 n0 v0) {r : (List S55)} (H : F129w0.f k l0 o0 n0 a1 a2 a3 = some r) : SCA Tryz.prog 129 #[.slice V0 n0.toNat v0,il' a1,il' a2,.agg (c28' a3).toArray] [Buf k55 55 A0 c0 l0] (fun v B=>v = .tuple #[]∧B = [Buf k55 55 A0 c0 r]):=by
 refine SCA_of_body Tryz.func129 rfl rfl ?_
 unfold F129w0.f at H
 obtain⟨⟨g369,g370,g371⟩,H⟩:=g_pos H
 have hcv_hw0:=hw0.cap
 refine qr' ?_
 refine o' (bx' fun b2=>?_)
 refine na' (SA_seq ?_)
 refine fc' 0 fun hc4=>?_
 refine SA_drawHq (rg' 0 5) #[[],[],[],[0,1,2],[],(rg' 0 5)] [1] [0] mixed rfl rfl rfl (PanOk.thn PanOk.body) fun I0 hS h0 hh0 w0 sH dd pk=>?_
 refine t' (.slice V0 n0.toNat v0) 0 rfl sH mv' ?_
 refine t' (il' a1) 1 rfl sH mv' ?_
 refine t' (il' a2) 2 rfl sH mv' ?_
 obtain⟨⟨g185,g186,g187⟩,H⟩:=g_pos H
 refine t' (.slice (slA V0 a1 ((v0 : Nat) : Int) 15) (a2 - a1).toNat (((v0 : Nat) : Int).toNat - a1.toNat)) 3 rfl sH (V_sliceW (l:=o0) (m:=n0) (a:=a1) (b:=a2) (q:=((v0 : Nat) : Int)) hw0 Tryz.underlying116 sz55 rfl rfl rfl rfl (.inr ⟨_,rfl⟩) (.inr ⟨_,rfl⟩) (.inl ⟨rfl,rfl⟩) g185 g186 g187) ?_
 have hW190 : Win A0 (slA V0 a1 ((v0 : Nat) : Int) 15) 15 (o0 + a1) (a2 - a1) (((v0 : Nat) : Int).toNat - a1.toNat):=Win.sub hw0 g185 g186 g187 (.inl rfl) (Int.le_refl _)
 refine r' 4 rfl sH (lA' b2 0 0 (c28' a3)) ?_
 obtain⟨r305,C307,H⟩:=g_bind H
 obtain⟨hl306,H⟩:=g_pos H
 refine DH_one 5 dd (by kernel_rfl) rfl (.no rfl) (ca' [0] [] (xf' [.slice (slA V0 a1 ((v0 : Nat) : Int) 15) (a2 - a1).toNat (((v0 : Nat) : Int).toNat - a1.toNat),.agg (c28' a3).toArray]) (F116w0.ok (l0:=l0) (o0:=o0 + a1) (n0:=a2 - a1) (A0:=A0) (c0:=c0) (V0:=slA V0 a1 ((v0 : Nat) : Int) 15) (v0:=((v0 : Nat) : Int).toNat - a1.toNat) (hw0:=hW190) (a1:=a3) C307) ?_)
 rintro _ _⟨rfl,rfl⟩
 try unfold c28'
 try rewrite [← hl306]
 try unfold c28' at sH
 try rewrite [← hl306] at sH
 refine DH_open dd sH ?_
 refine DN_done (by kernel_rfl) ?_
 refine at_normal (SA_region ?_)
 refine s' (.slice V0 n0.toNat v0) mv' ?_
 obtain⟨r366,C368,H⟩:=g_bind H
 obtain⟨hl367,H⟩:=g_pos H
 refine o' (ca' [1] [0] (xf' [.slice V0 n0.toNat v0]) (F136w0.ok (l0:=r305) (o0:=o0) (n0:=n0) (A0:=A0) (c0:=c0) (V0:=V0) (v0:=v0) (hw0:=hw0) C368) ?_)
 rintro _ _⟨rfl,rfl⟩
 try unfold c28'
 try rewrite [← hl367]
 refine RA_nil ?_
 have h_:=oi' H;subst h_
 exact bn' [0] ⟨rfl,rfl⟩


def F130Lb_0_.l0 (p0 : S34) (a2 : Int) : Nat → Int → (List S55) → Option ((List S55))
  | 0,_,_=>none
  | k + 1,x6_8,zm1_2_8=>if zm1_2_8.length = p0.f0.f2.length then (if x6_8 < a2 then ((F135i34m0b_0_.f ({ p0 with f0:=(S26.mk p0.f0.f0 p0.f0.f1 zm1_2_8) }) x6_8).bind (fun r316=>if (0 ≤ r316.1∧0 ≤ r316.2∧r316.1 + r316.2 ≤ (zm1_2_8.length : Int)) then ((F129w0.f k zm1_2_8 r316.1 r316.2 0 p0.f0.f0 p0.f4).bind (fun r1036=>if r1036.length = zm1_2_8.length then (lt (IntKind.i64.wrap (x6_8 + 1)) fun n1097=>F130Lb_0_.l0 p0 a2 k n1097 r1036) else none)) else none)) else (some zm1_2_8)) else none
def F130Lb_0_.f (k : Nat) (p0 : S34) (a1 : Int) (a2 : Int) : Option (S34):=(F130Lb_0_.l0 p0 a2 k a1 p0.f0.f2 : Option ((List S55))).bind (fun t8=>if t8.length = p0.f0.f2.length then (some (({ p0 with f0:=(S26.mk p0.f0.f0 p0.f0.f1 t8) }))) else none)
theorem F130Lb_0_.ok {p0 : S34} {a1 : Int} {a2 : Int} {r : S34} (H : F130Lb_0_.f k p0 a1 a2 = some r) : SCA Tryz.prog 130 #[.agg #[.pointer (some ⟨b0_,0,none⟩)],il' a1,il' a2] [Blk b0_ 34 (c34' p0 A0_0 c0_0 A0_1 c0_1 A0_2 c0_2 A0_3 c0_3),Buf k55 55 A0_0 c0_0 p0.f0.f2,bl' 3 A0_1 c0_1 p0.f7,Buf k55 55 A0_2 c0_2 p0.f16.f2,bw' 21 A0_3 c0_3 p0.f17] (fun v B=>∃ P0_0_ q0_0_ P0_1_ q0_1_ P0_2_ q0_2_ P0_3_ q0_3_,v = .tuple #[]∧B = [Blk b0_ 34 (c34' r P0_0_ q0_0_ P0_1_ q0_1_ P0_2_ q0_2_ P0_3_ q0_3_),Buf k55 55 P0_0_ q0_0_ r.f0.f2,bl' 3 P0_1_ q0_1_ r.f7,Buf k55 55 P0_2_ q0_2_ r.f16.f2,bw' 21 P0_3_ q0_3_ r.f17]):=by
 refine SCA_of_body Tryz.func130 rfl rfl ?_
 unfold F130Lb_0_.f at H
 refine qr' ?_
 refine o' (bx' fun b6=>?_)
 refine nr' ?_
 refine s' (il' a1) mv' ?_
 refine s' (il' a1) as' ?_
 refine na' ?_
 obtain⟨t8,H,Bt8⟩:=g_bind H
 refine SA_mid (fun e ds As=>St [] [Blk b0_ 34 (c34' ({ p0 with f0:=(S26.mk p0.f0.f0 p0.f0.f1 t8) }) A0_0 c0_0 A0_1 c0_1 A0_2 c0_2 A0_3 c0_3),Buf k55 55 A0_0 c0_0 t8,bl' 3 A0_1 c0_1 p0.f7,Buf k55 55 A0_2 c0_2 p0.f16.f2,bw' 21 A0_3 c0_3 p0.f17] e ds As) ?_ ?_
 ·refine SA_block ?_
  refine SA_loop (fun k_ e ds As=>∃ (x6_8 : Int) (zm1_2_8 : (List S55)),F130Lb_0_.l0 p0 a2 k_ x6_8 zm1_2_8 = some t8∧St [(2,il' a2),(3,pt' b6),(6,il' x6_8)] [Blk b0_ 34 (c34' ({ p0 with f0:=(S26.mk p0.f0.f0 p0.f0.f1 zm1_2_8) }) A0_0 c0_0 A0_1 c0_1 A0_2 c0_2 A0_3 c0_3),Buf k55 55 A0_0 c0_0 zm1_2_8,bl' 3 A0_1 c0_1 p0.f7,Buf k55 55 A0_2 c0_2 p0.f16.f2,bw' 21 A0_3 c0_3 p0.f17,Blk b6 84 [pt' b0_]] e ds As) (k:=k) ⟨_,_,H,sq' [0,1,2,3,4,5]⟩ ?_
  clear H
  rintro k9 e ds As ⟨x6_8,zm1_2_8,H,hst10⟩
  obtain _ | k9:=k9
  ·cases H
  rw [F130Lb_0_.l0] at H
  obtain⟨hl1098,H⟩:=g_pos H
  refine SA.of_St hst10 fun junk=>?_
  refine SA_seq (qr' ?_)
  refine s' (il' x6_8) mv' ?_
  refine s' (il' a2) mv' ?_
  refine s' (.bool (decide (x6_8 < a2))) (V_lss rfl rfl) ?_
  refine na' ?_
  by_cases h11 : x6_8 < a2
  ·replace H:=g_ift h11 H
   refine SA_condT rfl h11 ?_
   refine SA_skip (at_normal (SA_seq (SA_block ?_)))
   refine fc' 1 fun hc12=>?_
   refine fc' 2 fun hc13=>?_
   refine fc' 3 fun hc14=>?_
   refine fc' 4 fun hc15=>?_
   refine SA_drawMq (0::1::2::3::4::6::7::8::9::10::11::12::13::14::15::16::[]) (List.toArray ([]::[0]::[0,1]::[0,1,2]::[]::(rg' 0 5)::[]::[6]::[6,7]::[6,7,8]::(rg' 6 4)::(rg' 6 5)::[]::[12]::[12,13]::[12,13,14]::(rg' 12 4)::(0::1::2::3::4::6::7::8::9::10::11::12::13::14::15::16::[])::[])) [Blk b0_ 34 (c34' ({ p0 with f0:=(S26.mk p0.f0.f0 p0.f0.f1 zm1_2_8) }) A0_0 c0_0 A0_1 c0_1 A0_2 c0_2 A0_3 c0_3),Blk b6 84 [pt' b0_]] mixed (PanOk.inb (PanOk.thn (PanOk.thn (PanOk.inb (PanOk.thn PanOk.body))))) fun I0 hh0 w0 pk=>?_
   refine mt' (pt' b6) 0 [0,5] rfl (fa' b6 0 0) ?_
   refine mr' 1 [0,5] rfl (ld' b6 0 1) ?_
   refine mt' (pt' b0_) 2 [0,5] rfl nc' ?_
   refine mt' (pt' b0_) 3 [0,5] rfl (fa' b0_ 0 0) ?_
   refine mt' (il' x6_8) 4 [0,5] rfl mv' ?_
   refine mt' (pt' b6) 6 [0,5] rfl (fa' b6 0 0) ?_
   refine mr' 7 [0,5] rfl (ld' b6 0 1) ?_
   refine mt' (pt' b0_) 8 [0,5] rfl nc' ?_
   refine mt' (pt' b0_) 9 [0,5] rfl (fa' b0_ 0 0) ?_
   refine mt' (pt' b0_) 10 [0,5] rfl (fa' b0_ 0 0) ?_
   refine mr' 11 [0,5] rfl (ld' b0_ 0 0) ?_
   refine mt' (pt' b6) 12 [0,5] rfl (fa' b6 0 0) ?_
   refine mr' 13 [0,5] rfl (ld' b6 0 1) ?_
   refine mt' (pt' b0_) 14 [0,5] rfl nc' ?_
   refine mt' (pa' b0_ 6) 15 [0,5] rfl (fa' b0_ 0 6) ?_
   refine mr' 16 [0,5] rfl (lA' b0_ 6 0 (c28' p0.f4)) ?_
   obtain⟨r316,C321,H⟩:=g_bind H
   obtain⟨⟨hl320a,hl320b,hl320c⟩,H⟩:=g_pos H
   refine DM_one 5 (by kernel_rfl) rfl (.no rfl) (ca' [0,1,2,3,4] [5] (xf' [pt' b0_,il' x6_8]) (F135i34m0b_0_.ok (b0_:=b0_) (p0:=({ p0 with f0:=(S26.mk p0.f0.f0 p0.f0.f1 zm1_2_8) })) (a1:=x6_8) C321) ?_)
   rintro _ _⟨V317,v318,hW319,rfl,rfl⟩
   refine ⟨fun _=>⟨[0,5],rfl,rfl⟩,?_⟩
   obtain⟨r1036,C1038,H⟩:=g_bind H
   obtain⟨hl1037,H⟩:=g_pos H
   refine DM_one 17 (by kernel_rfl) rfl (.no rfl) (ca' [1] [0,2,3,4,5] (xf' [.slice V317 r316.2.toNat v318,il' 0,il' p0.f0.f0,.agg (c28' p0.f4).toArray]) (F129w0.ok (l0:=zm1_2_8) (o0:=r316.1) (n0:=r316.2) (A0:=A0_0) (c0:=c0_0) (V0:=V317) (v0:=v318) (hw0:=hW319) (a1:=0) (a2:=p0.f0.f0) (a3:=p0.f4) C1038) ?_)
   rintro _ _⟨rfl,rfl⟩
   try unfold c34'
   try rewrite [← hl1037]
   refine ⟨fun h_=>absurd h_ (by decide),?_⟩
   refine DN_done (by kernel_rfl) ?_
   refine inb_normal (at_normal (SA_region ?_))
   refine s' (il' x6_8) mv' ?_
   refine s' (il' (IntKind.i64.wrap (x6_8 + 1))) (V_add rfl rfl) ?_
   obtain⟨n1097,hn1097,H⟩:=g_lt H
   refine s' (il' n1097) (V_assign (v:=il' n1097) (congrArg (Value.int .i64) hn1097.symm)) ?_
   refine RA_nil ?_
   exact at_normal ⟨k9,Nat.lt_succ_self _,_,_,H,sq' [1,0,2,3,4,5]⟩
  replace H:=g_iff h11 H
  refine SA_condF rfl h11 ?_
  refine SA_exit (thn_exit (thn_exit (inb_hit ?_)))
  have h_:=oi' H;subst h_
  exact sm' [0,1,2,3,4]
 rintro e ds As hst1099
 clear H
 have H:=Bt8
 clear Bt8
 obtain⟨hl1100,H⟩:=g_pos H
 have h_:=oi' H;subst h_
 exact BQ_n0s hst1099 [Blk b0_ 34 (c34' ({ p0 with f0:=(S26.mk p0.f0.f0 p0.f0.f1 t8) }) A0_0 c0_0 A0_1 c0_1 A0_2 c0_2 A0_3 c0_3),Buf k55 55 A0_0 c0_0 t8,bl' 3 A0_1 c0_1 p0.f7,Buf k55 55 A0_2 c0_2 p0.f16.f2,bw' 21 A0_3 c0_3 p0.f17] rfl (gs' [0,1,2,3,4]) ⟨A0_0,c0_0,A0_1,c0_1,A0_2,c0_2,A0_3,c0_3,rfl,rfl⟩

end Go.Proofs.YtckilbegmbaeeaaGreat.Z5

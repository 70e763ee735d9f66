/- What functions compute, and that they do: 31, 32, 62f80xx_1_, 62f82x_1_, 62f84x_1_, 80Lb_0_, 81Lb_0_, 82Lb_0_, 83Lb_0_, 84Lb_0_, 85Lb_0_. -/
import Derived.Test.YtckilbegmbaeeaaGreatZ50
import Derived.Test.YtckilbegmbaeeaaGreatZ52
import Derived.Test.YtckilbegmbaeeaaGreatZ53
import Derived.Test.YtckilbegmbaeeaaGreatZ54
import Derived.Test.YtckilbegmbaeeaaGreatZ56
import Derived.Test.YtckilbegmbaeeaaGreatZ57
import Derived.Test.YtckilbegmbaeeaaGreatZ58
namespace Go.Proofs.YtckilbegmbaeeaaGreat.Z5
open Go Go.RowKit Go.Proofs.YtckilbegmbaeeaaGreat.SL
set_option linter.unusedVariables false
set_option maxHeartbeats 20000000
set_option maxRecDepth 100000
set_option linter.unusedSimpArgs false
attribute [local irreducible] IntKind.wrap minI maxI shrI shlI andI orI xorI andNotI cplI rd sub bytesOf strOf slA
variable {b0_ b1_ b2000_ b2001_ b2_ c0_0 c0_1 c0_2 c0_3 k : Nat}
variable {A0_0 A0_1 A0_2 A0_3 : Option Addr}
def F81Lb_0_.f (k : Nat) (p0 : S34) (a1 : Bool) (a2 : Int) : Option (S34):=(if a2 = 0 then (some (p0.f2,p0.f0.f0,0,p0.f0.f1)) else (if a2 = 1 then (lt (IntKind.i64.wrap (p0.f2 + 1)) fun n1273=>some (0,n1273,p0.f1,0)) else (if a2 = 2 then (some (0,p0.f0.f0,p0.f1,p0.f0.f1)) else (some (0,0,0,0)))) : Option (Int × Int × Int × Int)).bind (fun t1270=>(F121Lb_0_.f p0).bind (fun r1340=>if (0 ≤ r1340.1∧0 ≤ r1340.2∧r1340.1 + r1340.2 ≤ (p0.f0.f2.length : Int)) then ((F129w0.f k p0.f0.f2 r1340.1 r1340.2 t1270.1 t1270.2.1 p0.f4).bind (fun r1820=>if r1820.length = p0.f0.f2.length then ((if a1 = true then ((F130Lb_0_.f k ({ p0 with f0:=(S26.mk p0.f0.f0 p0.f0.f1 r1820) }) 0 t1270.2.2.1).bind (fun r1895=>(F130Lb_0_.f k r1895 (IntKind.i64.wrap (r1895.f1 + 1)) t1270.2.2.2).bind (fun r2392=>some r2392))) else (some ({ p0 with f0:=(S26.mk p0.f0.f0 p0.f0.f1 r1820) })) : Option (S34)).bind (fun t1881=>some (({ t1881 with f3:=false })))) else none)) else none))
theorem F81Lb_0_.ok {p0 : S34} {a1 : Bool} {a2 : Int} {r : S34} (H : F81Lb_0_.f k p0 a1 a2 = some r) : SCA Tryz.prog 81 #[.agg #[.pointer (some ⟨b0_,0,none⟩)],.bool a1,il' a2] [Blk b0_ 34 (c34' p0 A0_0 c0_0 A0_1 c0_1 A0_2 c0_2 A0_3 c0_3),Buf k55 55 A0_0 c0_0 p0.f0.f2,bl' 3 A0_1 c0_1 p0.f7,Buf k55 55 A0_2 c0_2 p0.f16.f2,bw' 21 A0_3 c0_3 p0.f17] (fun v B=>∃ P0_0_ q0_0_ P0_1_ q0_1_ P0_2_ q0_2_ P0_3_ q0_3_,v = .tuple #[]∧B = [Blk b0_ 34 (c34' r P0_0_ q0_0_ P0_1_ q0_1_ P0_2_ q0_2_ P0_3_ q0_3_),Buf k55 55 P0_0_ q0_0_ r.f0.f2,bl' 3 P0_1_ q0_1_ r.f7,Buf k55 55 P0_2_ q0_2_ r.f16.f2,bw' 21 P0_3_ q0_3_ r.f17]):=by
 refine SCA_of_body Tryz.func81 rfl rfl ?_
 unfold F81Lb_0_.f at H
 refine qr' ?_
 refine o' (bx' fun b6=>?_)
 refine na' (SA_seq ?_)
 refine SA_drawHq (rg' 0 8) #[[],[0],[0,1],[0,1,2],(rg' 0 4),(rg' 0 5),[],(rg' 0 7)] [0,5] (rg' 1 4) mixed rfl rfl rfl (PanOk.thn PanOk.body) fun I0 hS h0 hh0 w0 sH dd pk=>?_
 refine t' (pt' b6) 0 rfl sH (fa' b6 0 0) ?_
 refine r' 1 rfl sH (ld' b6 0 1) ?_
 refine t' (pt' b0_) 2 rfl sH nc' ?_
 refine t' (pt' b0_) 3 rfl sH (fa' b0_ 0 0) ?_
 refine t' (pt' b0_) 4 rfl sH (fa' b0_ 0 0) ?_
 refine r' 5 rfl sH (ld' b0_ 0 0) ?_
 refine t' (il' 0) 6 rfl sH as' ?_
 refine t' (il' p0.f0.f0) 7 rfl sH as' ?_
 refine DH_open dd sH ?_
 refine DN_done (by kernel_rfl) ?_
 refine at_normal (SA_seq ?_)
 refine SA_drawHq (rg' 0 13) (List.toArray ([]::[0]::[0,1]::[0,1,2]::(rg' 0 4)::[]::[5]::[5,6]::[5,6,7]::(rg' 5 4)::(rg' 5 5)::(rg' 0 5)::(rg' 0 12)::[])) [0,1] (rg' 2 4) mixed rfl rfl rfl (PanOk.thn PanOk.body) fun I0 hS h0 hh0 w0 sH dd pk=>?_
 refine t' (pt' b6) 0 rfl sH (fa' b6 0 0) ?_
 refine r' 1 rfl sH (ld' b6 0 1) ?_
 refine t' (pt' b0_) 2 rfl sH nc' ?_
 refine t' (pa' b0_ 3) 3 rfl sH (fa' b0_ 0 3) ?_
 refine r' 4 rfl sH (ld' b0_ 3 0) ?_
 refine t' (pt' b6) 5 rfl sH (fa' b6 0 0) ?_
 refine r' 6 rfl sH (ld' b6 0 1) ?_
 refine t' (pt' b0_) 7 rfl sH nc' ?_
 refine t' (pt' b0_) 8 rfl sH (fa' b0_ 0 0) ?_
 refine t' (pa' b0_ 1) 9 rfl sH (fa' b0_ 0 1) ?_
 refine r' 10 rfl sH (ld' b0_ 1 0) ?_
 refine t' (il' p0.f1) 11 rfl sH as' ?_
 refine t' (il' p0.f0.f1) 12 rfl sH as' ?_
 refine DH_open dd sH ?_
 refine DN_done (by kernel_rfl) ?_
 refine at_normal (SA_seq (qr' ?_))
 refine s' (il' a2) mv' ?_
 refine na' ?_
 obtain⟨t1270,H,Bt1270⟩:=g_bind H
 refine SA_mid (fun e ds As=>St [(1,.bool a1),(3,pt' b6),(6,il' t1270.1),(7,il' t1270.2.1),(8,il' t1270.2.2.1),(9,il' t1270.2.2.2)] [Blk b0_ 34 (c34' p0 A0_0 c0_0 A0_1 c0_1 A0_2 c0_2 A0_3 c0_3),Buf k55 55 A0_0 c0_0 p0.f0.f2,bl' 3 A0_1 c0_1 p0.f7,Buf k55 55 A0_2 c0_2 p0.f16.f2,bw' 21 A0_3 c0_3 p0.f17,Blk b6 84 [pt' b0_]] e ds As) ?_ ?_
 ·refine SA_block (qr' ?_)
  refine s' (.bool (decide (a2 = 0))) (V_eql rfl rfl) ?_
  refine s' (.bool (decide (a2 = 0))) as' ?_
  refine na' ?_
  refine SA.of_St (l:=[(1,.bool a1),(3,pt' b6),(6,il' 0),(7,il' p0.f0.f0),(8,il' p0.f1),(9,il' p0.f0.f1),(27,il' a2),(28,.bool (decide (a2 = 0)))]) (B:=[Blk b0_ 34 (c34' p0 A0_0 c0_0 A0_1 c0_1 A0_2 c0_2 A0_3 c0_3),Buf k55 55 A0_0 c0_0 p0.f0.f2,bl' 3 A0_1 c0_1 p0.f7,Buf k55 55 A0_2 c0_2 p0.f16.f2,bw' 21 A0_3 c0_3 p0.f17,Blk b6 84 [pt' b0_]]) (St.mk1 (aeq rfl (aeq rfl (aeq rfl (aeq rfl (aeq rfl (aeq rfl (aeq rfl (aeq rfl aeq0)))))))) (Gh.sel [0,2,3,4,5,1] (by kernel_rfl) (by kernel_rfl))) fun junk=>?_
  by_cases h1271 : a2 = 0
  ·replace H:=g_ift h1271 H
   refine SA_condT rfl h1271 ?_
   refine SA_region ?_
   refine s' (pt' b6) (fa' b6 0 0) ?_
   refine l' (ld' b6 0 5) ?_
   refine s' (pt' b0_) nc' ?_
   refine s' (pa' b0_ 4) (fa' b0_ 0 4) ?_
   refine l' (ld' b0_ 4 0) ?_
   refine s' (il' p0.f2) as' ?_
   refine s' (il' 0) as' ?_
   refine RA_nil (inb_normal ?_)
   have h_:=oi' H;subst h_
   exact sm' [0,1,2,3,4,5]
  replace H:=g_iff h1271 H
  refine SA_condF rfl h1271 ?_
  refine qr' ?_
  refine s' (.bool (decide (a2 = 1))) (V_eql rfl rfl) ?_
  refine s' (.bool (decide (a2 = 1))) as' ?_
  refine na' ?_
  by_cases h1272 : a2 = 1
  ·replace H:=g_ift h1272 H
   refine SA_condT rfl h1272 ?_
   refine SA_region ?_
   refine s' (pt' b6) (fa' b6 0 0) ?_
   refine l' (ld' b6 0 5) ?_
   refine s' (pt' b0_) nc' ?_
   refine s' (pa' b0_ 4) (fa' b0_ 0 4) ?_
   refine l' (ld' b0_ 4 0) ?_
   refine s' (il' (IntKind.i64.wrap (p0.f2 + 1))) (V_add rfl rfl) ?_
   obtain⟨n1273,hn1273,H⟩:=g_lt H
   refine s' (il' n1273) (V_assign (v:=il' n1273) (congrArg (Value.int .i64) hn1273.symm)) ?_
   refine s' (il' 0) as' ?_
   refine RA_nil (inb_normal ?_)
   have h_:=oi' H;subst h_
   exact sm' [0,1,2,3,4,5]
  replace H:=g_iff h1272 H
  refine SA_condF rfl h1272 ?_
  refine qr' ?_
  refine s' (.bool (decide (a2 = 2))) (V_eql rfl rfl) ?_
  refine s' (.bool (decide (a2 = 2))) as' ?_
  refine na' ?_
  by_cases h1274 : a2 = 2
  ·replace H:=g_ift h1274 H
   refine SA_condT rfl h1274 ?_
   refine SA_skip (inb_normal ?_)
   have h_:=oi' H;subst h_
   exact sm' [0,1,2,3,4,5]
  replace H:=g_iff h1274 H
  refine SA_condF rfl h1274 ?_
  refine SA_region ?_
  refine s' (il' 0) as' ?_
  refine s' (il' 0) as' ?_
  refine s' (il' 0) as' ?_
  refine RA_nil (inb_normal ?_)
  have h_:=oi' H;subst h_
  exact sm' [0,1,2,3,4,5]
 rintro e ds As hst1275
 clear H
 have H:=Bt1270
 clear Bt1270
 refine at_normal ?_
 refine SA.of_St hst1275 fun junk=>?_
 refine SA_seq ?_
 refine fc' 1 fun hc1276=>?_
 refine fc' 2 fun hc1277=>?_
 refine fc' 3 fun hc1278=>?_
 refine fc' 4 fun hc1279=>?_
 refine SA_drawMq [0,2,3,4,5,6,7,8] #[[],[0],[],[],[],[4],[4,5],[4,5,6],(rg' 4 4),[0,2,3,4,5,6,7,8]] [Blk b0_ 34 (c34' p0 A0_0 c0_0 A0_1 c0_1 A0_2 c0_2 A0_3 c0_3),Blk b6 84 [pt' b0_]] mixed (PanOk.thn PanOk.body) fun I0 hh0 w0 pk=>?_
 refine mr' 0 [0,5] rfl (lA' b6 0 1 [pt' b0_]) ?_
 refine mt' (il' t1270.1) 2 [0,5] rfl mv' ?_
 refine mt' (il' t1270.2.1) 3 [0,5] rfl mv' ?_
 refine mt' (pt' b6) 4 [0,5] rfl (fa' b6 0 0) ?_
 refine mr' 5 [0,5] rfl (ld' b6 0 1) ?_
 refine mt' (pt' b0_) 6 [0,5] rfl nc' ?_
 refine mt' (pa' b0_ 6) 7 [0,5] rfl (fa' b0_ 0 6) ?_
 refine mr' 8 [0,5] rfl (lA' b0_ 6 0 (c28' p0.f4)) ?_
 obtain⟨r1340,C1345,H⟩:=g_bind H
 obtain⟨⟨hl1344a,hl1344b,hl1344c⟩,H⟩:=g_pos H
 refine DM_one 1 (by kernel_rfl) rfl (.no rfl) (ca' [0,1,2,3,4] [5] (xf' [.agg #[pt' b0_]]) (F121Lb_0_.ok (b0_:=b0_) (p0:=p0) C1345) ?_)
 rintro _ _⟨V1341,v1342,hW1343,rfl,rfl⟩
 refine ⟨fun _=>⟨[0,5],rfl,rfl⟩,?_⟩
 obtain⟨r1820,C1822,H⟩:=g_bind H
 obtain⟨hl1821,H⟩:=g_pos H
 refine DM_one 9 (by kernel_rfl) rfl (.no rfl) (ca' [1] [0,2,3,4,5] (xf' [.slice V1341 r1340.2.toNat v1342,il' t1270.1,il' t1270.2.1,.agg (c28' p0.f4).toArray]) (F129w0.ok (l0:=p0.f0.f2) (o0:=r1340.1) (n0:=r1340.2) (A0:=A0_0) (c0:=c0_0) (V0:=V1341) (v0:=v1342) (hw0:=hW1343) (a1:=t1270.1) (a2:=t1270.2.1) (a3:=p0.f4) C1822) ?_)
 rintro _ _⟨rfl,rfl⟩
 try unfold c34'
 try rewrite [← hl1821]
 refine ⟨fun h_=>absurd h_ (by decide),?_⟩
 refine DN_done (by kernel_rfl) ?_
 refine at_normal (SA_seq (qr' ?_))
 refine s' (.bool a1) mv' ?_
 refine na' ?_
 obtain⟨t1881,H,Bt1881⟩:=g_bind H
 refine SA_mid (fun e ds As=>∃ (A1882 : Option Addr) (c1883 : Nat),∃ (A1885 : Option Addr) (c1886 : Nat),∃ (A1888 : Option Addr) (c1889 : Nat),∃ (A1891 : Option Addr) (c1892 : Nat),St [(3,pt' b6)] [Blk b0_ 34 (c34' t1881 A1882 c1883 A1885 c1886 A1888 c1889 A1891 c1892),Buf k55 55 A1882 c1883 t1881.f0.f2,bl' 3 A1885 c1886 t1881.f7,Buf k55 55 A1888 c1889 t1881.f16.f2,bw' 21 A1891 c1892 t1881.f17,Blk b6 84 [pt' b0_]] e ds As) ?_ ?_
 ·by_cases h1894 : a1 = true
  ·replace H:=g_ift h1894 H
   refine SA_condTb rfl h1894 ?_
   refine qr' ?_
   refine l' (lA' b6 0 5 [pt' b0_]) ?_
   refine s' (il' t1270.2.2.1) mv' ?_
   obtain⟨r1895,C2453,H⟩:=g_bind H
   refine o' (ca' [1,0,2,3,4] [5] (xf' [.agg #[pt' b0_],il' 0,il' t1270.2.2.1]) (F130Lb_0_.ok (b0_:=b0_) (p0:=({ p0 with f0:=(S26.mk p0.f0.f0 p0.f0.f1 r1820) })) (a1:=0) (a2:=t1270.2.2.1) C2453) ?_)
   rintro _ _⟨A1896,c1897,A1899,c1900,A1902,c1903,A1905,c1906,rfl,rfl⟩
   refine na' ?_
   refine fc' 1 fun hc1908=>?_
   refine fc' 2 fun hc1909=>?_
   refine fc' 3 fun hc1910=>?_
   refine fc' 4 fun hc1911=>?_
   refine SA_drawHq (rg' 0 8) #[[],[],[1],[1,2],[1,2,3],(rg' 1 4),(rg' 1 5),[],(rg' 0 8)] [0,5] (rg' 1 4) mixed rfl rfl rfl (PanOk.thn (PanOk.thn PanOk.body)) fun I0 hS h0 hh0 w0 sH dd pk=>?_
   refine r' 0 rfl sH (lA' b6 0 1 [pt' b0_]) ?_
   refine t' (pt' b6) 1 rfl sH (fa' b6 0 0) ?_
   refine r' 2 rfl sH (ld' b6 0 1) ?_
   refine t' (pt' b0_) 3 rfl sH nc' ?_
   refine t' (pa' b0_ 3) 4 rfl sH (fa' b0_ 0 3) ?_
   refine r' 5 rfl sH (ld' b0_ 3 0) ?_
   refine t' (il' (IntKind.i64.wrap (r1895.f1 + 1))) 6 rfl sH (V_add rfl rfl) ?_
   refine t' (il' t1270.2.2.2) 7 rfl sH mv' ?_
   refine DH_open dd sH ?_
   obtain⟨r2392,C2405,H⟩:=g_bind H
   refine DN_one 8 (by kernel_rfl) rfl rfl (.no rfl) (ca' [0,2,3,4,5] [1] (xf' [.agg #[pt' b0_],il' (IntKind.i64.wrap (r1895.f1 + 1)),il' t1270.2.2.2]) (F130Lb_0_.ok (b0_:=b0_) (p0:=r1895) (a1:=IntKind.i64.wrap (r1895.f1 + 1)) (a2:=t1270.2.2.2) C2405) ?_)
   rintro _ _⟨A2393,c2394,A2396,c2397,A2399,c2400,A2402,c2403,rfl,rfl⟩
   refine DN_done (by kernel_rfl) ?_
   have h_:=oi' H;subst h_
   exact at_normal ⟨A2393,c2394,A2396,c2397,A2399,c2400,A2402,c2403,sq' [0,1,2,3,4,5]⟩
  replace H:=g_iff h1894 H
  refine SA_condFb rfl h1894 ?_
  refine SA_skip ?_
  have h_:=oi' H;subst h_
  exact at_normal ⟨A0_0,c0_0,A0_1,c0_1,A0_2,c0_2,A0_3,c0_3,sq' [1,0,2,3,4,5]⟩
 rintro e ds As ⟨A1882,c1883,A1885,c1886,A1888,c1889,A1891,c1892,hst2454⟩
 clear H
 have H:=Bt1881
 clear Bt1881
 refine at_normal ?_
 refine SA.of_St hst2454 fun junk=>?_
 refine SA_region ?_
 refine s' (pt' b6) (fa' b6 0 0) ?_
 refine l' (ld' b6 0 5) ?_
 refine s' (pt' b0_) nc' ?_
 refine s' (pa' b0_ 5) (fa' b0_ 0 5) ?_
 refine o' (st' b0_ 5 0 [.bool false] (c34' ({ t1881 with f3:=false }) A1882 c1883 A1885 c1886 A1888 c1889 A1891 c1892) ?_)
 refine RA_nil ?_
 have h_:=oi' H;subst h_
 exact bn' [0,1,2,3,4] ⟨A1882,c1883,A1885,c1886,A1888,c1889,A1891,c1892,rfl,rfl⟩


def F80Lb_0_.f (k : Nat) (p0 : S34) (p1 : Bool) (p2 : Int) : Option (S34):=(F81Lb_0_.f k p0 p1 p2).bind (fun r14=>some (r14))
theorem F80Lb_0_.ok {p0 : S34} {p1 : Bool} {p2 : Int} {r : S34} (H : F80Lb_0_.f k p0 p1 p2 = some r) : SCA Tryz.prog 80 #[.agg #[.pointer (some ⟨b0_,0,none⟩)],.pointer (some ⟨b1_,0,none⟩),.pointer (some ⟨b2_,0,none⟩)] [Blk b0_ 34 (c34' p0 A0_0 c0_0 A0_1 c0_1 A0_2 c0_2 A0_3 c0_3),Buf k55 55 A0_0 c0_0 p0.f0.f2,bl' 3 A0_1 c0_1 p0.f7,Buf k55 55 A0_2 c0_2 p0.f16.f2,bw' 21 A0_3 c0_3 p0.f17,Blk b1_ 4 [.bool p1],Blk b2_ 3 [il' p2]] (fun v B=>∃ P0_0_ q0_0_ P0_1_ q0_1_ P0_2_ q0_2_ P0_3_ q0_3_,v = .tuple #[]∧B = [Blk b0_ 34 (c34' r P0_0_ q0_0_ P0_1_ q0_1_ P0_2_ q0_2_ P0_3_ q0_3_),Buf k55 55 P0_0_ q0_0_ r.f0.f2,bl' 3 P0_1_ q0_1_ r.f7,Buf k55 55 P0_2_ q0_2_ r.f16.f2,bw' 21 P0_3_ q0_3_ r.f17,Blk b1_ 4 [.bool p1],Blk b2_ 3 [il' p2]]):=by
 refine SCA_of_body Tryz.func80 rfl rfl ?_
 unfold F80Lb_0_.f at H
 refine qr' ?_
 refine o' (bx' fun b8=>?_)
 refine na' ?_
 refine fc' 1 fun hc10=>?_
 refine fc' 2 fun hc11=>?_
 refine fc' 3 fun hc12=>?_
 refine fc' 4 fun hc13=>?_
 refine SA_region ?_
 refine l' (lA' b8 0 7 [pt' b0_]) ?_
 refine l' (ld' b1_ 0 5) ?_
 refine l' (ld' b2_ 0 6) ?_
 obtain⟨r14,C27,H⟩:=g_bind H
 refine o' (ca' [0,1,2,3,4] [5,6,7] (xf' [.agg #[pt' b0_],.bool p1,il' p2]) (F81Lb_0_.ok (b0_:=b0_) (p0:=p0) (a1:=p1) (a2:=p2) C27) ?_)
 rintro _ _⟨A15,c16,A18,c19,A21,c22,A24,c25,rfl,rfl⟩
 refine RA_nil ?_
 have h_:=oi' H;subst h_
 exact bn' [0,1,2,3,4,5,6] ⟨A15,c16,A18,c19,A21,c22,A24,c25,rfl,rfl⟩


def F62f80xx_1_.f (k : Nat) (a0 : S34) (p2000 : Bool) (p2001 : Int) : Option (S34 × Int):=(F16b0.f k a0).bind (fun r11=>if (!r11) = true then (some (((S34.mk (S26.mk 0 0 ([] : (List S55))) 0 0 false (S28.mk 0 0 false false false false false false false false) 0 0 ([] : (List Int)) false false false false false false (S31.mk 0 0 false false (S28.mk 0 0 false false false false false false false false)) false (S26.mk 0 0 ([] : (List S55))) ([] : (List Int))),2))) else ((F97.f a0).bind (fun r17=>(F80Lb_0_.f k r17 p2000 p2001).bind (fun r30=>some ((r30,0))))))
theorem F62f80xx_1_.ok {a0 : S34} {p2000 : Bool} {p2001 : Int} {r : S34 × Int} (H : F62f80xx_1_.f k a0 p2000 p2001 = some r) : SCA Tryz.prog 62 #[.agg (c34' a0 A0_0 c0_0 A0_1 c0_1 A0_2 c0_2 A0_3 c0_3).toArray,.func (.func 80) #[] #[.pointer (some ⟨b2000_,0,none⟩),.pointer (some ⟨b2001_,0,none⟩)]] [Ro k55 A0_0 c0_0 a0.f0.f2,rl' A0_1 c0_1 a0.f7,Ro k55 A0_2 c0_2 a0.f16.f2,rw' A0_3 c0_3 a0.f17,Blk b2000_ 4 [.bool p2000],Blk b2001_ 3 [il' p2001]] (fun v B=>∃ A0_0_ c0_0_ A0_1_ c0_1_ A0_2_ c0_2_ A0_3_ c0_3_,v = .tuple #[.agg (c34' r.1 A0_0_ c0_0_ A0_1_ c0_1_ A0_2_ c0_2_ A0_3_ c0_3_).toArray,il' r.2]∧B = [Buf k55 55 A0_0_ c0_0_ r.1.f0.f2,bl' 3 A0_1_ c0_1_ r.1.f7,Buf k55 55 A0_2_ c0_2_ r.1.f16.f2,bw' 21 A0_3_ c0_3_ r.1.f17,Blk b2000_ 4 [.bool p2000],Blk b2001_ 3 [il' p2001]]):=by
 refine SCA_of_body Tryz.func62 rfl rfl ?_
 unfold F62f80xx_1_.f at H
 refine qr' ?_
 refine o' (bx' fun b7=>?_)
 refine o' (al' fun b9=>?_)
 refine s' (il' 0) as' ?_
 refine nq' ?_
 refine l' (lA' b7 0 6 (c34' a0 A0_0 c0_0 A0_1 c0_1 A0_2 c0_2 A0_3 c0_3)) ?_
 obtain⟨r11,C45,H⟩:=g_bind H
 refine o' (ca' [0,1,2,3] [0,1,2,3,4,5,6,7] (xf' [.agg (c34' a0 A0_0 c0_0 A0_1 c0_1 A0_2 c0_2 A0_3 c0_3).toArray]) (F16.ok (a0:=a0) C45) ?_)
 rintro _ _⟨rfl,rfl⟩
 refine s' (.bool (!r11)) (V_not rfl) ?_
 refine na' ?_
 by_cases h12 : (!r11) = true
 ·replace H:=g_ift h12 H
  refine SA_condTb rfl h12 ?_
  refine qr' ?_
  refine s' (.agg (c34' z34' none 0 none 0 none 0 none 0).toArray) bd' ?_
  refine o' (su' b9 0 7 (c34' z34' none 0 none 0 none 0 none 0) ?_)
  refine s' (il' 2) as' ?_
  refine ntt' ?_
  have h_:=oi' H;subst h_
  exact BQ_RL (rs:=[.cell 4 34,.tmp 5]) (vs:=[.agg (c34' z34' none 0 none 0 none 0 none 0).toArray,il' 2]) [Buf k55 55 none 0 ([] : (List S55)),bl' 3 none 0 ([] : (List Int)),Buf k55 55 none 0 ([] : (List S55)),bw' 21 none 0 ([] : (List Int)),Blk b2000_ 4 [.bool p2000],Blk b2001_ 3 [il' p2001]] rfl ⟨RV.cell (k:=7) rfl rfl Tryz.underlying34 rfl sz34,RV.tmp rfl,trivial⟩ rfl ((Gh.nilBuf k55 55).trans ((Gh.nilBuf (Kd.int .i64) 3).trans ((Gh.nilBuf k55 55).trans ((Gh.nilBuf (Kd.int .i32) 21).trans (gs' [8,9,10,11,4,5]))))) ⟨none,0,none,0,none,0,none,0,rfl,rfl⟩
 replace H:=g_iff h12 H
 refine SA_condFb rfl h12 ?_
 refine SA_skip (at_normal (qr' ?_))
 refine l' (lA' b7 0 6 (c34' a0 A0_0 c0_0 A0_1 c0_1 A0_2 c0_2 A0_3 c0_3)) ?_
 obtain⟨r17,C44,H⟩:=g_bind H
 refine o' (ca' [0,1,2,3] [0,1,2,3,4,5,6,7] (xf' [.agg (c34' a0 A0_0 c0_0 A0_1 c0_1 A0_2 c0_2 A0_3 c0_3).toArray]) (F97.ok (a0:=a0) C44) ?_)
 rintro _ _⟨A18,c19,A21,c22,A24,c25,A27,c28,rfl,rfl⟩
 refine o' (su' b7 0 10 (c34' r17 A18 c19 A21 c22 A24 c25 A27 c28) ?_)
 refine nr' ?_
 refine s' (.func (.func 80) #[] #[pt' b2000_,pt' b2001_]) mv' ?_
 refine s' (.agg #[pt' b7]) bd' ?_
 obtain⟨r30,C43,H⟩:=g_bind H
 refine o' (ca' [10,0,1,2,3,8,9] [4,5,6,7,11] (X_fnV (vs:=[.agg #[pt' b7]]) (cap:=[pt' b2000_,pt' b2001_]) rfl Tryz.func80 nm80 rfl rfl) (F80Lb_0_.ok (b0_:=b7) (p0:=r17) (b1_:=b2000_) (p1:=p2000) (b2_:=b2001_) (p2:=p2001) C43) ?_)
 rintro _ _⟨A31,c32,A34,c35,A37,c38,A40,c41,rfl,rfl⟩
 refine nr' ?_
 refine l' (lA' b7 0 0 (c34' r30 A31 c32 A34 c35 A37 c38 A40 c41)) ?_
 refine o' (su' b9 0 11 (c34' r30 A31 c32 A34 c35 A37 c38 A40 c41) ?_)
 refine s' (il' 0) as' ?_
 refine nt' ?_
 have h_:=oi' H;subst h_
 exact b2' [.cell 4 34,.tmp 5] [1,2,3,4,5,6] ⟨A31,c32,A34,c35,A37,c38,A40,c41,rfl,rfl⟩ ⟨RV.cell (k:=11) rfl rfl Tryz.underlying34 rfl sz34,RV.tmp rfl,trivial⟩


def F31.f (k : Nat) (a0 : S34) (a1 : Bool) (a2 : Int) : Option (S34 × Int):=(F62f80xx_1_.f k a0 a1 a2).bind (fun r13=>some ((r13.1,r13.2)))
theorem F31.ok {a0 : S34} {a1 : Bool} {a2 : Int} {r : S34 × Int} (H : F31.f k a0 a1 a2 = some r) : SCA Tryz.prog 31 #[.agg (c34' a0 A0_0 c0_0 A0_1 c0_1 A0_2 c0_2 A0_3 c0_3).toArray,.bool a1,il' a2] [Ro k55 A0_0 c0_0 a0.f0.f2,rl' A0_1 c0_1 a0.f7,Ro k55 A0_2 c0_2 a0.f16.f2,rw' A0_3 c0_3 a0.f17] (fun v B=>∃ A0_0_ c0_0_ A0_1_ c0_1_ A0_2_ c0_2_ A0_3_ c0_3_,v = .tuple #[.agg (c34' r.1 A0_0_ c0_0_ A0_1_ c0_1_ A0_2_ c0_2_ A0_3_ c0_3_).toArray,il' r.2]∧B = [Buf k55 55 A0_0_ c0_0_ r.1.f0.f2,bl' 3 A0_1_ c0_1_ r.1.f7,Buf k55 55 A0_2_ c0_2_ r.1.f16.f2,bw' 21 A0_3_ c0_3_ r.1.f17]):=by
 refine SCA_of_body Tryz.func31 rfl rfl ?_
 unfold F31.f at H
 refine qr' ?_
 refine o' (bx' fun b5=>?_)
 refine o' (bx' fun b7=>?_)
 refine o' (bx' fun b9=>?_)
 refine o' (al' fun b11=>?_)
 refine s' (il' 0) as' ?_
 refine nr' ?_
 refine l' (lA' b5 0 4 (c34' a0 A0_0 c0_0 A0_1 c0_1 A0_2 c0_2 A0_3 c0_3)) ?_
 refine s' (.func (.func 80) #[] #[pt' b7,pt' b9]) (V_makeFuncL (us:=[pt' b7,pt' b9]) rfl) ?_
 obtain⟨r13,C26,H⟩:=g_bind H
 refine o' (ca' [0,1,2,3,5,6] [0,1,2,3,4,7] (xf' [.agg (c34' a0 A0_0 c0_0 A0_1 c0_1 A0_2 c0_2 A0_3 c0_3).toArray,.func (.func 80) #[] #[pt' b7,pt' b9]]) (F62f80xx_1_.ok (a0:=a0) (b2000_:=b7) (p2000:=a1) (b2001_:=b9) (p2001:=a2) C26) ?_)
 rintro _ _⟨A14,c15,A17,c18,A20,c21,A23,c24,rfl,rfl⟩
 refine s' (.agg (c34' r13.1 A14 c15 A17 c18 A20 c21 A23 c24).toArray) ex' ?_
 refine s' (il' r13.2) ex' ?_
 refine o' (su' b11 0 11 (c34' r13.1 A14 c15 A17 c18 A20 c21 A23 c24) ?_)
 refine s' (il' r13.2) as' ?_
 refine nt' ?_
 have h_:=oi' H;subst h_
 exact b2' [.cell 6 34,.tmp 7] [0,1,2,3] ⟨A14,c15,A17,c18,A20,c21,A23,c24,rfl,rfl⟩ ⟨RV.cell (k:=11) rfl rfl Tryz.underlying34 rfl sz34,RV.tmp rfl,trivial⟩


def F83Lb_0_.f (k : Nat) (p0 : S34) (a1 : Int) : Option (S34):=(if p0.f1 < p0.f5 then (some true) else (some (decide (p0.f1 > p0.f6))) : Option (Bool)).bind (fun t8=>if t8 = true then (some (p0)) else ((F128.f a1).bind (fun r2357=>(F131i34m0b_0_.f k p0 p0.f1 p0.f6 (IntKind.i64.wrap (0 - r2357)) p0.f4).bind (fun r2777=>some (({ r2777 with f2:=0,f3:=false }))))))
theorem F83Lb_0_.ok {p0 : S34} {a1 : Int} {r : S34} (H : F83Lb_0_.f k p0 a1 = some r) : SCA Tryz.prog 83 #[.agg #[.pointer (some ⟨b0_,0,none⟩)],il' a1] [Blk b0_ 34 (c34' p0 A0_0 c0_0 A0_1 c0_1 A0_2 c0_2 A0_3 c0_3),Buf k55 55 A0_0 c0_0 p0.f0.f2,bl' 3 A0_1 c0_1 p0.f7,Buf k55 55 A0_2 c0_2 p0.f16.f2,bw' 21 A0_3 c0_3 p0.f17] (fun v B=>∃ P0_0_ q0_0_ P0_1_ q0_1_ P0_2_ q0_2_ P0_3_ q0_3_,v = .tuple #[]∧B = [Blk b0_ 34 (c34' r P0_0_ q0_0_ P0_1_ q0_1_ P0_2_ q0_2_ P0_3_ q0_3_),Buf k55 55 P0_0_ q0_0_ r.f0.f2,bl' 3 P0_1_ q0_1_ r.f7,Buf k55 55 P0_2_ q0_2_ r.f16.f2,bw' 21 P0_3_ q0_3_ r.f17]):=by
 refine SCA_of_body Tryz.func83 rfl rfl ?_
 unfold F83Lb_0_.f at H
 refine qr' ?_
 refine o' (bx' fun b6=>?_)
 refine na' (SA_seq (SA_seq ?_))
 obtain⟨t8,H,Bt8⟩:=g_bind H
 refine SA_mid (fun e ds As=>St [(1,il' a1),(2,pt' b6),(27,.bool t8)] [Blk b0_ 34 (c34' p0 A0_0 c0_0 A0_1 c0_1 A0_2 c0_2 A0_3 c0_3),Buf k55 55 A0_0 c0_0 p0.f0.f2,bl' 3 A0_1 c0_1 p0.f7,Buf k55 55 A0_2 c0_2 p0.f16.f2,bw' 21 A0_3 c0_3 p0.f17,Blk b6 84 [pt' b0_]] e ds As) ?_ ?_
 ·refine SA_drawHq (rg' 0 24) (List.toArray ([]::[0]::[0,1]::[0,1,2]::(rg' 0 4)::[]::[5]::[5,6]::[5,6,7]::(rg' 5 4)::(rg' 0 10)::(rg' 0 11)::(rg' 0 12)::(rg' 0 13)::(rg' 0 14)::(rg' 0 15)::(rg' 0 16)::(rg' 0 12)::(0::1::2::3::4::5::6::7::8::9::10::11::17::[])::(0::1::2::3::4::5::6::7::8::9::10::11::17::18::[])::(0::1::2::3::4::5::6::7::8::9::10::11::17::18::19::[])::(0::1::2::3::4::5::6::7::8::9::10::11::17::18::19::20::[])::(rg' 0 22)::(rg' 0 23)::[])) [0,5] (rg' 1 4) mixed rfl rfl rfl (PanOk.thn (PanOk.thn (PanOk.thn PanOk.body))) fun I0 hS h0 hh0 w0 sH dd pk=>?_
  refine t' (pt' b6) 0 rfl sH (fa' b6 0 0) ?_
  refine r' 1 rfl sH (ld' b6 0 1) ?_
  refine t' (pt' b0_) 2 rfl sH nc' ?_
  refine t' (pa' b0_ 3) 3 rfl sH (fa' b0_ 0 3) ?_
  refine r' 4 rfl sH (ld' b0_ 3 0) ?_
  refine t' (pt' b6) 5 rfl sH (fa' b6 0 0) ?_
  refine r' 6 rfl sH (ld' b6 0 1) ?_
  refine t' (pt' b0_) 7 rfl sH nc' ?_
  refine t' (pa' b0_ 16) 8 rfl sH (fa' b0_ 0 16) ?_
  refine r' 9 rfl sH (ld' b0_ 16 0) ?_
  refine t' (.bool (decide (p0.f1 < p0.f5))) 10 rfl sH (V_lss rfl rfl) ?_
  refine t' (.bool (decide (p0.f1 < p0.f5))) 11 rfl sH mv' ?_
  by_cases h1450 : p0.f1 < p0.f5
  ·replace H:=g_ift h1450 H
   refine dn' 12 rfl (dec_t h1450) ?_
   refine dn' 13 rfl (dec_t h1450) ?_
   refine dn' 14 rfl (dec_t h1450) ?_
   refine dn' 15 rfl (dec_t h1450) ?_
   refine dn' 16 rfl (dec_t h1450) ?_
   refine dn' 17 rfl (dec_t h1450) ?_
   refine dn' 18 rfl (dec_t h1450) ?_
   refine dn' 19 rfl (dec_t h1450) ?_
   refine dn' 20 rfl (dec_t h1450) ?_
   refine dn' 21 rfl (dec_t h1450) ?_
   refine dn' 22 rfl (dec_t h1450) ?_
   refine r' 23 rfl sH (VR.ofV (V_pickT rfl (dec_t h1450) rfl)) ?_
   refine DH_open dd sH ?_
   refine DN_done (by kernel_rfl) ?_
   have h_:=oi' H;subst h_
   exact sm' [0,2,3,4,5,1]
  replace H:=g_iff h1450 H
  refine ty' (pt' b6) 12 rfl (dec_f h1450) sH (fa' b6 0 0) ?_
  refine ry' 13 rfl (dec_f h1450) sH (ld' b6 0 1) ?_
  refine ty' (pt' b0_) 14 rfl (dec_f h1450) sH nc' ?_
  refine ty' (pa' b0_ 3) 15 rfl (dec_f h1450) sH (fa' b0_ 0 3) ?_
  refine ry' 16 rfl (dec_f h1450) sH (ld' b0_ 3 0) ?_
  refine ty' (pt' b6) 17 rfl (dec_f h1450) sH (fa' b6 0 0) ?_
  refine ry' 18 rfl (dec_f h1450) sH (ld' b6 0 1) ?_
  refine ty' (pt' b0_) 19 rfl (dec_f h1450) sH nc' ?_
  refine ty' (pa' b0_ 17) 20 rfl (dec_f h1450) sH (fa' b0_ 0 17) ?_
  refine ry' 21 rfl (dec_f h1450) sH (ld' b0_ 17 0) ?_
  refine ty' (.bool (decide (p0.f1 > p0.f6))) 22 rfl (dec_f h1450) sH (V_gtr rfl rfl) ?_
  refine r' 23 rfl sH (VR.ofV (V_pickF rfl (dec_f h1450) rfl)) ?_
  refine DH_open dd sH ?_
  refine DN_done (by kernel_rfl) ?_
  have h_:=oi' H;subst h_
  exact sm' [0,2,3,4,5,1]
 rintro e ds As hst1451
 clear H
 have H:=Bt8
 clear Bt8
 refine at_normal ?_
 refine SA.of_St hst1451 fun junk=>?_
 by_cases h1452 : t8 = true
 ·replace H:=g_ift h1452 H
  refine SA_condTb rfl h1452 ?_
  refine SA_ret (thn_ret ?_)
  have h_:=oi' H;subst h_
  exact BQ_R0 [Blk b0_ 34 (c34' p0 A0_0 c0_0 A0_1 c0_1 A0_2 c0_2 A0_3 c0_3),Buf k55 55 A0_0 c0_0 p0.f0.f2,bl' 3 A0_1 c0_1 p0.f7,Buf k55 55 A0_2 c0_2 p0.f16.f2,bw' 21 A0_3 c0_3 p0.f17] rfl (gs' [0,1,2,3,4]) ⟨A0_0,c0_0,A0_1,c0_1,A0_2,c0_2,A0_3,c0_3,rfl,rfl⟩
 replace H:=g_iff h1452 H
 refine SA_condFb rfl h1452 ?_
 refine SA_skip (at_normal (SA_seq ?_))
 refine fc' 1 fun hc1453=>?_
 refine fc' 2 fun hc1454=>?_
 refine fc' 3 fun hc1455=>?_
 refine fc' 4 fun hc1456=>?_
 refine SA_drawHq (0::1::2::3::4::5::6::7::8::9::10::11::12::13::14::16::17::18::19::20::21::[]) (List.toArray ([]::[0]::[0,1]::[0,1,2]::[]::[4]::[4,5]::[4,5,6]::(rg' 4 4)::[]::[9]::[9,10]::[9,10,11]::(rg' 9 4)::[]::[14]::[14]::[]::[17]::[17,18]::[17,18,19]::(rg' 17 4)::(0::1::2::3::4::5::6::7::8::9::10::11::12::13::14::16::17::18::19::20::21::[])::[])) [0,5] (rg' 1 4) mixed rfl rfl rfl (PanOk.thn PanOk.body) fun I0 hS h0 hh0 w0 sH dd pk=>?_
 refine t' (pt' b6) 0 rfl sH (fa' b6 0 0) ?_
 refine r' 1 rfl sH (ld' b6 0 1) ?_
 refine t' (pt' b0_) 2 rfl sH nc' ?_
 refine t' (pt' b0_) 3 rfl sH (fa' b0_ 0 0) ?_
 refine t' (pt' b6) 4 rfl sH (fa' b6 0 0) ?_
 refine r' 5 rfl sH (ld' b6 0 1) ?_
 refine t' (pt' b0_) 6 rfl sH nc' ?_
 refine t' (pa' b0_ 3) 7 rfl sH (fa' b0_ 0 3) ?_
 refine r' 8 rfl sH (ld' b0_ 3 0) ?_
 refine t' (pt' b6) 9 rfl sH (fa' b6 0 0) ?_
 refine r' 10 rfl sH (ld' b6 0 1) ?_
 refine t' (pt' b0_) 11 rfl sH nc' ?_
 refine t' (pa' b0_ 17) 12 rfl sH (fa' b0_ 0 17) ?_
 refine r' 13 rfl sH (ld' b0_ 17 0) ?_
 refine t' (il' a1) 14 rfl sH mv' ?_
 refine t' (pt' b6) 17 rfl sH (fa' b6 0 0) ?_
 refine r' 18 rfl sH (ld' b6 0 1) ?_
 refine t' (pt' b0_) 19 rfl sH nc' ?_
 refine t' (pa' b0_ 6) 20 rfl sH (fa' b0_ 0 6) ?_
 refine r' 21 rfl sH (lA' b0_ 6 0 (c28' p0.f4)) ?_
 obtain⟨r2357,C2358,H⟩:=g_bind H
 refine DH_one 15 dd (by kernel_rfl) rfl (.no rfl) (ca' [] [0,1,2,3] (xf' [il' a1]) (F128.ok (a0:=a1) C2358) ?_)
 rintro _ _⟨rfl,rfl⟩
 refine t' (il' (IntKind.i64.wrap (0 - r2357))) 16 rfl sH (V_neg rfl) ?_
 refine DH_open dd sH ?_
 obtain⟨r2777,C2790,H⟩:=g_bind H
 refine DN_one 22 (by kernel_rfl) rfl rfl (.no rfl) (ca' [0,2,3,4,5] [1] (xf' [pt' b0_,il' p0.f1,il' p0.f6,il' (IntKind.i64.wrap (0 - r2357)),.agg (c28' p0.f4).toArray]) (F131i34m0b_0_.ok (b0_:=b0_) (p0:=p0) (a1:=p0.f1) (a2:=p0.f6) (a3:=IntKind.i64.wrap (0 - r2357)) (a4:=p0.f4) C2790) ?_)
 rintro _ _⟨A2778,c2779,A2781,c2782,A2784,c2785,A2787,c2788,rfl,rfl⟩
 refine DN_done (by kernel_rfl) ?_
 refine at_normal ?_
 refine SA_drawHq [0,1,2,3,4,5,7,8] #[[],[0],[],[2],[0,1],[0,1,4],[0,1,4,5],(rg' 0 6),[0,1,2,3,4,5,7],[0,1,2,3,4,5,7,8]] [5] (rg' 0 5) mixed rfl rfl rfl PanOk.body fun I0 hS h0 hh0 w0 sH dd pk=>?_
 refine t' (pt' b6) 0 rfl sH (fa' b6 0 0) ?_
 refine r' 1 rfl sH (ld' b6 0 0) ?_
 refine t' (pt' b6) 2 rfl sH (fa' b6 0 0) ?_
 refine r' 3 rfl sH (ld' b6 0 0) ?_
 refine t' (pt' b0_) 4 rfl sH nc' ?_
 refine t' (pa' b0_ 4) 5 rfl sH (fa' b0_ 0 4) ?_
 refine DH_one 6 dd (by kernel_rfl) rfl (.no rfl) (st' b0_ 4 0 [il' 0] (c34' ({ r2777 with f2:=0 }) A2778 c2779 A2781 c2782 A2784 c2785 A2787 c2788) ?_)
 refine t' (pt' b0_) 7 rfl sH nc' ?_
 refine t' (pa' b0_ 5) 8 rfl sH (fa' b0_ 0 5) ?_
 refine DH_one 9 dd (by kernel_rfl) rfl (.no rfl) (st' b0_ 5 0 [.bool false] (c34' ({ r2777 with f2:=0,f3:=false }) A2778 c2779 A2781 c2782 A2784 c2785 A2787 c2788) ?_)
 refine DH_open dd sH ?_
 refine DN_done (by kernel_rfl) ?_
 have h_:=oi' H;subst h_
 exact bn' [1,2,3,4,5] ⟨A2778,c2779,A2781,c2782,A2784,c2785,A2787,c2788,rfl,rfl⟩


def F82Lb_0_.f (k : Nat) (p0 : S34) (p1 : Int) : Option (S34):=(F83Lb_0_.f k p0 p1).bind (fun r13=>some (r13))
theorem F82Lb_0_.ok {p0 : S34} {p1 : Int} {r : S34} (H : F82Lb_0_.f k p0 p1 = some r) : SCA Tryz.prog 82 #[.agg #[.pointer (some ⟨b0_,0,none⟩)],.pointer (some ⟨b1_,0,none⟩)] [Blk b0_ 34 (c34' p0 A0_0 c0_0 A0_1 c0_1 A0_2 c0_2 A0_3 c0_3),Buf k55 55 A0_0 c0_0 p0.f0.f2,bl' 3 A0_1 c0_1 p0.f7,Buf k55 55 A0_2 c0_2 p0.f16.f2,bw' 21 A0_3 c0_3 p0.f17,Blk b1_ 3 [il' p1]] (fun v B=>∃ P0_0_ q0_0_ P0_1_ q0_1_ P0_2_ q0_2_ P0_3_ q0_3_,v = .tuple #[]∧B = [Blk b0_ 34 (c34' r P0_0_ q0_0_ P0_1_ q0_1_ P0_2_ q0_2_ P0_3_ q0_3_),Buf k55 55 P0_0_ q0_0_ r.f0.f2,bl' 3 P0_1_ q0_1_ r.f7,Buf k55 55 P0_2_ q0_2_ r.f16.f2,bw' 21 P0_3_ q0_3_ r.f17,Blk b1_ 3 [il' p1]]):=by
 refine SCA_of_body Tryz.func82 rfl rfl ?_
 unfold F82Lb_0_.f at H
 refine qr' ?_
 refine o' (bx' fun b7=>?_)
 refine na' ?_
 refine fc' 1 fun hc9=>?_
 refine fc' 2 fun hc10=>?_
 refine fc' 3 fun hc11=>?_
 refine fc' 4 fun hc12=>?_
 refine SA_region ?_
 refine l' (lA' b7 0 6 [pt' b0_]) ?_
 refine l' (ld' b1_ 0 5) ?_
 obtain⟨r13,C26,H⟩:=g_bind H
 refine o' (ca' [0,1,2,3,4] [5,6] (xf' [.agg #[pt' b0_],il' p1]) (F83Lb_0_.ok (b0_:=b0_) (p0:=p0) (a1:=p1) C26) ?_)
 rintro _ _⟨A14,c15,A17,c18,A20,c21,A23,c24,rfl,rfl⟩
 refine RA_nil ?_
 have h_:=oi' H;subst h_
 exact bn' [0,1,2,3,4,5] ⟨A14,c15,A17,c18,A20,c21,A23,c24,rfl,rfl⟩


def F62f82x_1_.f (k : Nat) (a0 : S34) (p2000 : Int) : Option (S34 × Int):=(F16b0.f k a0).bind (fun r10=>if (!r10) = true then (some (((S34.mk (S26.mk 0 0 ([] : (List S55))) 0 0 false (S28.mk 0 0 false false false false false false false false) 0 0 ([] : (List Int)) false false false false false false (S31.mk 0 0 false false (S28.mk 0 0 false false false false false false false false)) false (S26.mk 0 0 ([] : (List S55))) ([] : (List Int))),2))) else ((F97.f a0).bind (fun r16=>(F82Lb_0_.f k r16 p2000).bind (fun r29=>some ((r29,0))))))
theorem F62f82x_1_.ok {a0 : S34} {p2000 : Int} {r : S34 × Int} (H : F62f82x_1_.f k a0 p2000 = some r) : SCA Tryz.prog 62 #[.agg (c34' a0 A0_0 c0_0 A0_1 c0_1 A0_2 c0_2 A0_3 c0_3).toArray,.func (.func 82) #[] #[.pointer (some ⟨b2000_,0,none⟩)]] [Ro k55 A0_0 c0_0 a0.f0.f2,rl' A0_1 c0_1 a0.f7,Ro k55 A0_2 c0_2 a0.f16.f2,rw' A0_3 c0_3 a0.f17,Blk b2000_ 3 [il' p2000]] (fun v B=>∃ A0_0_ c0_0_ A0_1_ c0_1_ A0_2_ c0_2_ A0_3_ c0_3_,v = .tuple #[.agg (c34' r.1 A0_0_ c0_0_ A0_1_ c0_1_ A0_2_ c0_2_ A0_3_ c0_3_).toArray,il' r.2]∧B = [Buf k55 55 A0_0_ c0_0_ r.1.f0.f2,bl' 3 A0_1_ c0_1_ r.1.f7,Buf k55 55 A0_2_ c0_2_ r.1.f16.f2,bw' 21 A0_3_ c0_3_ r.1.f17,Blk b2000_ 3 [il' p2000]]):=by
 refine SCA_of_body Tryz.func62 rfl rfl ?_
 unfold F62f82x_1_.f at H
 refine qr' ?_
 refine o' (bx' fun b6=>?_)
 refine o' (al' fun b8=>?_)
 refine s' (il' 0) as' ?_
 refine nq' ?_
 refine l' (lA' b6 0 5 (c34' a0 A0_0 c0_0 A0_1 c0_1 A0_2 c0_2 A0_3 c0_3)) ?_
 obtain⟨r10,C44,H⟩:=g_bind H
 refine o' (ca' [0,1,2,3] [0,1,2,3,4,5,6] (xf' [.agg (c34' a0 A0_0 c0_0 A0_1 c0_1 A0_2 c0_2 A0_3 c0_3).toArray]) (F16.ok (a0:=a0) C44) ?_)
 rintro _ _⟨rfl,rfl⟩
 refine s' (.bool (!r10)) (V_not rfl) ?_
 refine na' ?_
 by_cases h11 : (!r10) = true
 ·replace H:=g_ift h11 H
  refine SA_condTb rfl h11 ?_
  refine qr' ?_
  refine s' (.agg (c34' z34' none 0 none 0 none 0 none 0).toArray) bd' ?_
  refine o' (su' b8 0 6 (c34' z34' none 0 none 0 none 0 none 0) ?_)
  refine s' (il' 2) as' ?_
  refine ntt' ?_
  have h_:=oi' H;subst h_
  exact BQ_RL (rs:=[.cell 4 34,.tmp 5]) (vs:=[.agg (c34' z34' none 0 none 0 none 0 none 0).toArray,il' 2]) [Buf k55 55 none 0 ([] : (List S55)),bl' 3 none 0 ([] : (List Int)),Buf k55 55 none 0 ([] : (List S55)),bw' 21 none 0 ([] : (List Int)),Blk b2000_ 3 [il' p2000]] rfl ⟨RV.cell (k:=6) rfl rfl Tryz.underlying34 rfl sz34,RV.tmp rfl,trivial⟩ rfl ((Gh.nilBuf k55 55).trans ((Gh.nilBuf (Kd.int .i64) 3).trans ((Gh.nilBuf k55 55).trans ((Gh.nilBuf (Kd.int .i32) 21).trans (gs' [7,8,9,10,4]))))) ⟨none,0,none,0,none,0,none,0,rfl,rfl⟩
 replace H:=g_iff h11 H
 refine SA_condFb rfl h11 ?_
 refine SA_skip (at_normal (qr' ?_))
 refine l' (lA' b6 0 5 (c34' a0 A0_0 c0_0 A0_1 c0_1 A0_2 c0_2 A0_3 c0_3)) ?_
 obtain⟨r16,C43,H⟩:=g_bind H
 refine o' (ca' [0,1,2,3] [0,1,2,3,4,5,6] (xf' [.agg (c34' a0 A0_0 c0_0 A0_1 c0_1 A0_2 c0_2 A0_3 c0_3).toArray]) (F97.ok (a0:=a0) C43) ?_)
 rintro _ _⟨A17,c18,A20,c21,A23,c24,A26,c27,rfl,rfl⟩
 refine o' (su' b6 0 9 (c34' r16 A17 c18 A20 c21 A23 c24 A26 c27) ?_)
 refine nr' ?_
 refine s' (.func (.func 82) #[] #[pt' b2000_]) mv' ?_
 refine s' (.agg #[pt' b6]) bd' ?_
 obtain⟨r29,C42,H⟩:=g_bind H
 refine o' (ca' [9,0,1,2,3,8] [4,5,6,7,10] (X_fnV (vs:=[.agg #[pt' b6]]) (cap:=[pt' b2000_]) rfl Tryz.func82 nm82 rfl rfl) (F82Lb_0_.ok (b0_:=b6) (p0:=r16) (b1_:=b2000_) (p1:=p2000) C42) ?_)
 rintro _ _⟨A30,c31,A33,c34,A36,c37,A39,c40,rfl,rfl⟩
 refine nr' ?_
 refine l' (lA' b6 0 0 (c34' r29 A30 c31 A33 c34 A36 c37 A39 c40)) ?_
 refine o' (su' b8 0 10 (c34' r29 A30 c31 A33 c34 A36 c37 A39 c40) ?_)
 refine s' (il' 0) as' ?_
 refine nt' ?_
 have h_:=oi' H;subst h_
 exact b2' [.cell 4 34,.tmp 5] [1,2,3,4,5] ⟨A30,c31,A33,c34,A36,c37,A39,c40,rfl,rfl⟩ ⟨RV.cell (k:=10) rfl rfl Tryz.underlying34 rfl sz34,RV.tmp rfl,trivial⟩


def F32.f (k : Nat) (a0 : S34) (a1 : Int) : Option (S34 × Int):=(F62f82x_1_.f k a0 a1).bind (fun r11=>some ((r11.1,r11.2)))
theorem F32.ok {a0 : S34} {a1 : Int} {r : S34 × Int} (H : F32.f k a0 a1 = some r) : SCA Tryz.prog 32 #[.agg (c34' a0 A0_0 c0_0 A0_1 c0_1 A0_2 c0_2 A0_3 c0_3).toArray,il' a1] [Ro k55 A0_0 c0_0 a0.f0.f2,rl' A0_1 c0_1 a0.f7,Ro k55 A0_2 c0_2 a0.f16.f2,rw' A0_3 c0_3 a0.f17] (fun v B=>∃ A0_0_ c0_0_ A0_1_ c0_1_ A0_2_ c0_2_ A0_3_ c0_3_,v = .tuple #[.agg (c34' r.1 A0_0_ c0_0_ A0_1_ c0_1_ A0_2_ c0_2_ A0_3_ c0_3_).toArray,il' r.2]∧B = [Buf k55 55 A0_0_ c0_0_ r.1.f0.f2,bl' 3 A0_1_ c0_1_ r.1.f7,Buf k55 55 A0_2_ c0_2_ r.1.f16.f2,bw' 21 A0_3_ c0_3_ r.1.f17]):=by
 refine SCA_of_body Tryz.func32 rfl rfl ?_
 unfold F32.f at H
 refine qr' ?_
 refine o' (bx' fun b5=>?_)
 refine o' (bx' fun b7=>?_)
 refine o' (al' fun b9=>?_)
 refine s' (il' 0) as' ?_
 refine nr' ?_
 refine l' (lA' b5 0 4 (c34' a0 A0_0 c0_0 A0_1 c0_1 A0_2 c0_2 A0_3 c0_3)) ?_
 refine s' (.func (.func 82) #[] #[pt' b7]) (V_makeFuncL (us:=[pt' b7]) rfl) ?_
 obtain⟨r11,C24,H⟩:=g_bind H
 refine o' (ca' [0,1,2,3,5] [0,1,2,3,4,6] (xf' [.agg (c34' a0 A0_0 c0_0 A0_1 c0_1 A0_2 c0_2 A0_3 c0_3).toArray,.func (.func 82) #[] #[pt' b7]]) (F62f82x_1_.ok (a0:=a0) (b2000_:=b7) (p2000:=a1) C24) ?_)
 rintro _ _⟨A12,c13,A15,c16,A18,c19,A21,c22,rfl,rfl⟩
 refine s' (.agg (c34' r11.1 A12 c13 A15 c16 A18 c19 A21 c22).toArray) ex' ?_
 refine s' (il' r11.2) ex' ?_
 refine o' (su' b9 0 10 (c34' r11.1 A12 c13 A15 c16 A18 c19 A21 c22) ?_)
 refine s' (il' r11.2) as' ?_
 refine nt' ?_
 have h_:=oi' H;subst h_
 exact b2' [.cell 4 34,.tmp 5] [0,1,2,3] ⟨A12,c13,A15,c16,A18,c19,A21,c22,rfl,rfl⟩ ⟨RV.cell (k:=10) rfl rfl Tryz.underlying34 rfl sz34,RV.tmp rfl,trivial⟩


def F85Lb_0_.f (k : Nat) (p0 : S34) (a1 : Int) : Option (S34):=(F121Lb_0_.f p0).bind (fun r72=>if (0 ≤ r72.1∧0 ≤ r72.2∧r72.1 + r72.2 ≤ (p0.f0.f2.length : Int)) then ((F122w0.f k p0.f0.f2 r72.1 r72.2 p0.f2 a1 p0.f4).bind (fun r792=>if r792.length = p0.f0.f2.length then (some (({ p0 with f0:=(S26.mk p0.f0.f0 p0.f0.f1 r792),f3:=false }))) else none)) else none)
theorem F85Lb_0_.ok {p0 : S34} {a1 : Int} {r : S34} (H : F85Lb_0_.f k p0 a1 = some r) : SCA Tryz.prog 85 #[.agg #[.pointer (some ⟨b0_,0,none⟩)],il' a1] [Blk b0_ 34 (c34' p0 A0_0 c0_0 A0_1 c0_1 A0_2 c0_2 A0_3 c0_3),Buf k55 55 A0_0 c0_0 p0.f0.f2,bl' 3 A0_1 c0_1 p0.f7,Buf k55 55 A0_2 c0_2 p0.f16.f2,bw' 21 A0_3 c0_3 p0.f17] (fun v B=>∃ P0_0_ q0_0_ P0_1_ q0_1_ P0_2_ q0_2_ P0_3_ q0_3_,v = .tuple #[]∧B = [Blk b0_ 34 (c34' r P0_0_ q0_0_ P0_1_ q0_1_ P0_2_ q0_2_ P0_3_ q0_3_),Buf k55 55 P0_0_ q0_0_ r.f0.f2,bl' 3 P0_1_ q0_1_ r.f7,Buf k55 55 P0_2_ q0_2_ r.f16.f2,bw' 21 P0_3_ q0_3_ r.f17]):=by
 refine SCA_of_body Tryz.func85 rfl rfl ?_
 unfold F85Lb_0_.f at H
 refine qr' ?_
 refine o' (bx' fun b6=>?_)
 refine na' (SA_seq ?_)
 refine fc' 1 fun hc8=>?_
 refine fc' 2 fun hc9=>?_
 refine fc' 3 fun hc10=>?_
 refine fc' 4 fun hc11=>?_
 refine SA_drawMq [0,2,3,4,5,6,7,8,9,10,11,12] (List.toArray ([]::[0]::[]::[2]::[2,3]::[2,3,4]::(rg' 2 4)::[]::[]::[8]::[8,9]::[8,9,10]::(rg' 8 4)::[0,2,3,4,5,6,7,8,9,10,11,12]::[])) [Blk b0_ 34 (c34' p0 A0_0 c0_0 A0_1 c0_1 A0_2 c0_2 A0_3 c0_3),Blk b6 84 [pt' b0_]] mixed (PanOk.thn PanOk.body) fun I0 hh0 w0 pk=>?_
 refine mr' 0 [0,5] rfl (lA' b6 0 1 [pt' b0_]) ?_
 refine mt' (pt' b6) 2 [0,5] rfl (fa' b6 0 0) ?_
 refine mr' 3 [0,5] rfl (ld' b6 0 1) ?_
 refine mt' (pt' b0_) 4 [0,5] rfl nc' ?_
 refine mt' (pa' b0_ 4) 5 [0,5] rfl (fa' b0_ 0 4) ?_
 refine mr' 6 [0,5] rfl (ld' b0_ 4 0) ?_
 refine mt' (il' a1) 7 [0,5] rfl mv' ?_
 refine mt' (pt' b6) 8 [0,5] rfl (fa' b6 0 0) ?_
 refine mr' 9 [0,5] rfl (ld' b6 0 1) ?_
 refine mt' (pt' b0_) 10 [0,5] rfl nc' ?_
 refine mt' (pa' b0_ 6) 11 [0,5] rfl (fa' b0_ 0 6) ?_
 refine mr' 12 [0,5] rfl (lA' b0_ 6 0 (c28' p0.f4)) ?_
 obtain⟨r72,C77,H⟩:=g_bind H
 obtain⟨⟨hl76a,hl76b,hl76c⟩,H⟩:=g_pos H
 refine DM_one 1 (by kernel_rfl) rfl (.no rfl) (ca' [0,1,2,3,4] [5] (xf' [.agg #[pt' b0_]]) (F121Lb_0_.ok (b0_:=b0_) (p0:=p0) C77) ?_)
 rintro _ _⟨V73,v74,hW75,rfl,rfl⟩
 refine ⟨fun _=>⟨[0,5],rfl,rfl⟩,?_⟩
 obtain⟨r792,C794,H⟩:=g_bind H
 obtain⟨hl793,H⟩:=g_pos H
 refine DM_one 13 (by kernel_rfl) rfl (.no rfl) (ca' [1] [0,2,3,4,5] (xf' [.slice V73 r72.2.toNat v74,il' p0.f2,il' a1,.agg (c28' p0.f4).toArray]) (F122w0.ok (l0:=p0.f0.f2) (o0:=r72.1) (n0:=r72.2) (A0:=A0_0) (c0:=c0_0) (V0:=V73) (v0:=v74) (hw0:=hW75) (a1:=p0.f2) (a2:=a1) (a3:=p0.f4) C794) ?_)
 rintro _ _⟨rfl,rfl⟩
 try unfold c34'
 try rewrite [← hl793]
 refine ⟨fun h_=>absurd h_ (by decide),?_⟩
 refine DN_done (by kernel_rfl) ?_
 refine at_normal (SA_region ?_)
 refine s' (pt' b6) (fa' b6 0 0) ?_
 refine l' (ld' b6 0 5) ?_
 refine s' (pt' b0_) nc' ?_
 refine s' (pa' b0_ 5) (fa' b0_ 0 5) ?_
 refine o' (st' b0_ 5 1 [.bool false] (c34' ({ p0 with f0:=(S26.mk p0.f0.f0 p0.f0.f1 r792),f3:=false }) A0_0 c0_0 A0_1 c0_1 A0_2 c0_2 A0_3 c0_3) ?_)
 refine RA_nil ?_
 have h_:=oi' H;subst h_
 exact bn' [1,0,2,3,4] ⟨A0_0,c0_0,A0_1,c0_1,A0_2,c0_2,A0_3,c0_3,rfl,rfl⟩


def F84Lb_0_.f (k : Nat) (p0 : S34) (p1 : Int) : Option (S34):=(F85Lb_0_.f k p0 p1).bind (fun r13=>some (r13))
theorem F84Lb_0_.ok {p0 : S34} {p1 : Int} {r : S34} (H : F84Lb_0_.f k p0 p1 = some r) : SCA Tryz.prog 84 #[.agg #[.pointer (some ⟨b0_,0,none⟩)],.pointer (some ⟨b1_,0,none⟩)] [Blk b0_ 34 (c34' p0 A0_0 c0_0 A0_1 c0_1 A0_2 c0_2 A0_3 c0_3),Buf k55 55 A0_0 c0_0 p0.f0.f2,bl' 3 A0_1 c0_1 p0.f7,Buf k55 55 A0_2 c0_2 p0.f16.f2,bw' 21 A0_3 c0_3 p0.f17,Blk b1_ 3 [il' p1]] (fun v B=>∃ P0_0_ q0_0_ P0_1_ q0_1_ P0_2_ q0_2_ P0_3_ q0_3_,v = .tuple #[]∧B = [Blk b0_ 34 (c34' r P0_0_ q0_0_ P0_1_ q0_1_ P0_2_ q0_2_ P0_3_ q0_3_),Buf k55 55 P0_0_ q0_0_ r.f0.f2,bl' 3 P0_1_ q0_1_ r.f7,Buf k55 55 P0_2_ q0_2_ r.f16.f2,bw' 21 P0_3_ q0_3_ r.f17,Blk b1_ 3 [il' p1]]):=by
 refine SCA_of_body Tryz.func84 rfl rfl ?_
 unfold F84Lb_0_.f at H
 refine qr' ?_
 refine o' (bx' fun b7=>?_)
 refine na' ?_
 refine fc' 1 fun hc9=>?_
 refine fc' 2 fun hc10=>?_
 refine fc' 3 fun hc11=>?_
 refine fc' 4 fun hc12=>?_
 refine SA_region ?_
 refine l' (lA' b7 0 6 [pt' b0_]) ?_
 refine l' (ld' b1_ 0 5) ?_
 obtain⟨r13,C26,H⟩:=g_bind H
 refine o' (ca' [0,1,2,3,4] [5,6] (xf' [.agg #[pt' b0_],il' p1]) (F85Lb_0_.ok (b0_:=b0_) (p0:=p0) (a1:=p1) C26) ?_)
 rintro _ _⟨A14,c15,A17,c18,A20,c21,A23,c24,rfl,rfl⟩
 refine RA_nil ?_
 have h_:=oi' H;subst h_
 exact bn' [0,1,2,3,4,5] ⟨A14,c15,A17,c18,A20,c21,A23,c24,rfl,rfl⟩


def F62f84x_1_.f (k : Nat) (a0 : S34) (p2000 : Int) : Option (S34 × Int):=(F16b0.f k a0).bind (fun r10=>if (!r10) = true then (some (((S34.mk (S26.mk 0 0 ([] : (List S55))) 0 0 false (S28.mk 0 0 false false false false false false false false) 0 0 ([] : (List Int)) false false false false false false (S31.mk 0 0 false false (S28.mk 0 0 false false false false false false false false)) false (S26.mk 0 0 ([] : (List S55))) ([] : (List Int))),2))) else ((F97.f a0).bind (fun r16=>(F84Lb_0_.f k r16 p2000).bind (fun r29=>some ((r29,0))))))
theorem F62f84x_1_.ok {a0 : S34} {p2000 : Int} {r : S34 × Int} (H : F62f84x_1_.f k a0 p2000 = some r) : SCA Tryz.prog 62 #[.agg (c34' a0 A0_0 c0_0 A0_1 c0_1 A0_2 c0_2 A0_3 c0_3).toArray,.func (.func 84) #[] #[.pointer (some ⟨b2000_,0,none⟩)]] [Ro k55 A0_0 c0_0 a0.f0.f2,rl' A0_1 c0_1 a0.f7,Ro k55 A0_2 c0_2 a0.f16.f2,rw' A0_3 c0_3 a0.f17,Blk b2000_ 3 [il' p2000]] (fun v B=>∃ A0_0_ c0_0_ A0_1_ c0_1_ A0_2_ c0_2_ A0_3_ c0_3_,v = .tuple #[.agg (c34' r.1 A0_0_ c0_0_ A0_1_ c0_1_ A0_2_ c0_2_ A0_3_ c0_3_).toArray,il' r.2]∧B = [Buf k55 55 A0_0_ c0_0_ r.1.f0.f2,bl' 3 A0_1_ c0_1_ r.1.f7,Buf k55 55 A0_2_ c0_2_ r.1.f16.f2,bw' 21 A0_3_ c0_3_ r.1.f17,Blk b2000_ 3 [il' p2000]]):=by
 refine SCA_of_body Tryz.func62 rfl rfl ?_
 unfold F62f84x_1_.f at H
 refine qr' ?_
 refine o' (bx' fun b6=>?_)
 refine o' (al' fun b8=>?_)
 refine s' (il' 0) as' ?_
 refine nq' ?_
 refine l' (lA' b6 0 5 (c34' a0 A0_0 c0_0 A0_1 c0_1 A0_2 c0_2 A0_3 c0_3)) ?_
 obtain⟨r10,C44,H⟩:=g_bind H
 refine o' (ca' [0,1,2,3] [0,1,2,3,4,5,6] (xf' [.agg (c34' a0 A0_0 c0_0 A0_1 c0_1 A0_2 c0_2 A0_3 c0_3).toArray]) (F16.ok (a0:=a0) C44) ?_)
 rintro _ _⟨rfl,rfl⟩
 refine s' (.bool (!r10)) (V_not rfl) ?_
 refine na' ?_
 by_cases h11 : (!r10) = true
 ·replace H:=g_ift h11 H
  refine SA_condTb rfl h11 ?_
  refine qr' ?_
  refine s' (.agg (c34' z34' none 0 none 0 none 0 none 0).toArray) bd' ?_
  refine o' (su' b8 0 6 (c34' z34' none 0 none 0 none 0 none 0) ?_)
  refine s' (il' 2) as' ?_
  refine ntt' ?_
  have h_:=oi' H;subst h_
  exact BQ_RL (rs:=[.cell 4 34,.tmp 5]) (vs:=[.agg (c34' z34' none 0 none 0 none 0 none 0).toArray,il' 2]) [Buf k55 55 none 0 ([] : (List S55)),bl' 3 none 0 ([] : (List Int)),Buf k55 55 none 0 ([] : (List S55)),bw' 21 none 0 ([] : (List Int)),Blk b2000_ 3 [il' p2000]] rfl ⟨RV.cell (k:=6) rfl rfl Tryz.underlying34 rfl sz34,RV.tmp rfl,trivial⟩ rfl ((Gh.nilBuf k55 55).trans ((Gh.nilBuf (Kd.int .i64) 3).trans ((Gh.nilBuf k55 55).trans ((Gh.nilBuf (Kd.int .i32) 21).trans (gs' [7,8,9,10,4]))))) ⟨none,0,none,0,none,0,none,0,rfl,rfl⟩
 replace H:=g_iff h11 H
 refine SA_condFb rfl h11 ?_
 refine SA_skip (at_normal (qr' ?_))
 refine l' (lA' b6 0 5 (c34' a0 A0_0 c0_0 A0_1 c0_1 A0_2 c0_2 A0_3 c0_3)) ?_
 obtain⟨r16,C43,H⟩:=g_bind H
 refine o' (ca' [0,1,2,3] [0,1,2,3,4,5,6] (xf' [.agg (c34' a0 A0_0 c0_0 A0_1 c0_1 A0_2 c0_2 A0_3 c0_3).toArray]) (F97.ok (a0:=a0) C43) ?_)
 rintro _ _⟨A17,c18,A20,c21,A23,c24,A26,c27,rfl,rfl⟩
 refine o' (su' b6 0 9 (c34' r16 A17 c18 A20 c21 A23 c24 A26 c27) ?_)
 refine nr' ?_
 refine s' (.func (.func 84) #[] #[pt' b2000_]) mv' ?_
 refine s' (.agg #[pt' b6]) bd' ?_
 obtain⟨r29,C42,H⟩:=g_bind H
 refine o' (ca' [9,0,1,2,3,8] [4,5,6,7,10] (X_fnV (vs:=[.agg #[pt' b6]]) (cap:=[pt' b2000_]) rfl Tryz.func84 nm84 rfl rfl) (F84Lb_0_.ok (b0_:=b6) (p0:=r16) (b1_:=b2000_) (p1:=p2000) C42) ?_)
 rintro _ _⟨A30,c31,A33,c34,A36,c37,A39,c40,rfl,rfl⟩
 refine nr' ?_
 refine l' (lA' b6 0 0 (c34' r29 A30 c31 A33 c34 A36 c37 A39 c40)) ?_
 refine o' (su' b8 0 10 (c34' r29 A30 c31 A33 c34 A36 c37 A39 c40) ?_)
 refine s' (il' 0) as' ?_
 refine nt' ?_
 have h_:=oi' H;subst h_
 exact b2' [.cell 4 34,.tmp 5] [1,2,3,4,5] ⟨A30,c31,A33,c34,A36,c37,A39,c40,rfl,rfl⟩ ⟨RV.cell (k:=10) rfl rfl Tryz.underlying34 rfl sz34,RV.tmp rfl,trivial⟩

end Go.Proofs.YtckilbegmbaeeaaGreat.Z5

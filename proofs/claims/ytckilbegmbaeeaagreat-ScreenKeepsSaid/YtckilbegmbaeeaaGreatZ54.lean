/- What functions compute, and that they do: 119Lb_0_, 120Lb_0_, 122w0, 123w0b2, 124, 136w0, 152, 157w3. -/
import Derived.Test.YtckilbegmbaeeaaGreatZ50
import Derived.Test.YtckilbegmbaeeaaGreatZ51
import Derived.Test.YtckilbegmbaeeaaGreatZ52
import Derived.Test.YtckilbegmbaeeaaGreatZ53
namespace Go.Proofs.YtckilbegmbaeeaaGreat.Z5
open Go Go.RowKit Go.Proofs.YtckilbegmbaeeaaGreat.SL
set_option linter.unusedVariables false
set_option maxHeartbeats 20000000
set_option maxRecDepth 100000
set_option linter.unusedSimpArgs false
attribute [local irreducible] IntKind.wrap minI maxI shrI shlI andI orI xorI andNotI cplI rd sub bytesOf strOf slA
variable {b0_ b3_ c0_0 c0_1 c0_2 c0_3 k : Nat}
variable {A0_0 A0_1 A0_2 A0_3 : Option Addr}
def F119Lb_0_.f (k : Nat) (p0 : S34) : Option (S34):=if p0.f1 = p0.f6 then ((F131i34m0b_0_.f k p0 p0.f5 p0.f6 1 p0.f4).bind (fun r1874=>some (r1874))) else (if p0.f1 < (IntKind.i64.wrap (p0.f0.f1 - 1)) then (some (({ p0 with f1:=(IntKind.i64.wrap (p0.f1 + 1)) }))) else (some (p0)))
theorem F119Lb_0_.ok {p0 : S34} {r : S34} (H : F119Lb_0_.f k p0 = some r) : SCA Tryz.prog 119 #[.agg #[.pointer (some ⟨b0_,0,none⟩)]] [Blk b0_ 34 (c34' p0 A0_0 c0_0 A0_1 c0_1 A0_2 c0_2 A0_3 c0_3),Buf k55 55 A0_0 c0_0 p0.f0.f2,bl' 3 A0_1 c0_1 p0.f7,Buf k55 55 A0_2 c0_2 p0.f16.f2,bw' 21 A0_3 c0_3 p0.f17] (fun v B=>∃ P0_0_ q0_0_ P0_1_ q0_1_ P0_2_ q0_2_ P0_3_ q0_3_,v = .tuple #[]∧B = [Blk b0_ 34 (c34' r P0_0_ q0_0_ P0_1_ q0_1_ P0_2_ q0_2_ P0_3_ q0_3_),Buf k55 55 P0_0_ q0_0_ r.f0.f2,bl' 3 P0_1_ q0_1_ r.f7,Buf k55 55 P0_2_ q0_2_ r.f16.f2,bw' 21 P0_3_ q0_3_ r.f17]):=by
 refine SCA_of_body Tryz.func119 rfl rfl ?_
 unfold F119Lb_0_.f at H
 refine qr' ?_
 refine o' (bx' fun b6=>?_)
 refine na' (SA_block (SA_seq ?_))
 refine SA_drawHq (rg' 0 12) #[[],[0],[0,1],[0,1,2],(rg' 0 4),[],[5],[5,6],[5,6,7],(rg' 5 4),(rg' 0 10),(rg' 0 11)] [0,5] (rg' 1 4) mixed rfl rfl rfl (PanOk.thn (PanOk.inb PanOk.body)) fun I0 hS h0 hh0 w0 sH dd pk=>?_
 refine t' (pt' b6) 0 rfl sH (fa' b6 0 0) ?_
 refine r' 1 rfl sH (ld' b6 0 1) ?_
 refine t' (pt' b0_) 2 rfl sH nc' ?_
 refine t' (pa' b0_ 3) 3 rfl sH (fa' b0_ 0 3) ?_
 refine r' 4 rfl sH (ld' b0_ 3 0) ?_
 refine t' (pt' b6) 5 rfl sH (fa' b6 0 0) ?_
 refine r' 6 rfl sH (ld' b6 0 1) ?_
 refine t' (pt' b0_) 7 rfl sH nc' ?_
 refine t' (pa' b0_ 17) 8 rfl sH (fa' b0_ 0 17) ?_
 refine r' 9 rfl sH (ld' b0_ 17 0) ?_
 refine t' (.bool (decide (p0.f1 = p0.f6))) 10 rfl sH (V_eql rfl rfl) ?_
 refine t' (.bool (decide (p0.f1 = p0.f6))) 11 rfl sH as' ?_
 refine DH_open dd sH ?_
 refine DN_done (by kernel_rfl) ?_
 refine at_normal ?_
 by_cases h729 : p0.f1 = p0.f6
 ·replace H:=g_ift h729 H
  refine SA_condT rfl h729 ?_
  refine fc' 2 fun hc730=>?_
  refine fc' 3 fun hc731=>?_
  refine fc' 4 fun hc732=>?_
  refine fc' 5 fun hc733=>?_
  refine SA_drawHq (rg' 0 19) (List.toArray ([]::[0]::[0,1]::[0,1,2]::[]::[4]::[4,5]::[4,5,6]::(rg' 4 4)::[]::[9]::[9,10]::[9,10,11]::(rg' 9 4)::[]::[14]::[14,15]::[14,15,16]::(rg' 14 4)::(rg' 0 19)::[])) [0,1] (rg' 2 4) mixed rfl rfl rfl (PanOk.inb PanOk.body) fun I0 hS h0 hh0 w0 sH dd pk=>?_
  refine t' (pt' b6) 0 rfl sH (fa' b6 0 0) ?_
  refine r' 1 rfl sH (ld' b6 0 1) ?_
  refine t' (pt' b0_) 2 rfl sH nc' ?_
  refine t' (pt' b0_) 3 rfl sH (fa' b0_ 0 0) ?_
  refine t' (pt' b6) 4 rfl sH (fa' b6 0 0) ?_
  refine r' 5 rfl sH (ld' b6 0 1) ?_
  refine t' (pt' b0_) 6 rfl sH nc' ?_
  refine t' (pa' b0_ 16) 7 rfl sH (fa' b0_ 0 16) ?_
  refine r' 8 rfl sH (ld' b0_ 16 0) ?_
  refine t' (pt' b6) 9 rfl sH (fa' b6 0 0) ?_
  refine r' 10 rfl sH (ld' b6 0 1) ?_
  refine t' (pt' b0_) 11 rfl sH nc' ?_
  refine t' (pa' b0_ 17) 12 rfl sH (fa' b0_ 0 17) ?_
  refine r' 13 rfl sH (ld' b0_ 17 0) ?_
  refine t' (pt' b6) 14 rfl sH (fa' b6 0 0) ?_
  refine r' 15 rfl sH (ld' b6 0 1) ?_
  refine t' (pt' b0_) 16 rfl sH nc' ?_
  refine t' (pa' b0_ 6) 17 rfl sH (fa' b0_ 0 6) ?_
  refine r' 18 rfl sH (lA' b0_ 6 0 (c28' p0.f4)) ?_
  refine DH_open dd sH ?_
  obtain⟨r1874,C1887,H⟩:=g_bind H
  refine DN_one 19 (by kernel_rfl) rfl rfl (.no rfl) (ca' [0,2,3,4,5] [1] (xf' [pt' b0_,il' p0.f5,il' p0.f6,il' 1,.agg (c28' p0.f4).toArray]) (F131i34m0b_0_.ok (b0_:=b0_) (p0:=p0) (a1:=p0.f5) (a2:=p0.f6) (a3:=1) (a4:=p0.f4) C1887) ?_)
  rintro _ _⟨A1875,c1876,A1878,c1879,A1881,c1882,A1884,c1885,rfl,rfl⟩
  refine DN_done (by kernel_rfl) ?_
  refine inb_normal ?_
  have h_:=oi' H;subst h_
  exact bn' [0,1,2,3,4] ⟨A1875,c1876,A1878,c1879,A1881,c1882,A1884,c1885,rfl,rfl⟩
 replace H:=g_iff h729 H
 refine SA_condF rfl h729 ?_
 refine SA_seq ?_
 refine SA_drawHq (rg' 0 14) (List.toArray ([]::[0]::[0,1]::[0,1,2]::(rg' 0 4)::[]::[5]::[5,6]::[5,6,7]::(rg' 5 4)::(rg' 5 5)::(rg' 5 6)::(rg' 0 12)::(rg' 0 13)::[])) [0,1] (rg' 2 4) mixed rfl rfl rfl (PanOk.thn (PanOk.inb PanOk.body)) fun I0 hS h0 hh0 w0 sH dd pk=>?_
 refine t' (pt' b6) 0 rfl sH (fa' b6 0 0) ?_
 refine r' 1 rfl sH (ld' b6 0 1) ?_
 refine t' (pt' b0_) 2 rfl sH nc' ?_
 refine t' (pa' b0_ 3) 3 rfl sH (fa' b0_ 0 3) ?_
 refine r' 4 rfl sH (ld' b0_ 3 0) ?_
 refine t' (pt' b6) 5 rfl sH (fa' b6 0 0) ?_
 refine r' 6 rfl sH (ld' b6 0 1) ?_
 refine t' (pt' b0_) 7 rfl sH nc' ?_
 refine t' (pt' b0_) 8 rfl sH (fa' b0_ 0 0) ?_
 refine t' (pa' b0_ 1) 9 rfl sH (fa' b0_ 0 1) ?_
 refine r' 10 rfl sH (ld' b0_ 1 0) ?_
 refine t' (il' (IntKind.i64.wrap (p0.f0.f1 - 1))) 11 rfl sH (V_sub rfl rfl) ?_
 refine t' (.bool (decide (p0.f1 < (IntKind.i64.wrap (p0.f0.f1 - 1))))) 12 rfl sH (V_lss rfl rfl) ?_
 refine t' (.bool (decide (p0.f1 < (IntKind.i64.wrap (p0.f0.f1 - 1))))) 13 rfl sH as' ?_
 refine DH_open dd sH ?_
 refine DN_done (by kernel_rfl) ?_
 refine at_normal ?_
 refine SA.of_St (l:=[(1,pt' b6),(34,.bool (decide (p0.f1 < (IntKind.i64.wrap (p0.f0.f1 - 1)))))]) (B:=[Blk b0_ 34 (c34' p0 A0_0 c0_0 A0_1 c0_1 A0_2 c0_2 A0_3 c0_3),Buf k55 55 A0_0 c0_0 p0.f0.f2,bl' 3 A0_1 c0_1 p0.f7,Buf k55 55 A0_2 c0_2 p0.f16.f2,bw' 21 A0_3 c0_3 p0.f17,Blk b6 84 [pt' b0_]]) (St.mk1 (aeq rfl (aeq rfl aeq0)) (Gh.sel [0,2,3,4,5,1] (by kernel_rfl) (by kernel_rfl))) fun junk=>?_
 by_cases h2776 : p0.f1 < (IntKind.i64.wrap (p0.f0.f1 - 1))
 ·replace H:=g_ift h2776 H
  refine SA_condT rfl h2776 ?_
  refine SA_region ?_
  refine s' (pt' b6) (fa' b6 0 0) ?_
  refine l' (ld' b6 0 5) ?_
  refine s' (pt' b0_) nc' ?_
  refine s' (pa' b0_ 3) (fa' b0_ 0 3) ?_
  refine l' (ld' b0_ 3 0) ?_
  refine s' (il' (IntKind.i64.wrap (p0.f1 + 1))) (V_add rfl rfl) ?_
  refine s' (pt' b0_) nc' ?_
  refine s' (pa' b0_ 3) (fa' b0_ 0 3) ?_
  refine o' (st' b0_ 3 0 [il' (IntKind.i64.wrap (p0.f1 + 1))] (c34' ({ p0 with f1:=(IntKind.i64.wrap (p0.f1 + 1)) }) A0_0 c0_0 A0_1 c0_1 A0_2 c0_2 A0_3 c0_3) ?_)
  refine RA_nil (inb_normal ?_)
  have h_:=oi' H;subst h_
  exact bn' [0,1,2,3,4] ⟨A0_0,c0_0,A0_1,c0_1,A0_2,c0_2,A0_3,c0_3,rfl,rfl⟩
 replace H:=g_iff h2776 H
 refine SA_condF rfl h2776 ?_
 refine SA_skip (inb_normal ?_)
 have h_:=oi' H;subst h_
 exact bn' [0,1,2,3,4] ⟨A0_0,c0_0,A0_1,c0_1,A0_2,c0_2,A0_3,c0_3,rfl,rfl⟩


def F120Lb_0_.f (p0 : S34) : Option (Int):=lt (IntKind.i64.wrap (p0.f0.f0 - 1)) fun n8=>some (n8)
theorem F120Lb_0_.ok {p0 : S34} {r : Int} (H : F120Lb_0_.f p0 = some r) : SCA Tryz.prog 120 #[.agg #[.pointer (some ⟨b0_,0,none⟩)]] [Blk b0_ 34 (c34' p0 A0_0 c0_0 A0_1 c0_1 A0_2 c0_2 A0_3 c0_3),Buf k55 55 A0_0 c0_0 p0.f0.f2,bl' 3 A0_1 c0_1 p0.f7,Buf k55 55 A0_2 c0_2 p0.f16.f2,bw' 21 A0_3 c0_3 p0.f17] (fun v B=>v = il' r∧B = [Blk b0_ 34 (c34' p0 A0_0 c0_0 A0_1 c0_1 A0_2 c0_2 A0_3 c0_3),Buf k55 55 A0_0 c0_0 p0.f0.f2,bl' 3 A0_1 c0_1 p0.f7,Buf k55 55 A0_2 c0_2 p0.f16.f2,bw' 21 A0_3 c0_3 p0.f17]):=by
 refine SCA_of_body Tryz.func120 rfl rfl ?_
 unfold F120Lb_0_.f at H
 refine qr' ?_
 refine o' (bx' fun b6=>?_)
 refine s' (il' 0) as' ?_
 refine nr' ?_
 refine s' (pt' b6) (fa' b6 0 0) ?_
 refine l' (ld' b6 0 5) ?_
 refine s' (pt' b0_) nc' ?_
 refine s' (pt' b0_) (fa' b0_ 0 0) ?_
 refine s' (pt' b0_) (fa' b0_ 0 0) ?_
 refine l' (ld' b0_ 0 0) ?_
 refine s' (il' (IntKind.i64.wrap (p0.f0.f0 - 1))) (V_sub rfl rfl) ?_
 obtain⟨n8,hn8,H⟩:=g_lt H
 refine s' (il' n8) (V_assign (v:=il' n8) (congrArg (Value.int .i64) hn8.symm)) ?_
 refine nt' ?_
 have h_:=oi' H;subst h_
 exact b1' [0,1,2,3,4] ⟨rfl,rfl⟩


def F157w3.f (a0 : Int) (a1 : Int) (a2 : S28) (p3 : (List S55)) (o3 : Int) (n3 : Int) : Option (Bool):=if 0 ≤ o3∧0 ≤ n3∧o3 + n3 ≤ (p3.length : Int) then (if a0 ≥ 0 then (if a0 < n3 then (if 0 ≤ a0∧a0 < n3 then (if ((rd p3 (o3 + a0)).f2) = a1 then (if 0 ≤ a0∧a0 < n3 then (some (decide (((rd p3 (o3 + a0)).f3) = a2))) else none) else (some (false))) else none) else (some (false))) else (some (false))) else none
theorem F157w3.ok {a0 : Int} {a1 : Int} {a2 : S28} {p3 : (List S55)} {o3 : Int} {n3 : Int} {A3 V3 : Option Addr} {c3 v3 : Nat} (hw3 : Win A3 V3 15 o3 n3 v3) {r : Bool} (H : F157w3.f a0 a1 a2 p3 o3 n3 = some r) : SCA Tryz.prog 157 #[il' a0,.int .u8 a1,.agg (c28' a2).toArray,.pointer (some ⟨b3_,0,none⟩)] [Blk b3_ 116 [.slice V3 n3.toNat v3],Buf k55 55 A3 c3 p3] (fun v B=>v = .bool r∧B = [Blk b3_ 116 [.slice V3 n3.toNat v3],Buf k55 55 A3 c3 p3]):=by
 refine SCA_of_body Tryz.func157 rfl rfl ?_
 unfold F157w3.f at H
 obtain⟨⟨g1629,g1630,g1631⟩,H⟩:=g_pos H
 have hcv_hw3:=hw3.cap
 refine qr' ?_
 refine o' (bx' fun b3=>?_)
 refine s' (.bool false) as' ?_
 refine na' (SA_seq ?_)
 refine SA_drawHq (rg' 0 27) (List.toArray ([]::[0]::[0,1]::[0,1,2]::[0,1,2]::[0,1,2,4]::(rg' 0 6)::(rg' 0 7)::(rg' 0 8)::(rg' 0 9)::(rg' 0 9)::(rg' 0 11)::(rg' 0 12)::(rg' 0 13)::(rg' 0 9)::(rg' 0 15)::(rg' 0 16)::(rg' 0 17)::(rg' 0 18)::(rg' 0 18)::(rg' 0 20)::(rg' 0 21)::(rg' 0 22)::(rg' 0 18)::(rg' 0 24)::(rg' 0 25)::(rg' 0 26)::[])) [0,1,2] [] mixed rfl rfl rfl (PanOk.thn PanOk.body) fun I0 hS h0 hh0 w0 sH dd pk=>?_
 refine t' (il' a0) 0 rfl sH mv' ?_
 refine t' (.bool (decide (a0 ≥ 0))) 1 rfl sH (V_geq rfl rfl) ?_
 refine t' (.bool (decide (a0 ≥ 0))) 2 rfl sH mv' ?_
 by_cases h1626 : a0 ≥ 0
 ·replace H:=g_ift h1626 H
  refine ty' (il' a0) 3 rfl (dec_t h1626) sH mv' ?_
  refine ry' 4 rfl (dec_t h1626) sH (ld' b3_ 0 0) ?_
  refine ty' (il' n3) 5 rfl (dec_t h1626) sH (V_lenW hw3 Tryz.underlying116 rfl) ?_
  refine ty' (.bool (decide (a0 < n3))) 6 rfl (dec_t h1626) sH (V_lss rfl rfl) ?_
  refine r' 7 rfl sH (VR.ofV (V_pickT rfl (dec_t h1626) rfl)) ?_
  refine t' (.bool (decide (a0 < n3))) 8 rfl sH mv' ?_
  by_cases h1627 : a0 < n3
  ·replace H:=g_ift h1627 H
   refine ry' 9 rfl (dec_t h1627) sH (ld' b3_ 0 0) ?_
   refine ty' (il' a0) 10 rfl (dec_t h1627) sH mv' ?_
   obtain⟨⟨g665,g666⟩,H⟩:=g_pos H
   have g667 : 0 ≤ o3 + a0:=by omega
   have g668 : o3 + a0 < (p3.length : Int):=by omega
   refine ry' 11 rfl (dec_t h1627) sH (VR_indexW (l:=o3) (m:=n3) (i:=a0) (sz:=15) hw3 Tryz.underlying116 sz55 rfl rfl (Src.buf (k:=1) rfl) g665 g666 (by omega)) ?_
   refine ty' (.pointer (some ((el A3 ((o3 + a0).toNat * 15)).add 4))) 12 rfl (dec_t h1627) sH (fB' (el A3 ((o3 + a0).toNat * 15)) 0 4) ?_
   refine ry' 13 rfl (dec_t h1627) sH (VR_load_el (enc:=enc55) (i:=o3 + a0) (j:=(o3 + a0).toNat * 15) (m:=4) (sz:=15) Tryz.underlying5 rfl rfl rfl rfl (Src.buf (k:=1) rfl) g667 g668 (fun _ _ h=>h) rfl) ?_
   refine ty' (.int .u8 a1) 14 rfl (dec_t h1627) sH mv' ?_
   refine ty' (.bool (decide (((rd p3 (o3 + a0)).f2) = a1))) 15 rfl (dec_t h1627) sH (V_eql rfl rfl) ?_
   refine r' 16 rfl sH (VR.ofV (V_pickT rfl (dec_t h1627) rfl)) ?_
   refine t' (.bool (decide (((rd p3 (o3 + a0)).f2) = a1))) 17 rfl sH mv' ?_
   by_cases h1628 : ((rd p3 (o3 + a0)).f2) = a1
   ·replace H:=g_ift h1628 H
    refine ry' 18 rfl (dec_t h1628) sH (ld' b3_ 0 0) ?_
    refine ty' (il' a0) 19 rfl (dec_t h1628) sH mv' ?_
    obtain⟨⟨g1205,g1206⟩,H⟩:=g_pos H
    have g1207 : 0 ≤ o3 + a0:=by omega
    have g1208 : o3 + a0 < (p3.length : Int):=by omega
    refine ry' 20 rfl (dec_t h1628) sH (VR_indexW (l:=o3) (m:=n3) (i:=a0) (sz:=15) hw3 Tryz.underlying116 sz55 rfl rfl (Src.buf (k:=1) rfl) g1205 g1206 (by omega)) ?_
    refine ty' (.pointer (some ((el A3 ((o3 + a0).toNat * 15)).add 5))) 21 rfl (dec_t h1628) sH (fB' (el A3 ((o3 + a0).toNat * 15)) 0 5) ?_
    refine ry' 22 rfl (dec_t h1628) sH (VR_loadA_el (enc:=enc55) (i:=o3 + a0) (j:=(o3 + a0).toNat * 15) (m:=5) (sz:=15) (vs:=(c28' ((rd p3 (o3 + a0)).f3))) Tryz.underlying28 rfl sz28 rfl rfl rfl (Src.buf (k:=1) rfl) g1207 g1208 (fun _ _ h=>h) rfl) ?_
    refine ry' 23 rfl (dec_t h1628) sH (lA' b3 0 2 (c28' a2)) ?_
    refine ty' (.bool (decide (((rd p3 (o3 + a0)).f3) = a2))) 24 rfl (dec_t h1628) sH (V_eqlD (xs:=(c28' ((rd p3 (o3 + a0)).f3))) (ys:=(c28' a2)) (r:=(((((rd p3 (o3 + a0)).f3).f0) == a2.f0) && (((((rd p3 (o3 + a0)).f3).f1) == a2.f1) && (((((rd p3 (o3 + a0)).f3).f2) == a2.f2) && (((((rd p3 (o3 + a0)).f3).f3) == a2.f3) && (((((rd p3 (o3 + a0)).f3).f4) == a2.f4) && (((((rd p3 (o3 + a0)).f3).f5) == a2.f5) && (((((rd p3 (o3 + a0)).f3).f6) == a2.f6) && (((((rd p3 (o3 + a0)).f3).f7) == a2.f7) && (((((rd p3 (o3 + a0)).f3).f8) == a2.f8) && (((((rd p3 (o3 + a0)).f3).f9) == a2.f9) && true))))))))))) (p:=((rd p3 (o3 + a0)).f3) = a2) eqg28 rfl rfl (by kernel_rfl) (eqv28 (x:=((rd p3 (o3 + a0)).f3)) (y:=a2))) ?_
    refine r' 25 rfl sH (VR.ofV (V_pickT rfl (dec_t h1628) rfl)) ?_
    refine t' (.bool (decide (((rd p3 (o3 + a0)).f3) = a2))) 26 rfl sH as' ?_
    refine DH_open dd sH ?_
    refine DN_done (by kernel_rfl) ?_
    refine at_normal (SA_ret ?_)
    have h_:=oi' H;subst h_
    exact b1' [0,1] ⟨rfl,rfl⟩
   replace H:=g_iff h1628 H
   refine dn' 18 rfl (dec_f h1628) ?_
   refine dn' 19 rfl (dec_f h1628) ?_
   refine dn' 20 rfl (dec_f h1628) ?_
   refine dn' 21 rfl (dec_f h1628) ?_
   refine dn' 22 rfl (dec_f h1628) ?_
   refine dn' 23 rfl (dec_f h1628) ?_
   refine dn' 24 rfl (dec_f h1628) ?_
   refine r' 25 rfl sH (VR.ofV (V_pickF rfl (dec_f h1628) rfl)) ?_
   refine t' (.bool false) 26 rfl sH as' ?_
   refine DH_open dd sH ?_
   refine DN_done (by kernel_rfl) ?_
   refine at_normal (SA_ret ?_)
   have h_:=oi' H;subst h_
   exact b1' [0,1] ⟨rfl,rfl⟩
  replace H:=g_iff h1627 H
  refine dn' 9 rfl (dec_f h1627) ?_
  refine dn' 10 rfl (dec_f h1627) ?_
  refine dn' 11 rfl (dec_f h1627) ?_
  refine dn' 12 rfl (dec_f h1627) ?_
  refine dn' 13 rfl (dec_f h1627) ?_
  refine dn' 14 rfl (dec_f h1627) ?_
  refine dn' 15 rfl (dec_f h1627) ?_
  refine r' 16 rfl sH (VR.ofV (V_pickF rfl (dec_f h1627) rfl)) ?_
  refine t' (.bool false) 17 rfl sH mv' ?_
  refine dn' 18 rfl rfl ?_
  refine dn' 19 rfl rfl ?_
  refine dn' 20 rfl rfl ?_
  refine dn' 21 rfl rfl ?_
  refine dn' 22 rfl rfl ?_
  refine dn' 23 rfl rfl ?_
  refine dn' 24 rfl rfl ?_
  refine r' 25 rfl sH (VR.ofV (V_pickF rfl (rfl) rfl)) ?_
  refine t' (.bool false) 26 rfl sH as' ?_
  refine DH_open dd sH ?_
  refine DN_done (by kernel_rfl) ?_
  refine at_normal (SA_ret ?_)
  have h_:=oi' H;subst h_
  exact b1' [0,1] ⟨rfl,rfl⟩
 replace H:=g_iff h1626 H
 refine dn' 3 rfl (dec_f h1626) ?_
 refine dn' 4 rfl (dec_f h1626) ?_
 refine dn' 5 rfl (dec_f h1626) ?_
 refine dn' 6 rfl (dec_f h1626) ?_
 refine r' 7 rfl sH (VR.ofV (V_pickF rfl (dec_f h1626) rfl)) ?_
 refine t' (.bool false) 8 rfl sH mv' ?_
 refine dn' 9 rfl rfl ?_
 refine dn' 10 rfl rfl ?_
 refine dn' 11 rfl rfl ?_
 refine dn' 12 rfl rfl ?_
 refine dn' 13 rfl rfl ?_
 refine dn' 14 rfl rfl ?_
 refine dn' 15 rfl rfl ?_
 refine r' 16 rfl sH (VR.ofV (V_pickF rfl (rfl) rfl)) ?_
 refine t' (.bool false) 17 rfl sH mv' ?_
 refine dn' 18 rfl rfl ?_
 refine dn' 19 rfl rfl ?_
 refine dn' 20 rfl rfl ?_
 refine dn' 21 rfl rfl ?_
 refine dn' 22 rfl rfl ?_
 refine dn' 23 rfl rfl ?_
 refine dn' 24 rfl rfl ?_
 refine r' 25 rfl sH (VR.ofV (V_pickF rfl (rfl) rfl)) ?_
 refine t' (.bool false) 26 rfl sH as' ?_
 refine DH_open dd sH ?_
 refine DN_done (by kernel_rfl) ?_
 refine at_normal (SA_ret ?_)
 have h_:=oi' H;subst h_
 exact b1' [0,1] ⟨rfl,rfl⟩


def F136w0.l0 (l0 : (List S55)) (o0 : Int) (n0 : Int) : Nat → Int → (List S55) → Option ((List S55))
  | 0,_,_=>none
  | k + 1,x8_4,zm1_0_4=>if zm1_0_4.length = l0.length then (if x8_4 < n0 then (if 0 ≤ x8_4∧x8_4 < n0 then ((if ((rd zm1_0_4 (o0 + x8_4)).f2) = 2 then ((F157w3.f (IntKind.i64.wrap (x8_4 + 1)) 0 ((rd zm1_0_4 (o0 + x8_4)).f3) zm1_0_4 o0 n0).bind (fun r16=>some (!r16))) else (some false) : Option Bool).bind (fun q14=>(if q14 = true then (some true) else (if ((rd zm1_0_4 (o0 + x8_4)).f2) = 0 then ((F157w3.f (IntKind.i64.wrap (x8_4 - 1)) 2 ((rd zm1_0_4 (o0 + x8_4)).f3) zm1_0_4 o0 n0).bind (fun r22=>some (!r22))) else (some false)) : Option Bool).bind (fun q19=>if q19 = true then ((F147.f ((rd zm1_0_4 (o0 + x8_4)).f3)).bind (fun r266=>if 0 ≤ x8_4∧x8_4 < n0 then (lt (zm1_0_4.set (o0 + x8_4).toNat r266) fun n386=>(F136w0.l0 l0 o0 n0 k (IntKind.i64.wrap (x8_4 + 1)) n386)) else none)) else (F136w0.l0 l0 o0 n0 k (IntKind.i64.wrap (x8_4 + 1)) zm1_0_4)))) else none) else (some zm1_0_4)) else none
def F136w0.f (k : Nat) (l0 : (List S55)) (o0 : Int) (n0 : Int) : Option ((List S55)):=if 0 ≤ o0∧0 ≤ n0∧o0 + n0 ≤ (l0.length : Int) then ((F136w0.l0 l0 o0 n0 k 0 l0 : Option ((List S55))).bind (fun t4=>if t4.length = l0.length then (some (t4)) else none)) else none
theorem F136w0.ok {l0 : (List S55)} {o0 : Int} {n0 : Int} {A0 V0 : Option Addr} {c0 v0 : Nat} (hw0 : Win A0 V0 15 o0 n0 v0) {r : (List S55)} (H : F136w0.f k l0 o0 n0 = some r) : SCA Tryz.prog 136 #[.slice V0 n0.toNat v0] [Buf k55 55 A0 c0 l0] (fun v B=>v = .tuple #[]∧B = [Buf k55 55 A0 c0 r]):=by
 refine SCA_of_body Tryz.func136 rfl rfl ?_
 unfold F136w0.f at H
 obtain⟨⟨g450,g451,g452⟩,H⟩:=g_pos H
 have hcv_hw0:=hw0.cap
 refine qr' ?_
 refine o' (bx' fun b2=>?_)
 refine nr' ?_
 refine s' (.func (.func 157) #[] #[pt' b2]) (V_makeFuncL (us:=[pt' b2]) rfl) ?_
 refine s' (.func (.func 157) #[] #[pt' b2]) as' ?_
 refine nr' ?_
 refine l' (ld' b2 0 1) ?_
 refine s' (il' n0) (V_lenW hw0 Tryz.underlying116 rfl) ?_
 refine s' (il' 0) mv' ?_
 refine na' ?_
 obtain⟨t4,H,Bt4⟩:=g_bind H
 refine SA_mid (fun e ds As=>St [] [Buf k55 55 A0 c0 t4] e ds As) ?_ ?_
 ·refine SA_block ?_
  refine SA_loop (fun k_ e ds As=>∃ (x8_4 : Int) (zm1_0_4 : (List S55)),F136w0.l0 l0 o0 n0 k_ x8_4 zm1_0_4 = some t4∧St [(1,pt' b2),(2,.func (.func 157) #[] #[pt' b2]),(6,.slice V0 n0.toNat v0),(7,il' n0),(8,il' x8_4)] [Buf k55 55 A0 c0 zm1_0_4,Blk b2 116 [.slice V0 n0.toNat v0]] e ds As) (k:=k) ⟨_,_,H,sq' [0,1]⟩ ?_
  clear H
  rintro k5 e ds As ⟨x8_4,zm1_0_4,H,hst6⟩
  obtain _ | k5:=k5
  ·cases H
  rw [F136w0.l0] at H
  obtain⟨hl447,H⟩:=g_pos H
  refine SA.of_St hst6 fun junk=>?_
  refine qr' ?_
  refine s' (.bool (decide (x8_4 < n0))) (V_lss rfl rfl) ?_
  refine na' (SA_seq ?_)
  by_cases h7 : x8_4 < n0
  ·replace H:=g_ift h7 H
   refine SA_condT rfl h7 ?_
   refine SA_skip (at_normal (SA_seq (SA_block (qr' ?_))))
   refine s' (il' x8_4) mv' ?_
   obtain⟨⟨g8,g9⟩,H⟩:=g_pos H
   have g10 : 0 ≤ o0 + x8_4:=by omega
   have g11 : o0 + x8_4 < (zm1_0_4.length : Int):=by omega
   refine l' (VR_indexW (l:=o0) (m:=n0) (i:=x8_4) (sz:=15) hw0 Tryz.underlying116 sz55 rfl rfl (Src.buf (k:=0) rfl) g8 g9 (by omega)) ?_
   refine l' (VR_loadA_el (enc:=enc55) (i:=o0 + x8_4) (j:=(o0 + x8_4).toNat * 15) (m:=0) (sz:=15) (vs:=(c55' (S55.mk ((rd zm1_0_4 (o0 + x8_4)).f0) ((rd zm1_0_4 (o0 + x8_4)).f1) ((rd zm1_0_4 (o0 + x8_4)).f2) ((rd zm1_0_4 (o0 + x8_4)).f3)))) Tryz.underlying55 rfl sz55 rfl rfl rfl (Src.buf (k:=0) rfl) g10 g11 (fun _ _ h=>h) rfl) ?_
   refine o' (al' fun b12=>?_)
   refine s' (il' x8_4) as' ?_
   refine o' (su' b12 0 2 (c55' (S55.mk ((rd zm1_0_4 (o0 + x8_4)).f0) ((rd zm1_0_4 (o0 + x8_4)).f1) ((rd zm1_0_4 (o0 + x8_4)).f2) ((rd zm1_0_4 (o0 + x8_4)).f3))) ?_)
   refine nr' ?_
   refine s' (pa' b12 4) (fa' b12 0 4) ?_
   refine l' (ld' b12 4 2) ?_
   refine s' (.bool (decide (((rd zm1_0_4 (o0 + x8_4)).f2) = 2))) (V_eql rfl rfl) ?_
   refine s' (.bool (decide (((rd zm1_0_4 (o0 + x8_4)).f2) = 2))) mv' ?_
   obtain⟨q14,H,Bq14⟩:=g_bind H
   refine cR' 8 [(1,pt' b2),(2,.func (.func 157) #[] #[pt' b2]),(3,il' x8_4),(4,pt' b12),(6,.slice V0 n0.toNat v0),(7,il' n0),(8,il' x8_4),(24,.bool q14)] [Buf k55 55 A0 c0 zm1_0_4,Blk b2 116 [.slice V0 n0.toNat v0],Blk b12 55 (c55' (S55.mk ((rd zm1_0_4 (o0 + x8_4)).f0) ((rd zm1_0_4 (o0 + x8_4)).f1) ((rd zm1_0_4 (o0 + x8_4)).f2) ((rd zm1_0_4 (o0 + x8_4)).f3)))] ?_ fun junk=>?_
   ·by_cases h15 : ((rd zm1_0_4 (o0 + x8_4)).f2) = 2
    ·replace H:=g_ift h15 H
     refine y' (dec_t h15) (.func (.func 157) #[] #[pt' b2]) mv' ?_
     refine y' (dec_t h15) (il' x8_4) mv' ?_
     refine y' (dec_t h15) (il' (IntKind.i64.wrap (x8_4 + 1))) (V_add rfl rfl) ?_
     refine y' (dec_t h15) (pa' b12 5) (fa' b12 0 5) ?_
     refine z' (dec_t h15) (lA' b12 5 2 (c28' ((rd zm1_0_4 (o0 + x8_4)).f3))) ?_
     obtain⟨r16,C17,H⟩:=g_bind H
     refine yo' (dec_t h15) (ca' [1,0] [2] (X_fnV (vs:=[il' (IntKind.i64.wrap (x8_4 + 1)),.int .u8 0,.agg (c28' ((rd zm1_0_4 (o0 + x8_4)).f3)).toArray]) (cap:=[pt' b2]) rfl Tryz.func157 nm157 rfl rfl) (F157w3.ok (a0:=IntKind.i64.wrap (x8_4 + 1)) (a1:=0) (a2:=((rd zm1_0_4 (o0 + x8_4)).f3)) (b3_:=b2) (p3:=zm1_0_4) (o3:=o0) (n3:=n0) (A3:=A0) (c3:=c0) (V3:=V0) (v3:=v0) (hw3:=hw0) C17) ?_)
     rintro _ _⟨rfl,rfl⟩
     refine y' (dec_t h15) (.bool (!r16)) (V_not rfl) ?_
     refine pT' (dec_t h15) ?_
     have h_:=oi' H;subst h_
     exact rm' [1,0,2]
    replace H:=g_iff h15 H
    refine no' 7 (dec_f h15) ?_
    refine pF' (dec_f h15) ?_
    have h_:=oi' H;subst h_
    exact rm' [0,1,2]
   replace H:=Bq14
   refine s' (.bool q14) mv' ?_
   obtain⟨q19,H,Bq19⟩:=g_bind H
   refine RA_cut 13 (fun e ds As=>St [(1,pt' b2),(2,.func (.func 157) #[] #[pt' b2]),(3,il' x8_4),(4,pt' b12),(6,.slice V0 n0.toNat v0),(7,il' n0),(8,il' x8_4),(38,.bool q19)] [Buf k55 55 A0 c0 zm1_0_4,Blk b2 116 [.slice V0 n0.toNat v0],Blk b12 55 (c55' (S55.mk ((rd zm1_0_4 (o0 + x8_4)).f0) ((rd zm1_0_4 (o0 + x8_4)).f1) ((rd zm1_0_4 (o0 + x8_4)).f2) ((rd zm1_0_4 (o0 + x8_4)).f3)))] e ds As) ?_ ?_
   ·by_cases h20 : q14 = true
    ·replace H:=g_ift h20 H
     refine no' 4 h20 ?_
     refine nu' ?_
     refine nu' ?_
     refine nu' ?_
     refine nu' ?_
     refine nu' ?_
     refine nu' ?_
     refine nu' ?_
     refine no' 1 h20 ?_
     refine pT' h20 ?_
     have h_:=oi' H;subst h_
     exact rm' [0,1,2]
    replace H:=g_iff h20 H
    refine y' (bno h20) (pa' b12 4) (fa' b12 0 4) ?_
    refine z' (bno h20) (ld' b12 4 2) ?_
    refine y' (bno h20) (.bool (decide (((rd zm1_0_4 (o0 + x8_4)).f2) = 0))) (V_eql rfl rfl) ?_
    refine y' (bno h20) (.bool (decide (((rd zm1_0_4 (o0 + x8_4)).f2) = 0))) mv' ?_
    by_cases h21 : ((rd zm1_0_4 (o0 + x8_4)).f2) = 0
    ·replace H:=g_ift h21 H
     refine y' (dec_t h21) (.func (.func 157) #[] #[pt' b2]) mv' ?_
     refine y' (dec_t h21) (il' x8_4) mv' ?_
     refine y' (dec_t h21) (il' (IntKind.i64.wrap (x8_4 - 1))) (V_sub rfl rfl) ?_
     refine y' (dec_t h21) (pa' b12 5) (fa' b12 0 5) ?_
     refine z' (dec_t h21) (lA' b12 5 2 (c28' ((rd zm1_0_4 (o0 + x8_4)).f3))) ?_
     obtain⟨r22,C23,H⟩:=g_bind H
     refine yo' (dec_t h21) (ca' [1,0] [2] (X_fnV (vs:=[il' (IntKind.i64.wrap (x8_4 - 1)),.int .u8 2,.agg (c28' ((rd zm1_0_4 (o0 + x8_4)).f3)).toArray]) (cap:=[pt' b2]) rfl Tryz.func157 nm157 rfl rfl) (F157w3.ok (a0:=IntKind.i64.wrap (x8_4 - 1)) (a1:=2) (a2:=((rd zm1_0_4 (o0 + x8_4)).f3)) (b3_:=b2) (p3:=zm1_0_4) (o3:=o0) (n3:=n0) (A3:=A0) (c3:=c0) (V3:=V0) (v3:=v0) (hw3:=hw0) C23) ?_)
     rintro _ _⟨rfl,rfl⟩
     refine y' (dec_t h21) (.bool (!r22)) (V_not rfl) ?_
     refine yo' (bno h20) (OA_v rfl (V_pickT rfl (dec_t h21) rfl) ?_)
     refine pF' (bno h20) ?_
     have h_:=oi' H;subst h_
     exact rm' [1,0,2]
    replace H:=g_iff h21 H
    refine no' 7 (dec_f h21) ?_
    refine yo' (bno h20) (OA_v rfl (V_pickF rfl (dec_f h21) rfl) ?_)
    refine pF' (bno h20) ?_
    have h_:=oi' H;subst h_
    exact rm' [0,1,2]
   rintro e ds As hst24
   clear H
   have H:=Bq19
   clear Bq19
   refine na' ?_
   refine SA.of_St hst24 fun junk=>?_
   by_cases h25 : q19 = true
   ·replace H:=g_ift h25 H
    refine SA_condTb rfl h25 ?_
    refine SA_drawHq [0,1,2,3,5] #[[],[],[],[2],[2,3],(rg' 0 4),[0,1,2,3,5]] [0,1,2] [] mixed rfl rfl rfl (PanOk.inb (PanOk.thn (PanOk.thn (PanOk.inb (PanOk.thn PanOk.body))))) fun I0 hS h0 hh0 w0 sH dd pk=>?_
    refine r' 0 rfl sH (ld' b2 0 1) ?_
    refine t' (il' x8_4) 1 rfl sH mv' ?_
    refine t' (pa' b12 5) 2 rfl sH (fa' b12 0 5) ?_
    refine r' 3 rfl sH (lA' b12 5 2 (c28' ((rd zm1_0_4 (o0 + x8_4)).f3))) ?_
    obtain⟨r266,C267,H⟩:=g_bind H
    refine DH_one 4 dd (by kernel_rfl) rfl (.no rfl) (ca' [] [] (xf' [.agg (c28' ((rd zm1_0_4 (o0 + x8_4)).f3)).toArray]) (F147.ok (a0:=((rd zm1_0_4 (o0 + x8_4)).f3)) C267) ?_)
    rintro _ _⟨rfl,rfl⟩
    obtain⟨⟨g326,g327⟩,H⟩:=g_pos H
    have g328 : 0 ≤ o0 + x8_4:=by omega
    have g329 : o0 + x8_4 < (zm1_0_4.length : Int):=by omega
    refine r' 5 rfl sH (VR_indexW (l:=o0) (m:=n0) (i:=x8_4) (sz:=15) hw0 Tryz.underlying116 sz55 rfl rfl (Src.buf (k:=0) rfl) g326 g327 (by omega)) ?_
    refine DH_open dd sH ?_
    obtain⟨n386,hn386,H⟩:=g_lt H
    have hl_n386 : n386.length = zm1_0_4.length:=by rw [hn386]; exact List.length_set
    refine DN_one 6 (by kernel_rfl) rfl rfl (.no rfl) (OA_stEl (k:=0) (i:=o0 + x8_4) (j:=(o0 + x8_4).toNat * 15) (m:=0) (sz:=15) (xs:=zm1_0_4) (vs:=(c55' r266)) r266 rfl rfl rfl rfl rfl rfl rfl rfl sz55 g328 g329 rfl (fun _ _ h_=>by subst h_; rfl) ?_)
    rewrite [← hn386]
    try rewrite [← hl_n386]
    refine DN_done (by kernel_rfl) ?_
    refine inb_normal (at_normal (SA_region ?_))
    refine s' (il' (IntKind.i64.wrap (x8_4 + 1))) (V_add rfl rfl) ?_
    refine s' (il' (IntKind.i64.wrap (x8_4 + 1))) mv' ?_
    refine RA_nil ?_
    exact at_normal ⟨k5,Nat.lt_succ_self _,_,_,H,sq' [0,1]⟩
   replace H:=g_iff h25 H
   refine SA_condFb rfl h25 ?_
   refine SA_skip (inb_normal (at_normal (SA_region ?_)))
   refine s' (il' (IntKind.i64.wrap (x8_4 + 1))) (V_add rfl rfl) ?_
   refine s' (il' (IntKind.i64.wrap (x8_4 + 1))) mv' ?_
   refine RA_nil ?_
   exact at_normal ⟨k5,Nat.lt_succ_self _,_,_,H,sq' [0,1]⟩
  replace H:=g_iff h7 H
  refine SA_condF rfl h7 ?_
  refine SA_exit (thn_exit (thn_exit (inb_hit ?_)))
  have h_:=oi' H;subst h_
  exact sm' [0]
 rintro e ds As hst448
 clear H
 have H:=Bt4
 clear Bt4
 obtain⟨hl449,H⟩:=g_pos H
 have h_:=oi' H;subst h_
 exact BQ_n0s hst448 [Buf k55 55 A0 c0 t4] rfl (gs' [0]) ⟨rfl,rfl⟩


def F122w0.f (k : Nat) (l0 : (List S55)) (o0 : Int) (n0 : Int) (a1 : Int) (a2 : Int) (a3 : S28) : Option ((List S55)):=if 0 ≤ o0∧0 ≤ n0∧o0 + n0 ≤ (l0.length : Int) then (if 0 ≤ a1∧a1 ≤ n0∧n0 ≤ n0 then (lt (maxI (IntKind.i64.wrap (0 - (n0 - a1))) (minI a2 (n0 - a1))) fun n11=>if n11 ≥ 0 then (if 0 ≤ n11∧n11 ≤ (n0 - a1)∧(n0 - a1) ≤ (n0 - a1) then (lt (over l0 ((o0 + a1) + n11).toNat ((sub l0 (o0 + a1) ((o0 + a1) + (n0 - a1))).take ((n0 - a1) - n11).toNat)) fun n19=>(if 0 ≤ (0 : Int)∧(0 : Int) ≤ n11∧n11 ≤ (n0 - a1) then ((F116w0.f k n19 ((o0 + a1) + (0 : Int)) (n11 - (0 : Int)) a3).bind (fun r260=>if r260.length = n19.length then ((F136w0.f k r260 o0 n0).bind (fun r321=>if r321.length = r260.length then (some (r321)) else none)) else none)) else none)) else none) else (if 0 ≤ (IntKind.i64.wrap (0 - n11))∧(IntKind.i64.wrap (0 - n11)) ≤ (n0 - a1)∧(n0 - a1) ≤ (n0 - a1) then (lt (over l0 (o0 + a1).toNat ((sub l0 ((o0 + a1) + (IntKind.i64.wrap (0 - n11))) (((o0 + a1) + (IntKind.i64.wrap (0 - n11))) + ((n0 - a1) - (IntKind.i64.wrap (0 - n11))))).take (n0 - a1).toNat)) fun n330=>(if 0 ≤ (IntKind.i64.wrap ((n0 - a1) + n11))∧(IntKind.i64.wrap ((n0 - a1) + n11)) ≤ (n0 - a1)∧(n0 - a1) ≤ (n0 - a1) then ((F116w0.f k n330 ((o0 + a1) + (IntKind.i64.wrap ((n0 - a1) + n11))) ((n0 - a1) - (IntKind.i64.wrap ((n0 - a1) + n11))) a3).bind (fun r751=>if r751.length = n330.length then ((F136w0.f k r751 o0 n0).bind (fun r812=>if r812.length = r751.length then (some (r812)) else none)) else none)) else none)) else none)) else none) else none
theorem F122w0.ok {l0 : (List S55)} {o0 : Int} {n0 : Int} {a1 : Int} {a2 : Int} {a3 : S28} {A0 V0 : Option Addr} {c0 v0 : Nat} (hw0 : Win A0 V0 15 o0 n0 v0) {r : (List S55)} (H : F122w0.f k l0 o0 n0 a1 a2 a3 = some r) : SCA Tryz.prog 122 #[.slice V0 n0.toNat v0,il' a1,il' a2,.agg (c28' a3).toArray] [Buf k55 55 A0 c0 l0] (fun v B=>v = .tuple #[]∧B = [Buf k55 55 A0 c0 r]):=by
 refine SCA_of_body Tryz.func122 rfl rfl ?_
 unfold F122w0.f at H
 obtain⟨⟨g815,g816,g817⟩,H⟩:=g_pos H
 have hcv_hw0:=hw0.cap
 refine qr' ?_
 refine o' (bx' fun b2=>?_)
 refine na' (SA_seq ?_)
 refine fc' 0 fun hc4=>?_
 refine SA_region ?_
 refine s' (.slice V0 n0.toNat v0) mv' ?_
 refine s' (il' a1) mv' ?_
 obtain⟨⟨g5,g6,g7⟩,H⟩:=g_pos H
 refine s' (.slice (slA V0 a1 ((v0 : Nat) : Int) 15) (n0 - a1).toNat (((v0 : Nat) : Int).toNat - a1.toNat)) (V_sliceW (l:=o0) (m:=n0) (a:=a1) (b:=n0) (q:=((v0 : Nat) : Int)) hw0 Tryz.underlying116 sz55 rfl rfl rfl rfl (.inr ⟨_,rfl⟩) (.inl ⟨rfl,rfl,rfl⟩) (.inl ⟨rfl,rfl⟩) g5 g6 g7) ?_
 have hW10 : Win A0 (slA V0 a1 ((v0 : Nat) : Int) 15) 15 (o0 + a1) (n0 - a1) (((v0 : Nat) : Int).toNat - a1.toNat):=Win.sub hw0 g5 g6 g7 (.inl rfl) (Int.le_refl _)
 refine s' (.slice (slA V0 a1 ((v0 : Nat) : Int) 15) (n0 - a1).toNat (((v0 : Nat) : Int).toNat - a1.toNat)) as' ?_
 refine nr' ?_
 refine s' (.slice (slA V0 a1 ((v0 : Nat) : Int) 15) (n0 - a1).toNat (((v0 : Nat) : Int).toNat - a1.toNat)) mv' ?_
 refine s' (il' (n0 - a1)) (V_lenW hW10 Tryz.underlying116 rfl) ?_
 refine s' (il' (IntKind.i64.wrap (0 - (n0 - a1)))) (V_neg rfl) ?_
 refine s' (il' a2) mv' ?_
 refine s' (.slice (slA V0 a1 ((v0 : Nat) : Int) 15) (n0 - a1).toNat (((v0 : Nat) : Int).toNat - a1.toNat)) mv' ?_
 refine s' (il' (n0 - a1)) (V_lenW hW10 Tryz.underlying116 rfl) ?_
 refine s' (il' (minI a2 (n0 - a1))) (V_min rfl rfl) ?_
 refine s' (il' (maxI (IntKind.i64.wrap (0 - (n0 - a1))) (minI a2 (n0 - a1)))) (V_max rfl rfl) ?_
 obtain⟨n11,hn11,H⟩:=g_lt H
 refine s' (il' n11) (V_assign (v:=il' n11) (congrArg (Value.int .i64) hn11.symm)) ?_
 refine nq' ?_
 refine s' (il' n11) mv' ?_
 refine s' (.bool (decide (n11 ≥ 0))) (V_geq rfl rfl) ?_
 refine na' ?_
 by_cases h12 : n11 ≥ 0
 ·replace H:=g_ift h12 H
  refine SA_condT rfl h12 ?_
  refine qr' ?_
  refine s' (.slice (slA V0 a1 ((v0 : Nat) : Int) 15) (n0 - a1).toNat (((v0 : Nat) : Int).toNat - a1.toNat)) mv' ?_
  refine s' (il' n11) mv' ?_
  obtain⟨⟨g13,g14,g15⟩,H⟩:=g_pos H
  refine s' (.slice (slA (slA V0 a1 ((v0 : Nat) : Int) 15) n11 ((((v0 : Nat) : Int).toNat - a1.toNat : Nat) : Int) 15) ((n0 - a1) - n11).toNat (((((v0 : Nat) : Int).toNat - a1.toNat : Nat) : Int).toNat - n11.toNat)) (V_sliceW (l:=o0 + a1) (m:=n0 - a1) (a:=n11) (b:=n0 - a1) (q:=((((v0 : Nat) : Int).toNat - a1.toNat : Nat) : Int)) hW10 Tryz.underlying116 sz55 rfl rfl rfl rfl (.inr ⟨_,rfl⟩) (.inl ⟨rfl,rfl,rfl⟩) (.inl ⟨rfl,rfl⟩) g13 g14 g15) ?_
  have hW18 : Win A0 (slA (slA V0 a1 ((v0 : Nat) : Int) 15) n11 ((((v0 : Nat) : Int).toNat - a1.toNat : Nat) : Int) 15) 15 ((o0 + a1) + n11) ((n0 - a1) - n11) (((((v0 : Nat) : Int).toNat - a1.toNat : Nat) : Int).toNat - n11.toNat):=Win.sub hW10 g13 g14 g15 (.inl rfl) (Int.le_refl _)
  refine s' (.slice (slA V0 a1 ((v0 : Nat) : Int) 15) (n0 - a1).toNat (((v0 : Nat) : Int).toNat - a1.toNat)) mv' ?_
  obtain⟨n19,hn19,H⟩:=g_lt H
  have hl_n19 : n19.length = l0.length:=by rw [hn19]; exact over_len (by rw [List.length_take]; omega)
  refine o' (OA_copyV (k:=0) (l:=(o0 + a1) + n11) (m:=(n0 - a1) - n11) (xs:=l0) (ys:=sub l0 (o0 + a1) ((o0 + a1) + (n0 - a1))) n19 hn19 hW18 rfl Tryz.underlying116 sz55 rfl rfl rfl (by omega) rfl (Cpy.win (Src.buf (k:=0) rfl) hW10 rfl (by omega)) ?_)
  try unfold c28'
  try rewrite [← hl_n19]
  refine na' ?_
  refine SA_drawHq (rg' 0 4) #[[],[],[0,1],[],(rg' 0 4)] [1] [0] mixed rfl rfl rfl (PanOk.thn PanOk.body) fun I0 hS h0 hh0 w0 sH dd pk=>?_
  refine t' (.slice (slA V0 a1 ((v0 : Nat) : Int) 15) (n0 - a1).toNat (((v0 : Nat) : Int).toNat - a1.toNat)) 0 rfl sH mv' ?_
  refine t' (il' n11) 1 rfl sH mv' ?_
  obtain⟨⟨g140,g141,g142⟩,H⟩:=g_pos H
  refine t' (.slice (slA (slA V0 a1 ((v0 : Nat) : Int) 15) (0 : Int) ((((v0 : Nat) : Int).toNat - a1.toNat : Nat) : Int) 15) (n11 - (0 : Int)).toNat (((((v0 : Nat) : Int).toNat - a1.toNat : Nat) : Int).toNat - (0 : Int).toNat)) 2 rfl sH (V_sliceW (l:=o0 + a1) (m:=n0 - a1) (a:=(0 : Int)) (b:=n11) (q:=((((v0 : Nat) : Int).toNat - a1.toNat : Nat) : Int)) hW10 Tryz.underlying116 sz55 rfl rfl rfl rfl (.inl ⟨rfl,rfl⟩) (.inr ⟨_,rfl⟩) (.inl ⟨rfl,rfl⟩) g140 g141 g142) ?_
  have hW145 : Win A0 (slA (slA V0 a1 ((v0 : Nat) : Int) 15) (0 : Int) ((((v0 : Nat) : Int).toNat - a1.toNat : Nat) : Int) 15) 15 ((o0 + a1) + (0 : Int)) (n11 - (0 : Int)) (((((v0 : Nat) : Int).toNat - a1.toNat : Nat) : Int).toNat - (0 : Int).toNat):=Win.sub hW10 g140 g141 g142 (.inl rfl) (Int.le_refl _)
  refine r' 3 rfl sH (lA' b2 0 0 (c28' a3)) ?_
  obtain⟨r260,C262,H⟩:=g_bind H
  obtain⟨hl261,H⟩:=g_pos H
  refine DH_one 4 dd (by kernel_rfl) rfl (.no rfl) (ca' [0] [] (xf' [.slice (slA (slA V0 a1 ((v0 : Nat) : Int) 15) (0 : Int) ((((v0 : Nat) : Int).toNat - a1.toNat : Nat) : Int) 15) (n11 - (0 : Int)).toNat (((((v0 : Nat) : Int).toNat - a1.toNat : Nat) : Int).toNat - (0 : Int).toNat),.agg (c28' a3).toArray]) (F116w0.ok (l0:=n19) (o0:=(o0 + a1) + (0 : Int)) (n0:=n11 - (0 : Int)) (A0:=A0) (c0:=c0) (V0:=slA (slA V0 a1 ((v0 : Nat) : Int) 15) (0 : Int) ((((v0 : Nat) : Int).toNat - a1.toNat : Nat) : Int) 15) (v0:=((((v0 : Nat) : Int).toNat - a1.toNat : Nat) : Int).toNat - (0 : Int).toNat) (hw0:=hW145) (a1:=a3) C262) ?_)
  rintro _ _⟨rfl,rfl⟩
  try unfold c28'
  try rewrite [← hl261]
  try unfold c28' at sH
  try rewrite [← hl261] at sH
  refine DH_open dd sH ?_
  refine DN_done (by kernel_rfl) ?_
  refine at_normal ?_
  refine SA.of_St (l:=[(0,.slice V0 n0.toNat v0)]) (B:=[Buf k55 55 A0 c0 r260]) (St.mk1 (aeq rfl aeq0) (Gh.sel [1] (by kernel_rfl) (by kernel_rfl))) fun junk=>?_
  refine SA_region ?_
  refine s' (.slice V0 n0.toNat v0) mv' ?_
  obtain⟨r321,C323,H⟩:=g_bind H
  obtain⟨hl322,H⟩:=g_pos H
  refine o' (ca' [0] [] (xf' [.slice V0 n0.toNat v0]) (F136w0.ok (l0:=r260) (o0:=o0) (n0:=n0) (A0:=A0) (c0:=c0) (V0:=V0) (v0:=v0) (hw0:=hw0) C323) ?_)
  rintro _ _⟨rfl,rfl⟩
  try unfold c28'
  try rewrite [← hl322]
  refine RA_nil ?_
  have h_:=oi' H;subst h_
  exact bn' [0] ⟨rfl,rfl⟩
 replace H:=g_iff h12 H
 refine SA_condF rfl h12 ?_
 refine qr' ?_
 refine s' (.slice (slA V0 a1 ((v0 : Nat) : Int) 15) (n0 - a1).toNat (((v0 : Nat) : Int).toNat - a1.toNat)) mv' ?_
 refine s' (.slice (slA V0 a1 ((v0 : Nat) : Int) 15) (n0 - a1).toNat (((v0 : Nat) : Int).toNat - a1.toNat)) mv' ?_
 refine s' (il' n11) mv' ?_
 refine s' (il' (IntKind.i64.wrap (0 - n11))) (V_neg rfl) ?_
 obtain⟨⟨g324,g325,g326⟩,H⟩:=g_pos H
 refine s' (.slice (slA (slA V0 a1 ((v0 : Nat) : Int) 15) (IntKind.i64.wrap (0 - n11)) ((((v0 : Nat) : Int).toNat - a1.toNat : Nat) : Int) 15) ((n0 - a1) - (IntKind.i64.wrap (0 - n11))).toNat (((((v0 : Nat) : Int).toNat - a1.toNat : Nat) : Int).toNat - (IntKind.i64.wrap (0 - n11)).toNat)) (V_sliceW (l:=o0 + a1) (m:=n0 - a1) (a:=IntKind.i64.wrap (0 - n11)) (b:=n0 - a1) (q:=((((v0 : Nat) : Int).toNat - a1.toNat : Nat) : Int)) hW10 Tryz.underlying116 sz55 rfl rfl rfl rfl (.inr ⟨_,rfl⟩) (.inl ⟨rfl,rfl,rfl⟩) (.inl ⟨rfl,rfl⟩) g324 g325 g326) ?_
 have hW329 : Win A0 (slA (slA V0 a1 ((v0 : Nat) : Int) 15) (IntKind.i64.wrap (0 - n11)) ((((v0 : Nat) : Int).toNat - a1.toNat : Nat) : Int) 15) 15 ((o0 + a1) + (IntKind.i64.wrap (0 - n11))) ((n0 - a1) - (IntKind.i64.wrap (0 - n11))) (((((v0 : Nat) : Int).toNat - a1.toNat : Nat) : Int).toNat - (IntKind.i64.wrap (0 - n11)).toNat):=Win.sub hW10 g324 g325 g326 (.inl rfl) (Int.le_refl _)
 obtain⟨n330,hn330,H⟩:=g_lt H
 have hl_n330 : n330.length = l0.length:=by rw [hn330]; exact over_len (by rw [List.length_take]; omega)
 refine o' (OA_copyV (k:=0) (l:=o0 + a1) (m:=n0 - a1) (xs:=l0) (ys:=sub l0 ((o0 + a1) + (IntKind.i64.wrap (0 - n11))) (((o0 + a1) + (IntKind.i64.wrap (0 - n11))) + ((n0 - a1) - (IntKind.i64.wrap (0 - n11))))) n330 hn330 hW10 rfl Tryz.underlying116 sz55 rfl rfl rfl (by omega) rfl (Cpy.win (Src.buf (k:=0) rfl) hW329 rfl (by omega)) ?_)
 try unfold c28'
 try rewrite [← hl_n330]
 refine na' ?_
 refine SA_drawHq (rg' 0 7) #[[],[],[1],[],[1,2,3],(rg' 0 5),[],(rg' 0 7)] [1] [0] mixed rfl rfl rfl (PanOk.thn PanOk.body) fun I0 hS h0 hh0 w0 sH dd pk=>?_
 refine t' (.slice (slA V0 a1 ((v0 : Nat) : Int) 15) (n0 - a1).toNat (((v0 : Nat) : Int).toNat - a1.toNat)) 0 rfl sH mv' ?_
 refine t' (.slice (slA V0 a1 ((v0 : Nat) : Int) 15) (n0 - a1).toNat (((v0 : Nat) : Int).toNat - a1.toNat)) 1 rfl sH mv' ?_
 refine t' (il' (n0 - a1)) 2 rfl sH (V_lenW hW10 Tryz.underlying116 rfl) ?_
 refine t' (il' n11) 3 rfl sH mv' ?_
 refine t' (il' (IntKind.i64.wrap ((n0 - a1) + n11))) 4 rfl sH (V_add rfl rfl) ?_
 obtain⟨⟨g631,g632,g633⟩,H⟩:=g_pos H
 refine t' (.slice (slA (slA V0 a1 ((v0 : Nat) : Int) 15) (IntKind.i64.wrap ((n0 - a1) + n11)) ((((v0 : Nat) : Int).toNat - a1.toNat : Nat) : Int) 15) ((n0 - a1) - (IntKind.i64.wrap ((n0 - a1) + n11))).toNat (((((v0 : Nat) : Int).toNat - a1.toNat : Nat) : Int).toNat - (IntKind.i64.wrap ((n0 - a1) + n11)).toNat)) 5 rfl sH (V_sliceW (l:=o0 + a1) (m:=n0 - a1) (a:=IntKind.i64.wrap ((n0 - a1) + n11)) (b:=n0 - a1) (q:=((((v0 : Nat) : Int).toNat - a1.toNat : Nat) : Int)) hW10 Tryz.underlying116 sz55 rfl rfl rfl rfl (.inr ⟨_,rfl⟩) (.inl ⟨rfl,rfl,rfl⟩) (.inl ⟨rfl,rfl⟩) g631 g632 g633) ?_
 have hW636 : Win A0 (slA (slA V0 a1 ((v0 : Nat) : Int) 15) (IntKind.i64.wrap ((n0 - a1) + n11)) ((((v0 : Nat) : Int).toNat - a1.toNat : Nat) : Int) 15) 15 ((o0 + a1) + (IntKind.i64.wrap ((n0 - a1) + n11))) ((n0 - a1) - (IntKind.i64.wrap ((n0 - a1) + n11))) (((((v0 : Nat) : Int).toNat - a1.toNat : Nat) : Int).toNat - (IntKind.i64.wrap ((n0 - a1) + n11)).toNat):=Win.sub hW10 g631 g632 g633 (.inl rfl) (Int.le_refl _)
 refine r' 6 rfl sH (lA' b2 0 0 (c28' a3)) ?_
 obtain⟨r751,C753,H⟩:=g_bind H
 obtain⟨hl752,H⟩:=g_pos H
 refine DH_one 7 dd (by kernel_rfl) rfl (.no rfl) (ca' [0] [] (xf' [.slice (slA (slA V0 a1 ((v0 : Nat) : Int) 15) (IntKind.i64.wrap ((n0 - a1) + n11)) ((((v0 : Nat) : Int).toNat - a1.toNat : Nat) : Int) 15) ((n0 - a1) - (IntKind.i64.wrap ((n0 - a1) + n11))).toNat (((((v0 : Nat) : Int).toNat - a1.toNat : Nat) : Int).toNat - (IntKind.i64.wrap ((n0 - a1) + n11)).toNat),.agg (c28' a3).toArray]) (F116w0.ok (l0:=n330) (o0:=(o0 + a1) + (IntKind.i64.wrap ((n0 - a1) + n11))) (n0:=(n0 - a1) - (IntKind.i64.wrap ((n0 - a1) + n11))) (A0:=A0) (c0:=c0) (V0:=slA (slA V0 a1 ((v0 : Nat) : Int) 15) (IntKind.i64.wrap ((n0 - a1) + n11)) ((((v0 : Nat) : Int).toNat - a1.toNat : Nat) : Int) 15) (v0:=((((v0 : Nat) : Int).toNat - a1.toNat : Nat) : Int).toNat - (IntKind.i64.wrap ((n0 - a1) + n11)).toNat) (hw0:=hW636) (a1:=a3) C753) ?_)
 rintro _ _⟨rfl,rfl⟩
 try unfold c28'
 try rewrite [← hl752]
 try unfold c28' at sH
 try rewrite [← hl752] at sH
 refine DH_open dd sH ?_
 refine DN_done (by kernel_rfl) ?_
 refine at_normal ?_
 refine SA.of_St (l:=[(0,.slice V0 n0.toNat v0)]) (B:=[Buf k55 55 A0 c0 r751]) (St.mk1 (aeq rfl aeq0) (Gh.sel [1] (by kernel_rfl) (by kernel_rfl))) fun junk=>?_
 refine SA_region ?_
 refine s' (.slice V0 n0.toNat v0) mv' ?_
 obtain⟨r812,C814,H⟩:=g_bind H
 obtain⟨hl813,H⟩:=g_pos H
 refine o' (ca' [0] [] (xf' [.slice V0 n0.toNat v0]) (F136w0.ok (l0:=r751) (o0:=o0) (n0:=n0) (A0:=A0) (c0:=c0) (V0:=V0) (v0:=v0) (hw0:=hw0) C814) ?_)
 rintro _ _⟨rfl,rfl⟩
 try unfold c28'
 try rewrite [← hl813]
 refine RA_nil ?_
 have h_:=oi' H;subst h_
 exact bn' [0] ⟨rfl,rfl⟩


def F152.f (a0 : S28) (a1 : Int) : Option ((List S55)):=if a1 ≠ 2 then (some (([] : (List S55)))) else (some (([(S55.mk 0 (S53.mk 0 0 0) 0 a0)] : (List S55))))
theorem F152.ok {a0 : S28} {a1 : Int} {r : (List S55)} (H : F152.f a0 a1 = some r) : SCA Tryz.prog 152 #[.agg (c28' a0).toArray,il' a1] [] (fun v B=>∃ A0_0_ c0_0_,v = .slice A0_0_ r.length c0_0_∧B = [Buf k55 55 A0_0_ c0_0_ r]):=by
 refine SCA_of_body Tryz.func152 rfl rfl ?_
 unfold F152.f at H
 refine qr' ?_
 refine o' (bx' fun b1=>?_)
 refine s' (.slice none 0 0) as' ?_
 refine nq' ?_
 refine s' (il' a1) mv' ?_
 refine s' (.bool (decide (a1 ≠ 2))) (V_neq rfl rfl) ?_
 refine na' ?_
 by_cases h3 : a1 ≠ 2
 ·replace H:=g_ift h3 H
  refine SA_condT rfl h3 ?_
  refine qr' ?_
  refine s' (.slice none 0 0) as' ?_
  refine ntt' ?_
  have h_:=oi' H;subst h_
  exact BQ_R1 [Buf k55 55 none 0 ([] : (List S55))] rfl rfl ((Gh.nilBuf k55 55).trans (gs' [1])) ⟨none,0,rfl,rfl⟩
 replace H:=g_iff h3 H
 refine SA_condF rfl h3 ?_
 refine SA_skip (at_normal (qr' ?_))
 refine l' (lA' b1 0 0 (c28' a0)) ?_
 refine s' (.agg (c55' (S55.mk 0 (S53.mk 0 0 0) 0 a0)).toArray) bd' ?_
 refine o' (OA_bs (kd:=k55) (zv:=(.agg (c55' z55').toArray)) (sz:=15) (cells:=(c55' (S55.mk 0 (S53.mk 0 0 0) 0 a0))) (xs:=([(S55.mk 0 (S53.mk 0 0 0) 0 a0)] : (List S55))) rfl Tryz.underlying24 zero55 sz55 rfl rfl rfl (by kernel_rfl) rfl rfl (RL_enc enc55 (fun _ _=>rfl) (by kernel_rfl)) fun b5=>?_)
 refine s' (.slice (some ⟨b5,0,none⟩) ([(S55.mk 0 (S53.mk 0 0 0) 0 a0)] : (List S55)).length 1) as' ?_
 refine nt' ?_
 have h_:=oi' H;subst h_
 exact b1' [1] ⟨some ⟨b5,0,none⟩,1,rfl,rfl⟩


def F124.f (k : Nat) (a0 : Int) (a1 : S28) : Option ((List S55)):=(F117.f k a0).bind (fun r5=>(if r5 = 1 then (some (decide (r5 = 1))) else (some (decide (r5 = 2))) : Option (Bool)).bind (fun t6=>if t6 = true then ((F152.f a1 r5).bind (fun r250=>if ([(S55.mk a0 (S53.mk 0 0 0) (IntKind.u8.wrap (r5)) a1)] : (List S55)).length + r250.length ≤ 2932031007402 then lt (([(S55.mk a0 (S53.mk 0 0 0) (IntKind.u8.wrap (r5)) a1)] : (List S55)) ++ r250) fun n314=>(some (n314)) else none)) else (some (([] : (List S55))))))
theorem F124.ok {a0 : Int} {a1 : S28} {r : (List S55)} (H : F124.f k a0 a1 = some r) : SCA Tryz.prog 124 #[iw' a0,.agg (c28' a1).toArray] [] (fun v B=>∃ A0_0_ c0_0_,v = .slice A0_0_ r.length c0_0_∧B = [Buf k55 55 A0_0_ c0_0_ r]):=by
 refine SCA_of_body Tryz.func124 rfl rfl ?_
 unfold F124.f at H
 refine qr' ?_
 refine o' (bx' fun b1=>?_)
 refine s' (.slice none 0 0) as' ?_
 refine nr' ?_
 refine s' (iw' a0) mv' ?_
 refine l' (lA' b1 0 0 (c28' a1)) ?_
 refine s' (.agg (c55' (S55.mk a0 (S53.mk 0 0 0) 0 a1)).toArray) bd' ?_
 refine o' (al' fun b3=>?_)
 refine o' (su' b3 0 1 (c55' (S55.mk a0 (S53.mk 0 0 0) 0 a1)) ?_)
 refine nq' ?_
 refine s' (iw' a0) mv' ?_
 obtain⟨r5,C432,H⟩:=g_bind H
 refine o' (ca' [] [0,1] (xf' [iw' a0]) (F117.ok (a0:=a0) C432) ?_)
 rintro _ _⟨rfl,rfl⟩
 refine s' (il' r5) as' ?_
 refine nr' ?_
 refine s' (il' r5) mv' ?_
 refine na' (SA_block (SA_seq (qr' ?_)))
 refine s' (.bool (decide (r5 = 1))) (V_eql rfl rfl) ?_
 refine s' (.bool (decide (r5 = 1))) as' ?_
 refine na' ?_
 obtain⟨t6,H,Bt6⟩:=g_bind H
 refine SA_mid (fun e ds As=>St [(3,pt' b1),(5,pt' b3),(6,il' r5),(13,.bool t6)] [Blk b1 28 (c28' a1),Blk b3 55 (c55' (S55.mk a0 (S53.mk 0 0 0) 0 a1))] e ds As) ?_ ?_
 ·by_cases h7 : r5 = 1
  ·replace H:=g_ift h7 H
   refine SA_condT rfl h7 ?_
   refine SA_skip ?_
   have h_:=oi' H;subst h_
   exact sm' [0,1]
  replace H:=g_iff h7 H
  refine SA_condF rfl h7 ?_
  refine SA_region ?_
  refine s' (.bool (decide (r5 = 2))) (V_eql rfl rfl) ?_
  refine s' (.bool (decide (r5 = 2))) as' ?_
  refine RA_nil ?_
  have h_:=oi' H;subst h_
  exact sm' [0,1]
 rintro e ds As hst8
 clear H
 have H:=Bt6
 clear Bt6
 refine at_normal ?_
 refine SA.of_St hst8 fun junk=>?_
 by_cases h9 : t6 = true
 ·replace H:=g_ift h9 H
  refine SA_condTb rfl h9 ?_
  refine qr' ?_
  refine s' (il' r5) mv' ?_
  refine s' (.int .u8 (IntKind.u8.wrap (r5))) (V_conv (T:=3) (by kernel_rfl) Tryz.underlying5 rfl) ?_
  refine s' (pa' b3 4) (fa' b3 0 4) ?_
  refine o' (st' b3 4 1 [.int .u8 (IntKind.u8.wrap (r5))] (c55' (S55.mk a0 (S53.mk 0 0 0) (IntKind.u8.wrap (r5)) a1)) ?_)
  refine na' (SA_seq ?_)
  refine SA_drawHq [0,2,3,6] #[[],[0],[],[],[2,3],[0,2,3],[0,2,3]] [0,1] [] mixed rfl rfl rfl (PanOk.thn (PanOk.inb (PanOk.thn PanOk.body))) fun I0 hS h0 hh0 w0 sH dd pk=>?_
  refine r' 0 rfl sH (lA' b3 0 1 (c55' (S55.mk a0 (S53.mk 0 0 0) (IntKind.u8.wrap (r5)) a1))) ?_
  refine r' 2 rfl sH (lA' b1 0 0 (c28' a1)) ?_
  refine t' (il' r5) 3 rfl sH mv' ?_
  obtain⟨r250,C254,H⟩:=g_bind H
  obtain⟨g311,H⟩:=g_pos H
  obtain⟨n314,hn314,H⟩:=g_lt H
  refine DH_many (rs:=[1,4]) dd (by kernel_rfl) (by decide) (fal_cons ⟨_,rfl,(.no rfl),?_⟩ (fal_cons ⟨_,rfl,(.no rfl),?_⟩ fal_nil))
  ·refine id (OA_bs (kd:=k55) (zv:=(.agg (c55' z55').toArray)) (sz:=15) (cells:=(c55' (S55.mk a0 (S53.mk 0 0 0) (IntKind.u8.wrap (r5)) a1))) (xs:=([(S55.mk a0 (S53.mk 0 0 0) (IntKind.u8.wrap (r5)) a1)] : (List S55))) rfl Tryz.underlying24 zero55 sz55 rfl rfl rfl (by kernel_rfl) rfl rfl (RL_enc enc55 (fun _ _=>rfl) (by kernel_rfl)) fun b70=>?_)
   refine DH_one 4 dd (by kernel_rfl) rfl (.no rfl) (ca' [] [0] (xf' [.agg (c28' a1).toArray,il' r5]) (F152.ok (a0:=a1) (a1:=r5) C254) ?_)
   rintro _ _⟨A251,c252,rfl,rfl⟩
   refine DH_one 5 dd (by kernel_rfl) rfl (.no rfl) (OA_app (k:=1) (A:=some ⟨b70,0,none⟩) (c:=1) (xs:=([(S55.mk a0 (S53.mk 0 0 0) (IntKind.u8.wrap (r5)) a1)] : (List S55))) (ys:=r250) n314 hn314 rfl Tryz.underlying24 inf55 rfl rfl rfl rfl rfl (Yld.slice Tryz.underlying24 (Src.buf (k:=0) rfl)) (by omega) (by omega) fun A312 c313=>?_)
   refine t' (.slice A312 n314.length c313) 6 rfl sH as' ?_
   refine DH_open dd sH ?_
   refine DN_done (by kernel_rfl) ?_
   refine at_normal (SA_ret (inb_ret (thn_ret ?_)))
   have h_:=oi' H;subst h_
   exact b1' [3] ⟨A312,c313,rfl,rfl⟩
  refine id (ca' [] [] (xf' [.agg (c28' a1).toArray,il' r5]) (F152.ok (a0:=a1) (a1:=r5) C254) ?_)
  rintro _ _⟨A251,c252,rfl,rfl⟩
  refine DH_one 1 dd (by kernel_rfl) rfl (.no rfl) (OA_bs (kd:=k55) (zv:=(.agg (c55' z55').toArray)) (sz:=15) (cells:=(c55' (S55.mk a0 (S53.mk 0 0 0) (IntKind.u8.wrap (r5)) a1))) (xs:=([(S55.mk a0 (S53.mk 0 0 0) (IntKind.u8.wrap (r5)) a1)] : (List S55))) rfl Tryz.underlying24 zero55 sz55 rfl rfl rfl (by kernel_rfl) rfl rfl (RL_enc enc55 (fun _ _=>rfl) (by kernel_rfl)) fun b70=>?_)
  refine DH_one 5 dd (by kernel_rfl) rfl (.no rfl) (OA_app (k:=1) (A:=some ⟨b70,0,none⟩) (c:=1) (xs:=([(S55.mk a0 (S53.mk 0 0 0) (IntKind.u8.wrap (r5)) a1)] : (List S55))) (ys:=r250) n314 hn314 rfl Tryz.underlying24 inf55 rfl rfl rfl rfl rfl (Yld.slice Tryz.underlying24 (Src.buf (k:=0) rfl)) (by omega) (by omega) fun A312 c313=>?_)
  refine t' (.slice A312 n314.length c313) 6 rfl sH as' ?_
  refine DH_open dd sH ?_
  refine DN_done (by kernel_rfl) ?_
  refine at_normal (SA_ret (inb_ret (thn_ret ?_)))
  have h_:=oi' H;subst h_
  exact b1' [3] ⟨A312,c313,rfl,rfl⟩
 replace H:=g_iff h9 H
 refine SA_condFb rfl h9 ?_
 refine SA_skip (inb_normal (at_normal (qr' ?_)))
 refine s' (.slice none 0 0) as' ?_
 refine nt' ?_
 have h_:=oi' H;subst h_
 exact BQ_R1 [Buf k55 55 none 0 ([] : (List S55))] rfl rfl ((Gh.nilBuf k55 55).trans (gs' [2])) ⟨none,0,rfl,rfl⟩


def F123w0b2.f (k : Nat) (l0 : (List S55)) (o0 : Int) (n0 : Int) (a1 : Int) (l2 : (List S55)) : Option ((List S55)):=if 0 ≤ o0∧0 ≤ n0∧o0 + n0 ≤ (l0.length : Int) then (if 0 ≤ a1∧a1 ≤ n0∧n0 ≤ n0 then (lt (over l0 (o0 + a1).toNat (l2.take (n0 - a1).toNat)) fun n11=>((F136w0.f k n11 o0 n0).bind (fun r12=>if r12.length = n11.length then (some (r12)) else none))) else none) else none
theorem F123w0b2.ok {l0 : (List S55)} {o0 : Int} {n0 : Int} {a1 : Int} {l2 : (List S55)} {A0 V0 : Option Addr} {c0 v0 : Nat} {A2 : Option Addr} {c2 : Nat} (hw0 : Win A0 V0 15 o0 n0 v0) {r : (List S55)} (H : F123w0b2.f k l0 o0 n0 a1 l2 = some r) : SCA Tryz.prog 123 #[.slice V0 n0.toNat v0,il' a1,.slice A2 l2.length c2] [Buf k55 55 A0 c0 l0,Buf k55 55 A2 c2 l2] (fun v B=>v = .tuple #[]∧B = [Buf k55 55 A0 c0 r,Buf k55 55 A2 c2 l2]):=by
 refine SCA_of_body Tryz.func123 rfl rfl ?_
 unfold F123w0b2.f at H
 obtain⟨⟨g15,g16,g17⟩,H⟩:=g_pos H
 have hcv_hw0:=hw0.cap
 refine SA_seq ?_
 refine fc' 0 fun hc3=>?_
 refine fc' 1 fun hc4=>?_
 refine SA_region ?_
 refine s' (.slice V0 n0.toNat v0) mv' ?_
 refine s' (il' a1) mv' ?_
 obtain⟨⟨g5,g6,g7⟩,H⟩:=g_pos H
 refine s' (.slice (slA V0 a1 ((v0 : Nat) : Int) 15) (n0 - a1).toNat (((v0 : Nat) : Int).toNat - a1.toNat)) (V_sliceW (l:=o0) (m:=n0) (a:=a1) (b:=n0) (q:=((v0 : Nat) : Int)) hw0 Tryz.underlying116 sz55 rfl rfl rfl rfl (.inr ⟨_,rfl⟩) (.inl ⟨rfl,rfl,rfl⟩) (.inl ⟨rfl,rfl⟩) g5 g6 g7) ?_
 have hW10 : Win A0 (slA V0 a1 ((v0 : Nat) : Int) 15) 15 (o0 + a1) (n0 - a1) (((v0 : Nat) : Int).toNat - a1.toNat):=Win.sub hw0 g5 g6 g7 (.inl rfl) (Int.le_refl _)
 refine s' (.slice A2 l2.length c2) mv' ?_
 obtain⟨n11,hn11,H⟩:=g_lt H
 have hl_n11 : n11.length = l0.length:=by rw [hn11]; exact over_len (by rw [List.length_take]; omega)
 refine o' (OA_copyV (k:=0) (l:=o0 + a1) (m:=n0 - a1) (xs:=l0) (ys:=l2) n11 hn11 hW10 rfl Tryz.underlying116 sz55 rfl rfl rfl (by omega) rfl (Cpy.slice (Src.buf (k:=1) rfl)) ?_)
 try rewrite [← hl_n11]
 refine na' (SA_region ?_)
 refine s' (.slice V0 n0.toNat v0) mv' ?_
 obtain⟨r12,C14,H⟩:=g_bind H
 obtain⟨hl13,H⟩:=g_pos H
 refine o' (ca' [0] [1] (xf' [.slice V0 n0.toNat v0]) (F136w0.ok (l0:=n11) (o0:=o0) (n0:=n0) (A0:=A0) (c0:=c0) (V0:=V0) (v0:=v0) (hw0:=hw0) C14) ?_)
 rintro _ _⟨rfl,rfl⟩
 try rewrite [← hl13]
 refine RA_nil ?_
 have h_:=oi' H;subst h_
 exact bn' [0,1] ⟨rfl,rfl⟩

end Go.Proofs.YtckilbegmbaeeaaGreat.Z5

/- What functions compute, and that they do: 132Lb_0_, 36, 62f90xxx_1_, 90Lb_0_, 91Lb_0_. -/
import Derived.Test.YtckilbegmbaeeaaGreatZ50
import Derived.Test.YtckilbegmbaeeaaGreatZ52
import Derived.Test.YtckilbegmbaeeaaGreatZ53
import Derived.Test.YtckilbegmbaeeaaGreatZ56
import Derived.Test.YtckilbegmbaeeaaGreatZ58
import Derived.Test.YtckilbegmbaeeaaGreatZ510
namespace Go.Proofs.YtckilbegmbaeeaaGreat.Z5
open Go Go.RowKit Go.Proofs.YtckilbegmbaeeaaGreat.SL
set_option linter.unusedVariables false
set_option maxHeartbeats 20000000
set_option maxRecDepth 100000
set_option linter.unusedSimpArgs false
attribute [local irreducible] IntKind.wrap minI maxI shrI shlI andI orI xorI andNotI cplI rd sub bytesOf strOf slA
variable {b0_ b1_ b2000_ b2001_ b2002_ b2_ b3_ c0_0 c0_1 c0_2 c0_3 k : Nat}
variable {A0_0 A0_1 A0_2 A0_3 : Option Addr}
def F132Lb_0_.f (k : Nat) (p0 : S34) (a1 : Bool) : Option (S34):=lt (a1 && (!p0.f15)) fun q8=>if q8 = true then (if 0 ≤ (p0.f0.f2.length : Int)∧(p0.f0.f2.length : Int) ≤ 2932031007402 then lt (List.replicate (p0.f0.f2.length : Int).toNat (S55.mk 0 (S53.mk 0 0 0) 0 (S28.mk 0 0 false false false false false false false false))) fun n2177=>((F130Lb_0_.f k ({ p0 with f0:=(S26.mk p0.f0.f0 p0.f0.f1 n2177),f15:=true,f16:=p0.f0 }) 0 p0.f0.f1).bind (fun r2898=>some (r2898))) else none) else (lt ((!a1) && p0.f15) fun q2959=>if q2959 = true then (some (({ p0 with f0:=p0.f16,f15:=false,f16:=(S26.mk 0 0 ([] : (List S55))) }))) else (some (p0)))
theorem F132Lb_0_.ok {p0 : S34} {a1 : Bool} {r : S34} (H : F132Lb_0_.f k p0 a1 = some r) : SCA Tryz.prog 132 #[.agg #[.pointer (some ⟨b0_,0,none⟩)],.bool a1] [Blk b0_ 34 (c34' p0 A0_0 c0_0 A0_1 c0_1 A0_2 c0_2 A0_3 c0_3),Buf k55 55 A0_0 c0_0 p0.f0.f2,bl' 3 A0_1 c0_1 p0.f7,Buf k55 55 A0_2 c0_2 p0.f16.f2,bw' 21 A0_3 c0_3 p0.f17] (fun v B=>∃ P0_0_ q0_0_ P0_1_ q0_1_ P0_2_ q0_2_ P0_3_ q0_3_,v = .tuple #[]∧B = [Blk b0_ 34 (c34' r P0_0_ q0_0_ P0_1_ q0_1_ P0_2_ q0_2_ P0_3_ q0_3_),Buf k55 55 P0_0_ q0_0_ r.f0.f2,bl' 3 P0_1_ q0_1_ r.f7,Buf k55 55 P0_2_ q0_2_ r.f16.f2,bw' 21 P0_3_ q0_3_ r.f17]):=by
 refine SCA_of_body Tryz.func132 rfl rfl ?_
 unfold F132Lb_0_.f at H
 refine qr' ?_
 refine o' (bx' fun b6=>?_)
 refine na' (SA_block (qr' ?_))
 refine s' (.bool a1) mv' ?_
 refine s' (.bool a1) mv' ?_
 obtain⟨q8,hq8,H⟩:=g_lt H
 refine cR' 7 [(1,.bool a1),(2,pt' b6),(13,.bool q8)] [Blk b0_ 34 (c34' p0 A0_0 c0_0 A0_1 c0_1 A0_2 c0_2 A0_3 c0_3),Buf k55 55 A0_0 c0_0 p0.f0.f2,bl' 3 A0_1 c0_1 p0.f7,Buf k55 55 A0_2 c0_2 p0.f16.f2,bw' 21 A0_3 c0_3 p0.f17,Blk b6 84 [pt' b0_]] ?_ fun junk=>?_
 ·by_cases h9 : a1 = true
  ·refine y' h9 (pt' b6) (fa' b6 0 0) ?_
   refine z' h9 (ld' b6 0 5) ?_
   refine y' h9 (pt' b0_) nc' ?_
   refine y' h9 (pa' b0_ 39) (fa' b0_ 0 39) ?_
   refine z' h9 (ld' b0_ 39 0) ?_
   refine y' h9 (.bool (!p0.f15)) (V_not rfl) ?_
   refine pT' h9 ?_
   refine RA_nil ?_
   exact at_normal (St.mk1 (aeq rfl (aeq rfl (aeq (congrArg Value.bool (and_t hq8 (h9))) aeq0))) (gs' [0,1,2,3,4,5]))
  refine no' 6 (bno h9) ?_
  refine pF' (bno h9) ?_
  refine RA_nil ?_
  exact at_normal (St.mk1 (aeq rfl (aeq rfl (aeq (congrArg Value.bool (and_f hq8 (bno h9))) aeq0))) (gs' [0,1,2,3,4,5]))
 refine s' (.bool q8) as' ?_
 refine na' ?_
 by_cases h11 : q8 = true
 ·replace H:=g_ift h11 H
  refine SA_condTb rfl h11 ?_
  refine SA_seq ?_
  refine SA_drawHq [0,1,2,3,4,5,6,7,9,10,12,13] (List.toArray ([]::[0]::[]::[2]::[]::[4]::[4,5]::[4,5,6]::(rg' 4 4)::[0,1,4,5,6,7]::[0,1,4,5,6,7,9]::[0,1,4,5,6,7,9,10]::[0,1,2,3,4,5,6,7,9,10]::[0,1,2,3,4,5,6,7,9,10,12]::[0,1,2,3,4,5,6,7,9,10,12,13]::[])) [5] (rg' 0 5) mixed rfl rfl rfl (PanOk.thn (PanOk.inb PanOk.body)) fun I0 hS h0 hh0 w0 sH dd pk=>?_
  refine t' (pt' b6) 0 rfl sH (fa' b6 0 0) ?_
  refine r' 1 rfl sH (ld' b6 0 0) ?_
  refine t' (pt' b6) 2 rfl sH (fa' b6 0 0) ?_
  refine r' 3 rfl sH (ld' b6 0 0) ?_
  refine t' (pt' b6) 4 rfl sH (fa' b6 0 0) ?_
  refine r' 5 rfl sH (ld' b6 0 0) ?_
  refine t' (pt' b0_) 6 rfl sH nc' ?_
  refine t' (pt' b0_) 7 rfl sH (fa' b0_ 0 0) ?_
  refine DH_one 8 dd (by kernel_rfl) rfl (.no rfl) (OA_r rfl (lA' b0_ 0 0 [il' p0.f0.f0,il' p0.f0.f1,.slice A0_0 p0.f0.f2.length c0_0]) ?_)
  refine t' (pt' b0_) 9 rfl sH nc' ?_
  refine t' (pa' b0_ 40) 10 rfl sH (fa' b0_ 0 40) ?_
  refine DH_one 11 dd (by kernel_rfl) rfl (.no rfl) (st' b0_ 40 0 [il' p0.f0.f0,il' p0.f0.f1,.slice A0_0 p0.f0.f2.length c0_0] (c34' ({ p0 with f16:=p0.f0 }) A0_0 c0_0 A0_1 c0_1 A0_0 c0_0 A0_3 c0_3) ?_)
  refine t' (pt' b0_) 12 rfl sH nc' ?_
  refine t' (pa' b0_ 39) 13 rfl sH (fa' b0_ 0 39) ?_
  refine DH_one 14 dd (by kernel_rfl) rfl (.no rfl) (st' b0_ 39 0 [.bool true] (c34' ({ p0 with f15:=true,f16:=p0.f0 }) A0_0 c0_0 A0_1 c0_1 A0_0 c0_0 A0_3 c0_3) ?_)
  refine DH_open dd sH ?_
  refine DN_done (by kernel_rfl) ?_
  refine at_normal (SA_seq ?_)
  refine SA_drawHq (0::1::2::3::4::5::6::7::8::9::10::11::12::13::14::15::16::17::18::19::20::22::23::24::[]) (List.toArray ([]::[0]::[]::[2]::[2,3]::[2,3,4]::(rg' 2 4)::(rg' 2 5)::[]::[8]::[8,9]::[8,9,10]::(rg' 8 4)::(rg' 8 5)::[]::[14]::[14,15]::[14,15,16]::(rg' 14 4)::(rg' 14 5)::(rg' 14 6)::(rg' 14 7)::(rg' 2 19)::(0::1::2::3::4::5::6::7::8::9::10::11::12::13::14::15::16::17::18::19::20::22::[])::(0::1::2::3::4::5::6::7::8::9::10::11::12::13::14::15::16::17::18::19::20::22::23::[])::(0::1::2::3::4::5::6::7::8::9::10::11::12::13::14::15::16::17::18::19::20::22::23::24::[])::[])) [0,1] (rg' 2 4) mixed rfl rfl rfl (PanOk.thn (PanOk.inb PanOk.body)) fun I0 hS h0 hh0 w0 sH dd pk=>?_
  refine t' (pt' b6) 0 rfl sH (fa' b6 0 0) ?_
  refine r' 1 rfl sH (ld' b6 0 0) ?_
  refine t' (pt' b6) 2 rfl sH (fa' b6 0 0) ?_
  refine r' 3 rfl sH (ld' b6 0 0) ?_
  refine t' (pt' b0_) 4 rfl sH nc' ?_
  refine t' (pa' b0_ 40) 5 rfl sH (fa' b0_ 0 40) ?_
  refine t' (pa' b0_ 40) 6 rfl sH (fa' b0_ 40 40) ?_
  refine r' 7 rfl sH (ld' b0_ 40 1) ?_
  refine t' (pt' b6) 8 rfl sH (fa' b6 0 0) ?_
  refine r' 9 rfl sH (ld' b6 0 0) ?_
  refine t' (pt' b0_) 10 rfl sH nc' ?_
  refine t' (pa' b0_ 40) 11 rfl sH (fa' b0_ 0 40) ?_
  refine t' (pa' b0_ 41) 12 rfl sH (fa' b0_ 40 41) ?_
  refine r' 13 rfl sH (ld' b0_ 41 1) ?_
  refine t' (pt' b6) 14 rfl sH (fa' b6 0 0) ?_
  refine r' 15 rfl sH (ld' b6 0 0) ?_
  refine t' (pt' b0_) 16 rfl sH nc' ?_
  refine t' (pa' b0_ 40) 17 rfl sH (fa' b0_ 0 40) ?_
  refine t' (pa' b0_ 42) 18 rfl sH (fa' b0_ 40 42) ?_
  refine r' 19 rfl sH (ld' b0_ 42 1) ?_
  refine t' (il' (p0.f0.f2.length : Int)) 20 rfl sH (V_len Tryz.underlying24 rfl) ?_
  obtain⟨⟨g2175,g2176⟩,H⟩:=g_pos H
  obtain⟨n2177,hn2177,H⟩:=g_lt H
  refine DH_one 21 dd (by kernel_rfl) rfl (.no rfl) (OA_mk (kd:=k55) (sz:=15) (l:=(p0.f0.f2.length : Int)) z55' n2177 hn2177 rfl Tryz.underlying24 inf55 rfl rfl g2175 (by omega) (by omega) rfl rfl (fun _=>rfl) fun b2173=>?_)
  refine t' (.agg #[il' p0.f0.f0,il' p0.f0.f1,.slice (some ⟨b2173,0,none⟩) n2177.length ((p0.f0.f2.length : Int).toNat)]) 22 rfl sH bd' ?_
  refine t' (pt' b0_) 23 rfl sH nc' ?_
  refine t' (pt' b0_) 24 rfl sH (fa' b0_ 0 0) ?_
  refine DH_open dd sH ?_
  refine DN_one 25 (by kernel_rfl) rfl rfl (.no rfl) (st' b0_ 0 1 [il' p0.f0.f0,il' p0.f0.f1,.slice (some ⟨b2173,0,none⟩) n2177.length ((p0.f0.f2.length : Int).toNat)] (c34' ({ p0 with f0:=(S26.mk p0.f0.f0 p0.f0.f1 n2177),f15:=true,f16:=p0.f0 }) (some ⟨b2173,0,none⟩) ((p0.f0.f2.length : Int).toNat) A0_1 c0_1 A0_0 c0_0 A0_3 c0_3) ?_)
  refine DN_done (by kernel_rfl) ?_
  refine at_normal ?_
  refine SA.of_St (l:=[(2,pt' b6)]) (B:=[Blk b0_ 34 (c34' ({ p0 with f0:=(S26.mk p0.f0.f0 p0.f0.f1 n2177),f15:=true,f16:=p0.f0 }) (some ⟨b2173,0,none⟩) ((p0.f0.f2.length : Int).toNat) A0_1 c0_1 A0_0 c0_0 A0_3 c0_3),Buf k55 55 (some ⟨b2173,0,none⟩) ((p0.f0.f2.length : Int).toNat) n2177,bl' 3 A0_1 c0_1 p0.f7,Buf k55 55 A0_0 c0_0 p0.f0.f2,bw' 21 A0_3 c0_3 p0.f17,Blk b6 84 [pt' b0_]]) (St.mk1 (aeq rfl aeq0) (Gh.sel [1,6,3,2,5,0] (by kernel_rfl) (by kernel_rfl))) fun junk=>?_
  refine fc' 1 fun hc2474=>?_
  refine fc' 2 fun hc2475=>?_
  refine fc' 3 fun hc2476=>?_
  refine fc' 4 fun hc2477=>?_
  refine SA_drawHq (rg' 0 7) #[[],[],[1],[1,2],[1,2,3],(rg' 1 4),(rg' 1 5),(rg' 0 7)] [0,5] (rg' 1 4) mixed rfl rfl rfl (PanOk.inb PanOk.body) fun I0 hS h0 hh0 w0 sH dd pk=>?_
  refine r' 0 rfl sH (lA' b6 0 1 [pt' b0_]) ?_
  refine t' (pt' b6) 1 rfl sH (fa' b6 0 0) ?_
  refine r' 2 rfl sH (ld' b6 0 1) ?_
  refine t' (pt' b0_) 3 rfl sH nc' ?_
  refine t' (pt' b0_) 4 rfl sH (fa' b0_ 0 0) ?_
  refine t' (pa' b0_ 1) 5 rfl sH (fa' b0_ 0 1) ?_
  refine r' 6 rfl sH (ld' b0_ 1 0) ?_
  refine DH_open dd sH ?_
  obtain⟨r2898,C2911,H⟩:=g_bind H
  refine DN_one 7 (by kernel_rfl) rfl rfl (.no rfl) (ca' [0,2,3,4,5] [1] (xf' [.agg #[pt' b0_],il' 0,il' p0.f0.f1]) (F130Lb_0_.ok (b0_:=b0_) (c0_0:=(p0.f0.f2.length : Int).toNat) (p0:=({ p0 with f0:=(S26.mk p0.f0.f0 p0.f0.f1 n2177),f15:=true,f16:=p0.f0 })) (a1:=0) (a2:=p0.f0.f1) C2911) ?_)
  rintro _ _⟨A2899,c2900,A2902,c2903,A2905,c2906,A2908,c2909,rfl,rfl⟩
  refine DN_done (by kernel_rfl) ?_
  refine inb_normal ?_
  have h_:=oi' H;subst h_
  exact bn' [0,1,2,3,4] ⟨A2899,c2900,A2902,c2903,A2905,c2906,A2908,c2909,rfl,rfl⟩
 replace H:=g_iff h11 H
 refine SA_condFb rfl h11 ?_
 refine qr' ?_
 refine s' (.bool a1) mv' ?_
 refine s' (.bool (!a1)) (V_not rfl) ?_
 refine s' (.bool (!a1)) mv' ?_
 obtain⟨q2959,hq2959,H⟩:=g_lt H
 refine cR' 6 [(2,pt' b6),(69,.bool q2959)] [Blk b0_ 34 (c34' p0 A0_0 c0_0 A0_1 c0_1 A0_2 c0_2 A0_3 c0_3),Buf k55 55 A0_0 c0_0 p0.f0.f2,bl' 3 A0_1 c0_1 p0.f7,Buf k55 55 A0_2 c0_2 p0.f16.f2,bw' 21 A0_3 c0_3 p0.f17,Blk b6 84 [pt' b0_]] ?_ fun junk=>?_
 ·by_cases h2960 : (!a1) = true
  ·refine y' h2960 (pt' b6) (fa' b6 0 0) ?_
   refine z' h2960 (ld' b6 0 5) ?_
   refine y' h2960 (pt' b0_) nc' ?_
   refine y' h2960 (pa' b0_ 39) (fa' b0_ 0 39) ?_
   refine z' h2960 (ld' b0_ 39 0) ?_
   refine pT' h2960 ?_
   refine RA_nil ?_
   exact at_normal (St.mk1 (aeq rfl (aeq (congrArg Value.bool (and_t hq2959 (h2960))) aeq0)) (gs' [0,1,2,3,4,5]))
  refine no' 5 (bno h2960) ?_
  refine pF' (bno h2960) ?_
  refine RA_nil ?_
  exact at_normal (St.mk1 (aeq rfl (aeq (congrArg Value.bool (and_f hq2959 (bno h2960))) aeq0)) (gs' [0,1,2,3,4,5]))
 refine s' (.bool q2959) as' ?_
 refine na' ?_
 by_cases h2962 : q2959 = true
 ·replace H:=g_ift h2962 H
  refine SA_condTb rfl h2962 ?_
  refine SA_drawHq (0::1::2::3::4::5::6::7::8::9::11::12::13::15::16::18::19::[]) (List.toArray ([]::[0]::[]::[2]::[]::[4]::[]::[6]::[6,7]::[6,7,8]::(rg' 6 4)::[]::[0,1,6,7,8,9]::[0,1,6,7,8,9,12]::[0,1,6,7,8,9,12,13]::[0,1,2,3,6,7,8,9,11,12,13]::[0,1,2,3,6,7,8,9,11,12,13,15]::(0::1::2::3::6::7::8::9::11::12::13::15::16::[])::(0::1::2::3::4::5::6::7::8::9::11::12::13::15::16::[])::(0::1::2::3::4::5::6::7::8::9::11::12::13::15::16::18::[])::(0::1::2::3::4::5::6::7::8::9::11::12::13::15::16::18::19::[])::[])) [5] (rg' 0 5) mixed rfl rfl rfl (PanOk.inb PanOk.body) fun I0 hS h0 hh0 w0 sH dd pk=>?_
  refine t' (pt' b6) 0 rfl sH (fa' b6 0 0) ?_
  refine r' 1 rfl sH (ld' b6 0 0) ?_
  refine t' (pt' b6) 2 rfl sH (fa' b6 0 0) ?_
  refine r' 3 rfl sH (ld' b6 0 0) ?_
  refine t' (pt' b6) 4 rfl sH (fa' b6 0 0) ?_
  refine r' 5 rfl sH (ld' b6 0 0) ?_
  refine t' (pt' b6) 6 rfl sH (fa' b6 0 0) ?_
  refine r' 7 rfl sH (ld' b6 0 0) ?_
  refine t' (pt' b0_) 8 rfl sH nc' ?_
  refine t' (pa' b0_ 40) 9 rfl sH (fa' b0_ 0 40) ?_
  refine t' (.agg #[il' 0,il' 0,.slice none 0 0]) 11 rfl sH bd' ?_
  refine DH_one 10 dd (by kernel_rfl) rfl (.no rfl) (OA_r rfl (lA' b0_ 40 0 [il' p0.f16.f0,il' p0.f16.f1,.slice A0_2 p0.f16.f2.length c0_2]) ?_)
  refine t' (pt' b0_) 12 rfl sH nc' ?_
  refine t' (pt' b0_) 13 rfl sH (fa' b0_ 0 0) ?_
  refine DH_one 14 dd (by kernel_rfl) rfl (.no rfl) (st' b0_ 0 0 [il' p0.f16.f0,il' p0.f16.f1,.slice A0_2 p0.f16.f2.length c0_2] (c34' ({ p0 with f0:=p0.f16 }) A0_2 c0_2 A0_1 c0_1 A0_2 c0_2 A0_3 c0_3) ?_)
  refine t' (pt' b0_) 15 rfl sH nc' ?_
  refine t' (pa' b0_ 40) 16 rfl sH (fa' b0_ 0 40) ?_
  refine DH_one 17 dd (by kernel_rfl) rfl (.no rfl) (st' b0_ 40 0 [il' 0,il' 0,.slice none 0 0] (c34' ({ p0 with f0:=p0.f16,f16:=z26' }) A0_2 c0_2 A0_1 c0_1 none 0 A0_3 c0_3) ?_)
  refine t' (pt' b0_) 18 rfl sH nc' ?_
  refine t' (pa' b0_ 39) 19 rfl sH (fa' b0_ 0 39) ?_
  refine DH_one 20 dd (by kernel_rfl) rfl (.no rfl) (st' b0_ 39 0 [.bool false] (c34' ({ p0 with f0:=p0.f16,f15:=false,f16:=z26' }) A0_2 c0_2 A0_1 c0_1 none 0 A0_3 c0_3) ?_)
  refine DH_open dd sH ?_
  refine DN_done (by kernel_rfl) ?_
  refine inb_normal ?_
  have h_:=oi' H;subst h_
  exact BQ_n0 [Blk b0_ 34 (c34' ({ p0 with f0:=p0.f16,f15:=false,f16:=z26' }) A0_2 c0_2 A0_1 c0_1 none 0 A0_3 c0_3),Buf k55 55 A0_2 c0_2 p0.f16.f2,bl' 3 A0_1 c0_1 p0.f7,Buf k55 55 none 0 ([] : (List S55)),bw' 21 A0_3 c0_3 p0.f17] rfl ((Gh.nilBuf k55 55).trans (gs' [1,4,3,6,5])) ⟨A0_2,c0_2,A0_1,c0_1,none,0,A0_3,c0_3,rfl,rfl⟩
 replace H:=g_iff h2962 H
 refine SA_condFb rfl h2962 ?_
 refine SA_skip (inb_normal ?_)
 have h_:=oi' H;subst h_
 exact bn' [0,1,2,3,4] ⟨A0_0,c0_0,A0_1,c0_1,A0_2,c0_2,A0_3,c0_3,rfl,rfl⟩


def F91Lb_0_.f (k : Nat) (p0 : S34) (a1 : Bool) (a2 : Int) (a3 : Bool) : Option (S34):=if (!a1) = true then (if a2 = 4 then (some (({ p0 with f10:=a3 }))) else (some (p0))) else (if a2 = 1 then (some (({ p0 with f11:=a3 }))) else (if a2 = 6 then ((F79Lb_0_.f ({ p0 with f9:=a3 }) 0 0).bind (fun r16=>some (r16))) else (if a2 = 7 then (some (({ p0 with f8:=a3 }))) else (if a2 = 25 then (some (({ p0 with f13:=a3 }))) else (if a2 = 2004 then (some (({ p0 with f12:=a3 }))) else ((if a2 = 47 then (some (decide (a2 = 47))) else (some (decide (a2 = 1047))) : Option (Bool)).bind (fun t33=>if t33 = true then ((F132Lb_0_.f k p0 a3).bind (fun r41=>some (r41))) else (if a2 = 1049 then ((if a3 = true then ((F64Lb_0_.f p0 false).bind (fun r74=>some r74)) else (some p0) : Option (S34)).bind (fun t56=>(F132Lb_0_.f k t56 a3).bind (fun r93=>lt ((!a3) && p0.f15) fun q106=>if q106 = true then ((F64Lb_0_.f r93 true).bind (fun r114=>some (r114))) else (some (r93))))) else (some (p0))))))))))
theorem F91Lb_0_.ok {p0 : S34} {a1 : Bool} {a2 : Int} {a3 : Bool} {r : S34} (H : F91Lb_0_.f k p0 a1 a2 a3 = some r) : SCA Tryz.prog 91 #[.agg #[.pointer (some ⟨b0_,0,none⟩)],.bool a1,il' a2,.bool a3] [Blk b0_ 34 (c34' p0 A0_0 c0_0 A0_1 c0_1 A0_2 c0_2 A0_3 c0_3),Buf k55 55 A0_0 c0_0 p0.f0.f2,bl' 3 A0_1 c0_1 p0.f7,Buf k55 55 A0_2 c0_2 p0.f16.f2,bw' 21 A0_3 c0_3 p0.f17] (fun v B=>∃ P0_0_ q0_0_ P0_1_ q0_1_ P0_2_ q0_2_ P0_3_ q0_3_,v = .tuple #[]∧B = [Blk b0_ 34 (c34' r P0_0_ q0_0_ P0_1_ q0_1_ P0_2_ q0_2_ P0_3_ q0_3_),Buf k55 55 P0_0_ q0_0_ r.f0.f2,bl' 3 P0_1_ q0_1_ r.f7,Buf k55 55 P0_2_ q0_2_ r.f16.f2,bw' 21 P0_3_ q0_3_ r.f17]):=by
 refine SCA_of_body Tryz.func91 rfl rfl ?_
 unfold F91Lb_0_.f at H
 refine qr' ?_
 refine o' (bx' fun b6=>?_)
 refine nq' ?_
 refine s' (.bool a1) mv' ?_
 refine s' (.bool (!a1)) (V_not rfl) ?_
 refine na' ?_
 by_cases h8 : (!a1) = true
 ·replace H:=g_ift h8 H
  refine SA_condTb rfl h8 ?_
  refine SA_seq (qr' ?_)
  refine s' (il' a2) mv' ?_
  refine s' (.bool (decide (a2 = 4))) (V_eql rfl rfl) ?_
  refine na' ?_
  by_cases h9 : a2 = 4
  ·replace H:=g_ift h9 H
   refine SA_condT rfl h9 ?_
   refine SA_region ?_
   refine s' (pt' b6) (fa' b6 0 0) ?_
   refine l' (ld' b6 0 5) ?_
   refine s' (.bool a3) mv' ?_
   refine s' (pt' b0_) nc' ?_
   refine s' (pa' b0_ 21) (fa' b0_ 0 21) ?_
   refine o' (st' b0_ 21 0 [.bool a3] (c34' ({ p0 with f10:=a3 }) A0_0 c0_0 A0_1 c0_1 A0_2 c0_2 A0_3 c0_3) ?_)
   refine ntt' ?_
   have h_:=oi' H;subst h_
   exact BQ_R0 [Blk b0_ 34 (c34' ({ p0 with f10:=a3 }) A0_0 c0_0 A0_1 c0_1 A0_2 c0_2 A0_3 c0_3),Buf k55 55 A0_0 c0_0 p0.f0.f2,bl' 3 A0_1 c0_1 p0.f7,Buf k55 55 A0_2 c0_2 p0.f16.f2,bw' 21 A0_3 c0_3 p0.f17] rfl (gs' [0,1,2,3,4]) ⟨A0_0,c0_0,A0_1,c0_1,A0_2,c0_2,A0_3,c0_3,rfl,rfl⟩
  replace H:=g_iff h9 H
  refine SA_condF rfl h9 ?_
  refine SA_skip (at_normal (SA_ret (thn_ret ?_)))
  have h_:=oi' H;subst h_
  exact BQ_R0 [Blk b0_ 34 (c34' p0 A0_0 c0_0 A0_1 c0_1 A0_2 c0_2 A0_3 c0_3),Buf k55 55 A0_0 c0_0 p0.f0.f2,bl' 3 A0_1 c0_1 p0.f7,Buf k55 55 A0_2 c0_2 p0.f16.f2,bw' 21 A0_3 c0_3 p0.f17] rfl (gs' [0,1,2,3,4]) ⟨A0_0,c0_0,A0_1,c0_1,A0_2,c0_2,A0_3,c0_3,rfl,rfl⟩
 replace H:=g_iff h8 H
 refine SA_condFb rfl h8 ?_
 refine SA_skip (at_normal (qr' ?_))
 refine s' (il' a2) mv' ?_
 refine na' (SA_block (qr' ?_))
 refine s' (.bool (decide (a2 = 1))) (V_eql rfl rfl) ?_
 refine s' (.bool (decide (a2 = 1))) as' ?_
 refine na' ?_
 by_cases h10 : a2 = 1
 ·replace H:=g_ift h10 H
  refine SA_condT rfl h10 ?_
  refine SA_region ?_
  refine s' (pt' b6) (fa' b6 0 0) ?_
  refine l' (ld' b6 0 5) ?_
  refine s' (.bool a3) mv' ?_
  refine s' (pt' b0_) nc' ?_
  refine s' (pa' b0_ 22) (fa' b0_ 0 22) ?_
  refine o' (st' b0_ 22 0 [.bool a3] (c34' ({ p0 with f11:=a3 }) A0_0 c0_0 A0_1 c0_1 A0_2 c0_2 A0_3 c0_3) ?_)
  refine RA_nil (inb_normal ?_)
  have h_:=oi' H;subst h_
  exact bn' [0,1,2,3,4] ⟨A0_0,c0_0,A0_1,c0_1,A0_2,c0_2,A0_3,c0_3,rfl,rfl⟩
 replace H:=g_iff h10 H
 refine SA_condF rfl h10 ?_
 refine qr' ?_
 refine s' (.bool (decide (a2 = 6))) (V_eql rfl rfl) ?_
 refine s' (.bool (decide (a2 = 6))) as' ?_
 refine na' ?_
 by_cases h11 : a2 = 6
 ·replace H:=g_ift h11 H
  refine SA_condT rfl h11 ?_
  refine qr' ?_
  refine s' (pt' b6) (fa' b6 0 0) ?_
  refine l' (ld' b6 0 5) ?_
  refine s' (.bool a3) mv' ?_
  refine s' (pt' b0_) nc' ?_
  refine s' (pa' b0_ 20) (fa' b0_ 0 20) ?_
  refine o' (st' b0_ 20 0 [.bool a3] (c34' ({ p0 with f9:=a3 }) A0_0 c0_0 A0_1 c0_1 A0_2 c0_2 A0_3 c0_3) ?_)
  refine na' ?_
  refine fc' 1 fun hc12=>?_
  refine fc' 2 fun hc13=>?_
  refine fc' 3 fun hc14=>?_
  refine fc' 4 fun hc15=>?_
  refine SA_region ?_
  refine l' (lA' b6 0 5 [pt' b0_]) ?_
  obtain⟨r16,C29,H⟩:=g_bind H
  refine o' (ca' [0,1,2,3,4] [5] (xf' [.agg #[pt' b0_],il' 0,il' 0]) (F79Lb_0_.ok (b0_:=b0_) (p0:=({ p0 with f9:=a3 })) (a1:=0) (a2:=0) C29) ?_)
  rintro _ _⟨A17,c18,A20,c21,A23,c24,A26,c27,rfl,rfl⟩
  refine RA_nil (inb_normal ?_)
  have h_:=oi' H;subst h_
  exact bn' [0,1,2,3,4] ⟨A17,c18,A20,c21,A23,c24,A26,c27,rfl,rfl⟩
 replace H:=g_iff h11 H
 refine SA_condF rfl h11 ?_
 refine qr' ?_
 refine s' (.bool (decide (a2 = 7))) (V_eql rfl rfl) ?_
 refine s' (.bool (decide (a2 = 7))) as' ?_
 refine na' ?_
 by_cases h30 : a2 = 7
 ·replace H:=g_ift h30 H
  refine SA_condT rfl h30 ?_
  refine SA_region ?_
  refine s' (pt' b6) (fa' b6 0 0) ?_
  refine l' (ld' b6 0 5) ?_
  refine s' (.bool a3) mv' ?_
  refine s' (pt' b0_) nc' ?_
  refine s' (pa' b0_ 19) (fa' b0_ 0 19) ?_
  refine o' (st' b0_ 19 0 [.bool a3] (c34' ({ p0 with f8:=a3 }) A0_0 c0_0 A0_1 c0_1 A0_2 c0_2 A0_3 c0_3) ?_)
  refine RA_nil (inb_normal ?_)
  have h_:=oi' H;subst h_
  exact bn' [0,1,2,3,4] ⟨A0_0,c0_0,A0_1,c0_1,A0_2,c0_2,A0_3,c0_3,rfl,rfl⟩
 replace H:=g_iff h30 H
 refine SA_condF rfl h30 ?_
 refine qr' ?_
 refine s' (.bool (decide (a2 = 25))) (V_eql rfl rfl) ?_
 refine s' (.bool (decide (a2 = 25))) as' ?_
 refine na' ?_
 by_cases h31 : a2 = 25
 ·replace H:=g_ift h31 H
  refine SA_condT rfl h31 ?_
  refine SA_region ?_
  refine s' (pt' b6) (fa' b6 0 0) ?_
  refine l' (ld' b6 0 5) ?_
  refine s' (.bool a3) mv' ?_
  refine s' (pt' b0_) nc' ?_
  refine s' (pa' b0_ 24) (fa' b0_ 0 24) ?_
  refine o' (st' b0_ 24 0 [.bool a3] (c34' ({ p0 with f13:=a3 }) A0_0 c0_0 A0_1 c0_1 A0_2 c0_2 A0_3 c0_3) ?_)
  refine RA_nil (inb_normal ?_)
  have h_:=oi' H;subst h_
  exact bn' [0,1,2,3,4] ⟨A0_0,c0_0,A0_1,c0_1,A0_2,c0_2,A0_3,c0_3,rfl,rfl⟩
 replace H:=g_iff h31 H
 refine SA_condF rfl h31 ?_
 refine qr' ?_
 refine s' (.bool (decide (a2 = 2004))) (V_eql rfl rfl) ?_
 refine s' (.bool (decide (a2 = 2004))) as' ?_
 refine na' ?_
 by_cases h32 : a2 = 2004
 ·replace H:=g_ift h32 H
  refine SA_condT rfl h32 ?_
  refine SA_region ?_
  refine s' (pt' b6) (fa' b6 0 0) ?_
  refine l' (ld' b6 0 5) ?_
  refine s' (.bool a3) mv' ?_
  refine s' (pt' b0_) nc' ?_
  refine s' (pa' b0_ 23) (fa' b0_ 0 23) ?_
  refine o' (st' b0_ 23 0 [.bool a3] (c34' ({ p0 with f12:=a3 }) A0_0 c0_0 A0_1 c0_1 A0_2 c0_2 A0_3 c0_3) ?_)
  refine RA_nil (inb_normal ?_)
  have h_:=oi' H;subst h_
  exact bn' [0,1,2,3,4] ⟨A0_0,c0_0,A0_1,c0_1,A0_2,c0_2,A0_3,c0_3,rfl,rfl⟩
 replace H:=g_iff h32 H
 refine SA_condF rfl h32 ?_
 refine SA_seq (qr' ?_)
 refine s' (.bool (decide (a2 = 47))) (V_eql rfl rfl) ?_
 refine s' (.bool (decide (a2 = 47))) as' ?_
 refine na' ?_
 obtain⟨t33,H,Bt33⟩:=g_bind H
 refine SA_mid (fun e ds As=>St [(3,.bool a3),(4,pt' b6),(18,il' a2),(56,.bool t33)] [Blk b0_ 34 (c34' p0 A0_0 c0_0 A0_1 c0_1 A0_2 c0_2 A0_3 c0_3),Buf k55 55 A0_0 c0_0 p0.f0.f2,bl' 3 A0_1 c0_1 p0.f7,Buf k55 55 A0_2 c0_2 p0.f16.f2,bw' 21 A0_3 c0_3 p0.f17,Blk b6 84 [pt' b0_]] e ds As) ?_ ?_
 ·by_cases h34 : a2 = 47
  ·replace H:=g_ift h34 H
   refine SA_condT rfl h34 ?_
   refine SA_skip ?_
   have h_:=oi' H;subst h_
   exact sm' [0,1,2,3,4,5]
  replace H:=g_iff h34 H
  refine SA_condF rfl h34 ?_
  refine SA_region ?_
  refine s' (.bool (decide (a2 = 1047))) (V_eql rfl rfl) ?_
  refine s' (.bool (decide (a2 = 1047))) as' ?_
  refine RA_nil ?_
  have h_:=oi' H;subst h_
  exact sm' [0,1,2,3,4,5]
 rintro e ds As hst35
 clear H
 have H:=Bt33
 clear Bt33
 refine at_normal ?_
 refine SA.of_St hst35 fun junk=>?_
 by_cases h36 : t33 = true
 ·replace H:=g_ift h36 H
  refine SA_condTb rfl h36 ?_
  refine fc' 1 fun hc37=>?_
  refine fc' 2 fun hc38=>?_
  refine fc' 3 fun hc39=>?_
  refine fc' 4 fun hc40=>?_
  refine SA_region ?_
  refine l' (lA' b6 0 5 [pt' b0_]) ?_
  refine s' (.bool a3) mv' ?_
  obtain⟨r41,C54,H⟩:=g_bind H
  refine o' (ca' [0,1,2,3,4] [5] (xf' [.agg #[pt' b0_],.bool a3]) (F132Lb_0_.ok (b0_:=b0_) (p0:=p0) (a1:=a3) C54) ?_)
  rintro _ _⟨A42,c43,A45,c46,A48,c49,A51,c52,rfl,rfl⟩
  refine RA_nil (inb_normal ?_)
  have h_:=oi' H;subst h_
  exact bn' [0,1,2,3,4] ⟨A42,c43,A45,c46,A48,c49,A51,c52,rfl,rfl⟩
 replace H:=g_iff h36 H
 refine SA_condFb rfl h36 ?_
 refine qr' ?_
 refine s' (.bool (decide (a2 = 1049))) (V_eql rfl rfl) ?_
 refine s' (.bool (decide (a2 = 1049))) as' ?_
 refine na' ?_
 by_cases h55 : a2 = 1049
 ·replace H:=g_ift h55 H
  refine SA_condT rfl h55 ?_
  refine qr' ?_
  refine s' (pt' b6) (fa' b6 0 0) ?_
  refine l' (ld' b6 0 5) ?_
  refine s' (pt' b0_) nc' ?_
  refine s' (pa' b0_ 39) (fa' b0_ 0 39) ?_
  refine l' (ld' b0_ 39 0) ?_
  refine s' (.bool p0.f15) as' ?_
  refine nq' ?_
  refine s' (.bool a3) mv' ?_
  refine na' ?_
  obtain⟨t56,H,Bt56⟩:=g_bind H
  refine SA_mid (fun e ds As=>∃ (A57 : Option Addr) (c58 : Nat),∃ (A60 : Option Addr) (c61 : Nat),∃ (A63 : Option Addr) (c64 : Nat),∃ (A66 : Option Addr) (c67 : Nat),St [(3,.bool a3),(4,pt' b6),(8,.bool p0.f15)] [Blk b0_ 34 (c34' t56 A57 c58 A60 c61 A63 c64 A66 c67),Buf k55 55 A57 c58 t56.f0.f2,bl' 3 A60 c61 t56.f7,Buf k55 55 A63 c64 t56.f16.f2,bw' 21 A66 c67 t56.f17,Blk b6 84 [pt' b0_]] e ds As) ?_ ?_
  ·by_cases h69 : a3 = true
   ·replace H:=g_ift h69 H
    refine SA_condTb rfl h69 ?_
    refine fc' 1 fun hc70=>?_
    refine fc' 2 fun hc71=>?_
    refine fc' 3 fun hc72=>?_
    refine fc' 4 fun hc73=>?_
    refine SA_region ?_
    refine l' (lA' b6 0 5 [pt' b0_]) ?_
    obtain⟨r74,C87,H⟩:=g_bind H
    refine o' (ca' [0,1,2,3,4] [5] (xf' [.agg #[pt' b0_],.bool false]) (F64Lb_0_.ok (b0_:=b0_) (p0:=p0) (a1:=false) C87) ?_)
    rintro _ _⟨A75,c76,A78,c79,A81,c82,A84,c85,rfl,rfl⟩
    refine RA_nil ?_
    have h_:=oi' H;subst h_
    exact at_normal ⟨A75,c76,A78,c79,A81,c82,A84,c85,sq' [0,1,2,3,4,5]⟩
   replace H:=g_iff h69 H
   refine SA_condFb rfl h69 ?_
   refine SA_skip ?_
   have h_:=oi' H;subst h_
   exact at_normal ⟨A0_0,c0_0,A0_1,c0_1,A0_2,c0_2,A0_3,c0_3,sq' [0,1,2,3,4,5]⟩
  rintro e ds As ⟨A57,c58,A60,c61,A63,c64,A66,c67,hst88⟩
  clear H
  have H:=Bt56
  clear Bt56
  refine at_normal ?_
  refine SA.of_St hst88 fun junk=>?_
  refine SA_seq ?_
  refine fc' 1 fun hc89=>?_
  refine fc' 2 fun hc90=>?_
  refine fc' 3 fun hc91=>?_
  refine fc' 4 fun hc92=>?_
  refine SA_region ?_
  refine l' (lA' b6 0 5 [pt' b0_]) ?_
  refine s' (.bool a3) mv' ?_
  obtain⟨r93,C128,H⟩:=g_bind H
  refine o' (ca' [0,1,2,3,4] [5] (xf' [.agg #[pt' b0_],.bool a3]) (F132Lb_0_.ok (b0_:=b0_) (p0:=t56) (a1:=a3) C128) ?_)
  rintro _ _⟨A94,c95,A97,c98,A100,c101,A103,c104,rfl,rfl⟩
  refine nr' ?_
  refine s' (.bool a3) mv' ?_
  refine s' (.bool (!a3)) (V_not rfl) ?_
  refine s' (.bool (!a3)) mv' ?_
  obtain⟨q106,hq106,H⟩:=g_lt H
  refine RA_cut 2 (fun e ds As=>St [(4,pt' b6),(79,.bool q106)] [Blk b0_ 34 (c34' r93 A94 c95 A97 c98 A100 c101 A103 c104),Buf k55 55 A94 c95 r93.f0.f2,bl' 3 A97 c98 r93.f7,Buf k55 55 A100 c101 r93.f16.f2,bw' 21 A103 c104 r93.f17,Blk b6 84 [pt' b0_]] e ds As) ?_ ?_
  ·by_cases h107 : (!a3) = true
   ·refine y' h107 (.bool p0.f15) mv' ?_
    refine pT' h107 ?_
    refine RA_nil ?_
    exact at_normal (St.mk1 (aeq rfl (aeq (congrArg Value.bool (and_t hq106 (h107))) aeq0)) (gs' [0,1,2,3,4,5]))
   refine no' 1 (bno h107) ?_
   refine pF' (bno h107) ?_
   refine RA_nil ?_
   exact at_normal (St.mk1 (aeq rfl (aeq (congrArg Value.bool (and_f hq106 (bno h107))) aeq0)) (gs' [0,1,2,3,4,5]))
  rintro e ds As hst108
  refine na' ?_
  refine SA.of_St hst108 fun junk=>?_
  by_cases h109 : q106 = true
  ·replace H:=g_ift h109 H
   refine SA_condTb rfl h109 ?_
   refine fc' 1 fun hc110=>?_
   refine fc' 2 fun hc111=>?_
   refine fc' 3 fun hc112=>?_
   refine fc' 4 fun hc113=>?_
   refine SA_region ?_
   refine l' (lA' b6 0 5 [pt' b0_]) ?_
   obtain⟨r114,C127,H⟩:=g_bind H
   refine o' (ca' [0,1,2,3,4] [5] (xf' [.agg #[pt' b0_],.bool true]) (F64Lb_0_.ok (b0_:=b0_) (p0:=r93) (a1:=true) C127) ?_)
   rintro _ _⟨A115,c116,A118,c119,A121,c122,A124,c125,rfl,rfl⟩
   refine RA_nil (inb_normal ?_)
   have h_:=oi' H;subst h_
   exact bn' [0,1,2,3,4] ⟨A115,c116,A118,c119,A121,c122,A124,c125,rfl,rfl⟩
  replace H:=g_iff h109 H
  refine SA_condFb rfl h109 ?_
  refine SA_skip (inb_normal ?_)
  have h_:=oi' H;subst h_
  exact bn' [0,1,2,3,4] ⟨A94,c95,A97,c98,A100,c101,A103,c104,rfl,rfl⟩
 replace H:=g_iff h55 H
 refine SA_condF rfl h55 ?_
 refine SA_skip (inb_normal ?_)
 have h_:=oi' H;subst h_
 exact bn' [0,1,2,3,4] ⟨A0_0,c0_0,A0_1,c0_1,A0_2,c0_2,A0_3,c0_3,rfl,rfl⟩


def F90Lb_0_.f (k : Nat) (p0 : S34) (p1 : Bool) (p2 : Int) (p3 : Bool) : Option (S34):=(F91Lb_0_.f k p0 p1 p2 p3).bind (fun r15=>some (r15))
theorem F90Lb_0_.ok {p0 : S34} {p1 : Bool} {p2 : Int} {p3 : Bool} {r : S34} (H : F90Lb_0_.f k p0 p1 p2 p3 = some r) : SCA Tryz.prog 90 #[.agg #[.pointer (some ⟨b0_,0,none⟩)],.pointer (some ⟨b1_,0,none⟩),.pointer (some ⟨b2_,0,none⟩),.pointer (some ⟨b3_,0,none⟩)] [Blk b0_ 34 (c34' p0 A0_0 c0_0 A0_1 c0_1 A0_2 c0_2 A0_3 c0_3),Buf k55 55 A0_0 c0_0 p0.f0.f2,bl' 3 A0_1 c0_1 p0.f7,Buf k55 55 A0_2 c0_2 p0.f16.f2,bw' 21 A0_3 c0_3 p0.f17,Blk b1_ 4 [.bool p1],Blk b2_ 3 [il' p2],Blk b3_ 4 [.bool p3]] (fun v B=>∃ P0_0_ q0_0_ P0_1_ q0_1_ P0_2_ q0_2_ P0_3_ q0_3_,v = .tuple #[]∧B = [Blk b0_ 34 (c34' r P0_0_ q0_0_ P0_1_ q0_1_ P0_2_ q0_2_ P0_3_ q0_3_),Buf k55 55 P0_0_ q0_0_ r.f0.f2,bl' 3 P0_1_ q0_1_ r.f7,Buf k55 55 P0_2_ q0_2_ r.f16.f2,bw' 21 P0_3_ q0_3_ r.f17,Blk b1_ 4 [.bool p1],Blk b2_ 3 [il' p2],Blk b3_ 4 [.bool p3]]):=by
 refine SCA_of_body Tryz.func90 rfl rfl ?_
 unfold F90Lb_0_.f at H
 refine qr' ?_
 refine o' (bx' fun b9=>?_)
 refine na' ?_
 refine fc' 1 fun hc11=>?_
 refine fc' 2 fun hc12=>?_
 refine fc' 3 fun hc13=>?_
 refine fc' 4 fun hc14=>?_
 refine SA_region ?_
 refine l' (lA' b9 0 8 [pt' b0_]) ?_
 refine l' (ld' b1_ 0 5) ?_
 refine l' (ld' b2_ 0 6) ?_
 refine l' (ld' b3_ 0 7) ?_
 obtain⟨r15,C28,H⟩:=g_bind H
 refine o' (ca' [0,1,2,3,4] [5,6,7,8] (xf' [.agg #[pt' b0_],.bool p1,il' p2,.bool p3]) (F91Lb_0_.ok (b0_:=b0_) (p0:=p0) (a1:=p1) (a2:=p2) (a3:=p3) C28) ?_)
 rintro _ _⟨A16,c17,A19,c20,A22,c23,A25,c26,rfl,rfl⟩
 refine RA_nil ?_
 have h_:=oi' H;subst h_
 exact bn' [0,1,2,3,4,5,6,7] ⟨A16,c17,A19,c20,A22,c23,A25,c26,rfl,rfl⟩


def F62f90xxx_1_.f (k : Nat) (a0 : S34) (p2000 : Bool) (p2001 : Int) (p2002 : Bool) : Option (S34 × Int):=(F16b0.f k a0).bind (fun r12=>if (!r12) = true then (some (((S34.mk (S26.mk 0 0 ([] : (List S55))) 0 0 false (S28.mk 0 0 false false false false false false false false) 0 0 ([] : (List Int)) false false false false false false (S31.mk 0 0 false false (S28.mk 0 0 false false false false false false false false)) false (S26.mk 0 0 ([] : (List S55))) ([] : (List Int))),2))) else ((F97.f a0).bind (fun r18=>(F90Lb_0_.f k r18 p2000 p2001 p2002).bind (fun r31=>some ((r31,0))))))
theorem F62f90xxx_1_.ok {a0 : S34} {p2000 : Bool} {p2001 : Int} {p2002 : Bool} {r : S34 × Int} (H : F62f90xxx_1_.f k a0 p2000 p2001 p2002 = some r) : SCA Tryz.prog 62 #[.agg (c34' a0 A0_0 c0_0 A0_1 c0_1 A0_2 c0_2 A0_3 c0_3).toArray,.func (.func 90) #[] #[.pointer (some ⟨b2000_,0,none⟩),.pointer (some ⟨b2001_,0,none⟩),.pointer (some ⟨b2002_,0,none⟩)]] [Ro k55 A0_0 c0_0 a0.f0.f2,rl' A0_1 c0_1 a0.f7,Ro k55 A0_2 c0_2 a0.f16.f2,rw' A0_3 c0_3 a0.f17,Blk b2000_ 4 [.bool p2000],Blk b2001_ 3 [il' p2001],Blk b2002_ 4 [.bool p2002]] (fun v B=>∃ A0_0_ c0_0_ A0_1_ c0_1_ A0_2_ c0_2_ A0_3_ c0_3_,v = .tuple #[.agg (c34' r.1 A0_0_ c0_0_ A0_1_ c0_1_ A0_2_ c0_2_ A0_3_ c0_3_).toArray,il' r.2]∧B = [Buf k55 55 A0_0_ c0_0_ r.1.f0.f2,bl' 3 A0_1_ c0_1_ r.1.f7,Buf k55 55 A0_2_ c0_2_ r.1.f16.f2,bw' 21 A0_3_ c0_3_ r.1.f17,Blk b2000_ 4 [.bool p2000],Blk b2001_ 3 [il' p2001],Blk b2002_ 4 [.bool p2002]]):=by
 refine SCA_of_body Tryz.func62 rfl rfl ?_
 unfold F62f90xxx_1_.f at H
 refine qr' ?_
 refine o' (bx' fun b8=>?_)
 refine o' (al' fun b10=>?_)
 refine s' (il' 0) as' ?_
 refine nq' ?_
 refine l' (lA' b8 0 7 (c34' a0 A0_0 c0_0 A0_1 c0_1 A0_2 c0_2 A0_3 c0_3)) ?_
 obtain⟨r12,C46,H⟩:=g_bind H
 refine o' (ca' [0,1,2,3] [0,1,2,3,4,5,6,7,8] (xf' [.agg (c34' a0 A0_0 c0_0 A0_1 c0_1 A0_2 c0_2 A0_3 c0_3).toArray]) (F16.ok (a0:=a0) C46) ?_)
 rintro _ _⟨rfl,rfl⟩
 refine s' (.bool (!r12)) (V_not rfl) ?_
 refine na' ?_
 by_cases h13 : (!r12) = true
 ·replace H:=g_ift h13 H
  refine SA_condTb rfl h13 ?_
  refine qr' ?_
  refine s' (.agg (c34' z34' none 0 none 0 none 0 none 0).toArray) bd' ?_
  refine o' (su' b10 0 8 (c34' z34' none 0 none 0 none 0 none 0) ?_)
  refine s' (il' 2) as' ?_
  refine ntt' ?_
  have h_:=oi' H;subst h_
  exact BQ_RL (rs:=[.cell 4 34,.tmp 5]) (vs:=[.agg (c34' z34' none 0 none 0 none 0 none 0).toArray,il' 2]) [Buf k55 55 none 0 ([] : (List S55)),bl' 3 none 0 ([] : (List Int)),Buf k55 55 none 0 ([] : (List S55)),bw' 21 none 0 ([] : (List Int)),Blk b2000_ 4 [.bool p2000],Blk b2001_ 3 [il' p2001],Blk b2002_ 4 [.bool p2002]] rfl ⟨RV.cell (k:=8) rfl rfl Tryz.underlying34 rfl sz34,RV.tmp rfl,trivial⟩ rfl ((Gh.nilBuf k55 55).trans ((Gh.nilBuf (Kd.int .i64) 3).trans ((Gh.nilBuf k55 55).trans ((Gh.nilBuf (Kd.int .i32) 21).trans (gs' [9,10,11,12,4,5,6]))))) ⟨none,0,none,0,none,0,none,0,rfl,rfl⟩
 replace H:=g_iff h13 H
 refine SA_condFb rfl h13 ?_
 refine SA_skip (at_normal (qr' ?_))
 refine l' (lA' b8 0 7 (c34' a0 A0_0 c0_0 A0_1 c0_1 A0_2 c0_2 A0_3 c0_3)) ?_
 obtain⟨r18,C45,H⟩:=g_bind H
 refine o' (ca' [0,1,2,3] [0,1,2,3,4,5,6,7,8] (xf' [.agg (c34' a0 A0_0 c0_0 A0_1 c0_1 A0_2 c0_2 A0_3 c0_3).toArray]) (F97.ok (a0:=a0) C45) ?_)
 rintro _ _⟨A19,c20,A22,c23,A25,c26,A28,c29,rfl,rfl⟩
 refine o' (su' b8 0 11 (c34' r18 A19 c20 A22 c23 A25 c26 A28 c29) ?_)
 refine na' ?_
 refine SA.of_St (l:=[(1,.func (.func 90) #[] #[pt' b2000_,pt' b2001_,pt' b2002_]),(2,pt' b8),(4,pt' b10)]) (B:=[Blk b2002_ 4 [.bool p2002],Blk b2001_ 3 [il' p2001],Blk b2000_ 4 [.bool p2000],Blk b8 34 (c34' r18 A19 c20 A22 c23 A25 c26 A28 c29),Buf k55 55 A19 c20 r18.f0.f2,bl' 3 A22 c23 r18.f7,Buf k55 55 A25 c26 r18.f16.f2,bw' 21 A28 c29 r18.f17,Blk b10 34 (c34' z34' none 0 none 0 none 0 none 0)]) (St.mk1 (aeq rfl (aeq rfl (aeq rfl aeq0))) (Gh.sel [10,9,8,11,0,1,2,3,12] (by kernel_rfl) (by kernel_rfl))) fun junk=>?_
 refine qr' ?_
 refine s' (.func (.func 90) #[] #[pt' b2000_,pt' b2001_,pt' b2002_]) mv' ?_
 refine s' (.agg #[pt' b8]) bd' ?_
 obtain⟨r31,C44,H⟩:=g_bind H
 refine o' (ca' [3,4,5,6,7,2,1,0] [8] (X_fnV (vs:=[.agg #[pt' b8]]) (cap:=[pt' b2000_,pt' b2001_,pt' b2002_]) rfl Tryz.func90 nm90 rfl rfl) (F90Lb_0_.ok (b0_:=b8) (p0:=r18) (b1_:=b2000_) (p1:=p2000) (b2_:=b2001_) (p2:=p2001) (b3_:=b2002_) (p3:=p2002) C44) ?_)
 rintro _ _⟨A32,c33,A35,c36,A38,c39,A41,c42,rfl,rfl⟩
 refine nr' ?_
 refine l' (lA' b8 0 0 (c34' r31 A32 c33 A35 c36 A38 c39 A41 c42)) ?_
 refine o' (su' b10 0 8 (c34' r31 A32 c33 A35 c36 A38 c39 A41 c42) ?_)
 refine s' (il' 0) as' ?_
 refine nt' ?_
 have h_:=oi' H;subst h_
 exact b2' [.cell 4 34,.tmp 5] [1,2,3,4,5,6,7] ⟨A32,c33,A35,c36,A38,c39,A41,c42,rfl,rfl⟩ ⟨RV.cell (k:=8) rfl rfl Tryz.underlying34 rfl sz34,RV.tmp rfl,trivial⟩


def F36.f (k : Nat) (a0 : S34) (a1 : Bool) (a2 : Int) (a3 : Bool) : Option (S34 × Int):=(F62f90xxx_1_.f k a0 a1 a2 a3).bind (fun r15=>some ((r15.1,r15.2)))
theorem F36.ok {a0 : S34} {a1 : Bool} {a2 : Int} {a3 : Bool} {r : S34 × Int} (H : F36.f k a0 a1 a2 a3 = some r) : SCA Tryz.prog 36 #[.agg (c34' a0 A0_0 c0_0 A0_1 c0_1 A0_2 c0_2 A0_3 c0_3).toArray,.bool a1,il' a2,.bool a3] [Ro k55 A0_0 c0_0 a0.f0.f2,rl' A0_1 c0_1 a0.f7,Ro k55 A0_2 c0_2 a0.f16.f2,rw' A0_3 c0_3 a0.f17] (fun v B=>∃ A0_0_ c0_0_ A0_1_ c0_1_ A0_2_ c0_2_ A0_3_ c0_3_,v = .tuple #[.agg (c34' r.1 A0_0_ c0_0_ A0_1_ c0_1_ A0_2_ c0_2_ A0_3_ c0_3_).toArray,il' r.2]∧B = [Buf k55 55 A0_0_ c0_0_ r.1.f0.f2,bl' 3 A0_1_ c0_1_ r.1.f7,Buf k55 55 A0_2_ c0_2_ r.1.f16.f2,bw' 21 A0_3_ c0_3_ r.1.f17]):=by
 refine SCA_of_body Tryz.func36 rfl rfl ?_
 unfold F36.f at H
 refine qr' ?_
 refine o' (bx' fun b5=>?_)
 refine o' (bx' fun b7=>?_)
 refine o' (bx' fun b9=>?_)
 refine o' (bx' fun b11=>?_)
 refine o' (al' fun b13=>?_)
 refine s' (il' 0) as' ?_
 refine nr' ?_
 refine l' (lA' b5 0 4 (c34' a0 A0_0 c0_0 A0_1 c0_1 A0_2 c0_2 A0_3 c0_3)) ?_
 refine s' (.func (.func 90) #[] #[pt' b7,pt' b9,pt' b11]) (V_makeFuncL (us:=[pt' b7,pt' b9,pt' b11]) rfl) ?_
 obtain⟨r15,C28,H⟩:=g_bind H
 refine o' (ca' [0,1,2,3,5,6,7] [0,1,2,3,4,8] (xf' [.agg (c34' a0 A0_0 c0_0 A0_1 c0_1 A0_2 c0_2 A0_3 c0_3).toArray,.func (.func 90) #[] #[pt' b7,pt' b9,pt' b11]]) (F62f90xxx_1_.ok (a0:=a0) (b2000_:=b7) (p2000:=a1) (b2001_:=b9) (p2001:=a2) (b2002_:=b11) (p2002:=a3) C28) ?_)
 rintro _ _⟨A16,c17,A19,c20,A22,c23,A25,c26,rfl,rfl⟩
 refine s' (.agg (c34' r15.1 A16 c17 A19 c20 A22 c23 A25 c26).toArray) ex' ?_
 refine s' (il' r15.2) ex' ?_
 refine o' (su' b13 0 12 (c34' r15.1 A16 c17 A19 c20 A22 c23 A25 c26) ?_)
 refine s' (il' r15.2) as' ?_
 refine nt' ?_
 have h_:=oi' H;subst h_
 exact b2' [.cell 8 34,.tmp 9] [0,1,2,3] ⟨A16,c17,A19,c20,A22,c23,A25,c26,rfl,rfl⟩ ⟨RV.cell (k:=12) rfl rfl Tryz.underlying34 rfl sz34,RV.tmp rfl,trivial⟩

end Go.Proofs.YtckilbegmbaeeaaGreat.Z5

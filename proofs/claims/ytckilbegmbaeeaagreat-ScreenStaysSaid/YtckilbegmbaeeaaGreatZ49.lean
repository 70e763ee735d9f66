/- What functions compute, and that they do: 123w0b2, 124, 72Lb_0_, 73Lb_0_. -/
import Derived.Test.YtckilbegmbaeeaaGreatZ40
import Derived.Test.YtckilbegmbaeeaaGreatZ42
import Derived.Test.YtckilbegmbaeeaaGreatZ46
import Derived.Test.YtckilbegmbaeeaaGreatZ47
import Derived.Test.YtckilbegmbaeeaaGreatZ48
namespace Go.Proofs.YtckilbegmbaeeaaGreat.Z4
open Go Go.RowKit Go.Proofs.YtckilbegmbaeeaaGreat.SL
set_option linter.unusedVariables false
set_option maxHeartbeats 20000000
set_option maxRecDepth 100000
set_option linter.unusedSimpArgs false
attribute [local irreducible] IntKind.wrap minI maxI shrI shlI andI orI xorI andNotI cplI rd sub bytesOf strOf slA
variable {b0_ b1_ c0_0 c0_1 c0_2 c0_3 k : Nat}
variable {A0_0 A0_1 A0_2 A0_3 : Option Addr}
def F124.f (k : Nat) (a0 : Int) (a1 : S28) : Option ((List S55)):=(F117.f k a0).bind (fun r5=>(if r5 = 1 then (some (decide (r5 = 1))) else (some (decide (r5 = 2))) : Option (Bool)).bind (fun t6=>if t6 = true then ((F152.f a1 r5).bind (fun r250=>if ([(S55.mk a0 (S53.mk 0 0 0) (IntKind.u8.wrap (r5)) a1)] : (List S55)).length + r250.length ≤ 2932031007402 then lt (([(S55.mk a0 (S53.mk 0 0 0) (IntKind.u8.wrap (r5)) a1)] : (List S55)) ++ r250) fun n314=>(some (n314)) else none)) else (some (([] : (List S55))))))
theorem F124.ok {a0 : Int} {a1 : S28} {r : (List S55)} (H : F124.f k a0 a1 = some r) : SCA Tryz.prog 124 #[iw' a0,.agg (c28' a1).toArray] [] (fun v B=>∃ A0_0_ c0_0_,v = .slice A0_0_ r.length c0_0_∧B = [Buf k55 55 A0_0_ c0_0_ r]):=by
 refine SCA_of_body Tryz.func124 rfl rfl ?_
 unfold F124.f at H
 refine qr' ?_
 refine o' (bx' fun b1=>?_)
 refine s' (.slice none 0 0) as' ?_
 refine nr' ?_
 refine s' (iw' a0) mv' ?_
 refine l' (lA' b1 0 0 (c28' a1)) ?_
 refine s' (.agg (c55' (S55.mk a0 (S53.mk 0 0 0) 0 a1)).toArray) bd' ?_
 refine o' (al' fun b3=>?_)
 refine o' (su' b3 0 1 (c55' (S55.mk a0 (S53.mk 0 0 0) 0 a1)) ?_)
 refine nq' ?_
 refine s' (iw' a0) mv' ?_
 obtain⟨r5,C432,H⟩:=g_bind H
 refine o' (ca' [] [0,1] (xf' [iw' a0]) (F117.ok (a0:=a0) C432) ?_)
 rintro _ _⟨rfl,rfl⟩
 refine s' (il' r5) as' ?_
 refine nr' ?_
 refine s' (il' r5) mv' ?_
 refine na' (SA_block (SA_seq (qr' ?_)))
 refine s' (.bool (decide (r5 = 1))) (V_eql rfl rfl) ?_
 refine s' (.bool (decide (r5 = 1))) as' ?_
 refine na' ?_
 obtain⟨t6,H,Bt6⟩:=g_bind H
 refine SA_mid (fun e ds As=>St [(3,pt' b1),(5,pt' b3),(6,il' r5),(13,.bool t6)] [Blk b1 28 (c28' a1),Blk b3 55 (c55' (S55.mk a0 (S53.mk 0 0 0) 0 a1))] e ds As) ?_ ?_
 ·by_cases h7 : r5 = 1
  ·replace H:=g_ift h7 H
   refine SA_condT rfl h7 ?_
   refine SA_skip ?_
   have h_:=oi' H;subst h_
   exact sm' [0,1]
  replace H:=g_iff h7 H
  refine SA_condF rfl h7 ?_
  refine SA_region ?_
  refine s' (.bool (decide (r5 = 2))) (V_eql rfl rfl) ?_
  refine s' (.bool (decide (r5 = 2))) as' ?_
  refine RA_nil ?_
  have h_:=oi' H;subst h_
  exact sm' [0,1]
 rintro e ds As hst8
 clear H
 have H:=Bt6
 clear Bt6
 refine at_normal ?_
 refine SA.of_St hst8 fun junk=>?_
 by_cases h9 : t6 = true
 ·replace H:=g_ift h9 H
  refine SA_condTb rfl h9 ?_
  refine qr' ?_
  refine s' (il' r5) mv' ?_
  refine s' (.int .u8 (IntKind.u8.wrap (r5))) (V_conv (T:=3) (by kernel_rfl) Tryz.underlying5 rfl) ?_
  refine s' (pa' b3 4) (fa' b3 0 4) ?_
  refine o' (st' b3 4 1 [.int .u8 (IntKind.u8.wrap (r5))] (c55' (S55.mk a0 (S53.mk 0 0 0) (IntKind.u8.wrap (r5)) a1)) ?_)
  refine na' (SA_seq ?_)
  refine SA_drawHq [0,2,3,6] #[[],[0],[],[],[2,3],[0,2,3],[0,2,3]] [0,1] [] mixed rfl rfl rfl (PanOk.thn (PanOk.inb (PanOk.thn PanOk.body))) fun I0 hS h0 hh0 w0 sH dd pk=>?_
  refine r' 0 rfl sH (lA' b3 0 1 (c55' (S55.mk a0 (S53.mk 0 0 0) (IntKind.u8.wrap (r5)) a1))) ?_
  refine r' 2 rfl sH (lA' b1 0 0 (c28' a1)) ?_
  refine t' (il' r5) 3 rfl sH mv' ?_
  obtain⟨r250,C254,H⟩:=g_bind H
  obtain⟨g311,H⟩:=g_pos H
  obtain⟨n314,hn314,H⟩:=g_lt H
  refine DH_many (rs:=[1,4]) dd (by kernel_rfl) (by decide) (fal_cons ⟨_,rfl,(.no rfl),?_⟩ (fal_cons ⟨_,rfl,(.no rfl),?_⟩ fal_nil))
  ·refine id (OA_bs (kd:=k55) (zv:=(.agg (c55' z55').toArray)) (sz:=15) (cells:=(c55' (S55.mk a0 (S53.mk 0 0 0) (IntKind.u8.wrap (r5)) a1))) (xs:=([(S55.mk a0 (S53.mk 0 0 0) (IntKind.u8.wrap (r5)) a1)] : (List S55))) rfl Tryz.underlying24 zero55 sz55 rfl rfl rfl (by kernel_rfl) rfl rfl (RL_enc enc55 (fun _ _=>rfl) (by kernel_rfl)) fun b70=>?_)
   refine DH_one 4 dd (by kernel_rfl) rfl (.no rfl) (ca' [] [0] (xf' [.agg (c28' a1).toArray,il' r5]) (F152.ok (a0:=a1) (a1:=r5) C254) ?_)
   rintro _ _⟨A251,c252,rfl,rfl⟩
   refine DH_one 5 dd (by kernel_rfl) rfl (.no rfl) (OA_app (k:=1) (A:=some ⟨b70,0,none⟩) (c:=1) (xs:=([(S55.mk a0 (S53.mk 0 0 0) (IntKind.u8.wrap (r5)) a1)] : (List S55))) (ys:=r250) n314 hn314 rfl Tryz.underlying24 inf55 rfl rfl rfl rfl rfl (Yld.slice Tryz.underlying24 (Src.buf (k:=0) rfl)) (by omega) (by omega) fun A312 c313=>?_)
   refine t' (.slice A312 n314.length c313) 6 rfl sH as' ?_
   refine DH_open dd sH ?_
   refine DN_done (by kernel_rfl) ?_
   refine at_normal (SA_ret (inb_ret (thn_ret ?_)))
   have h_:=oi' H;subst h_
   exact b1' [3] ⟨A312,c313,rfl,rfl⟩
  refine id (ca' [] [] (xf' [.agg (c28' a1).toArray,il' r5]) (F152.ok (a0:=a1) (a1:=r5) C254) ?_)
  rintro _ _⟨A251,c252,rfl,rfl⟩
  refine DH_one 1 dd (by kernel_rfl) rfl (.no rfl) (OA_bs (kd:=k55) (zv:=(.agg (c55' z55').toArray)) (sz:=15) (cells:=(c55' (S55.mk a0 (S53.mk 0 0 0) (IntKind.u8.wrap (r5)) a1))) (xs:=([(S55.mk a0 (S53.mk 0 0 0) (IntKind.u8.wrap (r5)) a1)] : (List S55))) rfl Tryz.underlying24 zero55 sz55 rfl rfl rfl (by kernel_rfl) rfl rfl (RL_enc enc55 (fun _ _=>rfl) (by kernel_rfl)) fun b70=>?_)
  refine DH_one 5 dd (by kernel_rfl) rfl (.no rfl) (OA_app (k:=1) (A:=some ⟨b70,0,none⟩) (c:=1) (xs:=([(S55.mk a0 (S53.mk 0 0 0) (IntKind.u8.wrap (r5)) a1)] : (List S55))) (ys:=r250) n314 hn314 rfl Tryz.underlying24 inf55 rfl rfl rfl rfl rfl (Yld.slice Tryz.underlying24 (Src.buf (k:=0) rfl)) (by omega) (by omega) fun A312 c313=>?_)
  refine t' (.slice A312 n314.length c313) 6 rfl sH as' ?_
  refine DH_open dd sH ?_
  refine DN_done (by kernel_rfl) ?_
  refine at_normal (SA_ret (inb_ret (thn_ret ?_)))
  have h_:=oi' H;subst h_
  exact b1' [3] ⟨A312,c313,rfl,rfl⟩
 replace H:=g_iff h9 H
 refine SA_condFb rfl h9 ?_
 refine SA_skip (inb_normal (at_normal (qr' ?_)))
 refine s' (.slice none 0 0) as' ?_
 refine nt' ?_
 have h_:=oi' H;subst h_
 exact BQ_R1 [Buf k55 55 none 0 ([] : (List S55))] rfl rfl ((Gh.nilBuf k55 55).trans (gs' [2])) ⟨none,0,rfl,rfl⟩


def F123w0b2.f (k : Nat) (l0 : (List S55)) (o0 : Int) (n0 : Int) (a1 : Int) (l2 : (List S55)) : Option ((List S55)):=if 0 ≤ o0∧0 ≤ n0∧o0 + n0 ≤ (l0.length : Int) then (if 0 ≤ a1∧a1 ≤ n0∧n0 ≤ n0 then (lt (over l0 (o0 + a1).toNat (l2.take (n0 - a1).toNat)) fun n11=>((F136w0.f k n11 o0 n0).bind (fun r12=>if r12.length = n11.length then (some (r12)) else none))) else none) else none
theorem F123w0b2.ok {l0 : (List S55)} {o0 : Int} {n0 : Int} {a1 : Int} {l2 : (List S55)} {A0 V0 : Option Addr} {c0 v0 : Nat} {A2 : Option Addr} {c2 : Nat} (hw0 : Win A0 V0 15 o0 n0 v0) {r : (List S55)} (H : F123w0b2.f k l0 o0 n0 a1 l2 = some r) : SCA Tryz.prog 123 #[.slice V0 n0.toNat v0,il' a1,.slice A2 l2.length c2] [Buf k55 55 A0 c0 l0,Buf k55 55 A2 c2 l2] (fun v B=>v = .tuple #[]∧B = [Buf k55 55 A0 c0 r,Buf k55 55 A2 c2 l2]):=by
 refine SCA_of_body Tryz.func123 rfl rfl ?_
 unfold F123w0b2.f at H
 obtain⟨⟨g15,g16,g17⟩,H⟩:=g_pos H
 have hcv_hw0:=hw0.cap
 refine SA_seq ?_
 refine fc' 0 fun hc3=>?_
 refine fc' 1 fun hc4=>?_
 refine SA_region ?_
 refine s' (.slice V0 n0.toNat v0) mv' ?_
 refine s' (il' a1) mv' ?_
 obtain⟨⟨g5,g6,g7⟩,H⟩:=g_pos H
 refine s' (.slice (slA V0 a1 ((v0 : Nat) : Int) 15) (n0 - a1).toNat (((v0 : Nat) : Int).toNat - a1.toNat)) (V_sliceW (l:=o0) (m:=n0) (a:=a1) (b:=n0) (q:=((v0 : Nat) : Int)) hw0 Tryz.underlying116 sz55 rfl rfl rfl rfl (.inr ⟨_,rfl⟩) (.inl ⟨rfl,rfl,rfl⟩) (.inl ⟨rfl,rfl⟩) g5 g6 g7) ?_
 have hW10 : Win A0 (slA V0 a1 ((v0 : Nat) : Int) 15) 15 (o0 + a1) (n0 - a1) (((v0 : Nat) : Int).toNat - a1.toNat):=Win.sub hw0 g5 g6 g7 (.inl rfl) (Int.le_refl _)
 refine s' (.slice A2 l2.length c2) mv' ?_
 obtain⟨n11,hn11,H⟩:=g_lt H
 have hl_n11 : n11.length = l0.length:=by rw [hn11]; exact over_len (by rw [List.length_take]; omega)
 refine o' (OA_copyV (k:=0) (l:=o0 + a1) (m:=n0 - a1) (xs:=l0) (ys:=l2) n11 hn11 hW10 rfl Tryz.underlying116 sz55 rfl rfl rfl (by omega) rfl (Cpy.slice (Src.buf (k:=1) rfl)) ?_)
 try rewrite [← hl_n11]
 refine na' (SA_region ?_)
 refine s' (.slice V0 n0.toNat v0) mv' ?_
 obtain⟨r12,C14,H⟩:=g_bind H
 obtain⟨hl13,H⟩:=g_pos H
 refine o' (ca' [0] [1] (xf' [.slice V0 n0.toNat v0]) (F136w0.ok (l0:=n11) (o0:=o0) (n0:=n0) (A0:=A0) (c0:=c0) (V0:=V0) (v0:=v0) (hw0:=hw0) C14) ?_)
 rintro _ _⟨rfl,rfl⟩
 try rewrite [← hl13]
 refine RA_nil ?_
 have h_:=oi' H;subst h_
 exact bn' [0,1] ⟨rfl,rfl⟩


def F73Lb_0_.f (k : Nat) (p0 : S34) (a1 : Int) : Option (S34):=(F117.f k a1).bind (fun r8=>if r8 ≤ 0 then (if r8 = 0 then ((F118Lb_0_.f k p0 a1).bind (fun r15=>some (r15))) else (some (p0))) else (lt (p0.f3 && p0.f8) fun q29=>(if q29 = true then ((F119Lb_0_.f k ({ p0 with f2:=0 })).bind (fun r50=>some r50)) else (some p0) : Option (S34)).bind (fun t32=>(if r8 = 2 then ((F120Lb_0_.f ({ t32 with f3:=false })).bind (fun r610=>some (decide (t32.f2 = r610)))) else (some false) : Option (Bool)).bind (fun t65=>(if t65 = true then ((if (!t32.f8) = true then (some true) else ((F120Lb_0_.f ({ t32 with f3:=false })).bind (fun r814=>some (decide (r814 = 0)))) : Option Bool).bind (fun q812=>if q812 = true then (some (Out.ret (({ t32 with f3:=false })))) else ((F119Lb_0_.f k ({ t32 with f2:=0,f3:=false })).bind (fun r818=>some (Out.go r818))))) else (some (Out.go ({ t32 with f3:=false }))) : Option (Out (S34) (S34))).bind (fun t793=>Out.el t793 (fun r_=>some r_) (fun s794=>(F121Lb_0_.f s794).bind (fun r837=>if (0 ≤ r837.1∧0 ≤ r837.2∧r837.1 + r837.2 ≤ (s794.f0.f2.length : Int)) then ((if s794.f10 = true then ((F122w0.f k s794.f0.f2 r837.1 r837.2 s794.f2 r8 s794.f4).bind (fun r1564=>if r1564.length = s794.f0.f2.length then (some r1564) else none)) else (some s794.f0.f2) : Option ((List S55))).bind (fun t842=>if t842.length = s794.f0.f2.length then ((F124.f k a1 s794.f4).bind (fun r2346=>(F123w0b2.f k t842 r837.1 r837.2 s794.f2 r2346).bind (fun r2406=>if r2406.length = t842.length then ((F120Lb_0_.f ({ s794 with f0:=(S26.mk s794.f0.f0 s794.f0.f1 r2406),f2:=(IntKind.i64.wrap (s794.f2 + r8)) })).bind (fun r2828=>if (IntKind.i64.wrap (s794.f2 + r8)) > r2828 then ((F120Lb_0_.f ({ s794 with f0:=(S26.mk s794.f0.f0 s794.f0.f1 r2406),f2:=(IntKind.i64.wrap (s794.f2 + r8)) })).bind (fun r3250=>some (({ s794 with f0:=(S26.mk s794.f0.f0 s794.f0.f1 r2406),f2:=r3250,f3:=true })))) else (some (({ s794 with f0:=(S26.mk s794.f0.f0 s794.f0.f1 r2406),f2:=(IntKind.i64.wrap (s794.f2 + r8)) }))))) else none))) else none)) else none)))))))
theorem F73Lb_0_.ok {p0 : S34} {a1 : Int} {r : S34} (H : F73Lb_0_.f k p0 a1 = some r) : SCA Tryz.prog 73 #[.agg #[.pointer (some ⟨b0_,0,none⟩)],iw' a1] [Blk b0_ 34 (c34' p0 A0_0 c0_0 A0_1 c0_1 A0_2 c0_2 A0_3 c0_3),Buf k55 55 A0_0 c0_0 p0.f0.f2,bl' 3 A0_1 c0_1 p0.f7,Buf k55 55 A0_2 c0_2 p0.f16.f2,bw' 21 A0_3 c0_3 p0.f17] (fun v B=>∃ P0_0_ q0_0_ P0_1_ q0_1_ P0_2_ q0_2_ P0_3_ q0_3_,v = .tuple #[]∧B = [Blk b0_ 34 (c34' r P0_0_ q0_0_ P0_1_ q0_1_ P0_2_ q0_2_ P0_3_ q0_3_),Buf k55 55 P0_0_ q0_0_ r.f0.f2,bl' 3 P0_1_ q0_1_ r.f7,Buf k55 55 P0_2_ q0_2_ r.f16.f2,bw' 21 P0_3_ q0_3_ r.f17]):=by
 refine SCA_of_body Tryz.func73 rfl rfl ?_
 unfold F73Lb_0_.f at H
 refine qr' ?_
 refine o' (bx' fun b6=>?_)
 refine nr' ?_
 refine s' (iw' a1) mv' ?_
 obtain⟨r8,C3673,H⟩:=g_bind H
 refine o' (ca' [] [0,1,2,3,4,5] (xf' [iw' a1]) (F117.ok (a0:=a1) C3673) ?_)
 rintro _ _⟨rfl,rfl⟩
 refine s' (il' r8) as' ?_
 refine nq' ?_
 refine s' (il' r8) mv' ?_
 refine s' (.bool (decide (r8 ≤ 0))) (V_leq rfl rfl) ?_
 refine na' ?_
 by_cases h9 : r8 ≤ 0
 ·replace H:=g_ift h9 H
  refine SA_condT rfl h9 ?_
  refine SA_seq (qr' ?_)
  refine s' (il' r8) mv' ?_
  refine s' (.bool (decide (r8 = 0))) (V_eql rfl rfl) ?_
  refine na' ?_
  by_cases h10 : r8 = 0
  ·replace H:=g_ift h10 H
   refine SA_condT rfl h10 ?_
   refine fc' 1 fun hc11=>?_
   refine fc' 2 fun hc12=>?_
   refine fc' 3 fun hc13=>?_
   refine fc' 4 fun hc14=>?_
   refine SA_region ?_
   refine l' (lA' b6 0 5 [pt' b0_]) ?_
   refine s' (iw' a1) mv' ?_
   obtain⟨r15,C28,H⟩:=g_bind H
   refine o' (ca' [0,1,2,3,4] [5] (xf' [.agg #[pt' b0_],iw' a1]) (F118Lb_0_.ok (b0_:=b0_) (p0:=p0) (a1:=a1) C28) ?_)
   rintro _ _⟨A16,c17,A19,c20,A22,c23,A25,c26,rfl,rfl⟩
   refine ntt' ?_
   have h_:=oi' H;subst h_
   exact BQ_R0 [Blk b0_ 34 (c34' r15 A16 c17 A19 c20 A22 c23 A25 c26),Buf k55 55 A16 c17 r15.f0.f2,bl' 3 A19 c20 r15.f7,Buf k55 55 A22 c23 r15.f16.f2,bw' 21 A25 c26 r15.f17] rfl (gs' [0,1,2,3,4]) ⟨A16,c17,A19,c20,A22,c23,A25,c26,rfl,rfl⟩
  replace H:=g_iff h10 H
  refine SA_condF rfl h10 ?_
  refine SA_skip (at_normal (SA_ret (thn_ret ?_)))
  have h_:=oi' H;subst h_
  exact BQ_R0 [Blk b0_ 34 (c34' p0 A0_0 c0_0 A0_1 c0_1 A0_2 c0_2 A0_3 c0_3),Buf k55 55 A0_0 c0_0 p0.f0.f2,bl' 3 A0_1 c0_1 p0.f7,Buf k55 55 A0_2 c0_2 p0.f16.f2,bw' 21 A0_3 c0_3 p0.f17] rfl (gs' [0,1,2,3,4]) ⟨A0_0,c0_0,A0_1,c0_1,A0_2,c0_2,A0_3,c0_3,rfl,rfl⟩
 replace H:=g_iff h9 H
 refine SA_condF rfl h9 ?_
 refine SA_skip (at_normal (SA_seq (qr' ?_)))
 refine s' (pt' b6) (fa' b6 0 0) ?_
 refine l' (ld' b6 0 5) ?_
 refine s' (pt' b0_) nc' ?_
 refine s' (pa' b0_ 5) (fa' b0_ 0 5) ?_
 refine l' (ld' b0_ 5 0) ?_
 refine s' (.bool p0.f3) mv' ?_
 obtain⟨q29,hq29,H⟩:=g_lt H
 refine RA_cut 6 (fun e ds As=>St [(1,iw' a1),(2,pt' b6),(4,il' r8),(26,.bool q29)] [Blk b0_ 34 (c34' p0 A0_0 c0_0 A0_1 c0_1 A0_2 c0_2 A0_3 c0_3),Buf k55 55 A0_0 c0_0 p0.f0.f2,bl' 3 A0_1 c0_1 p0.f7,Buf k55 55 A0_2 c0_2 p0.f16.f2,bw' 21 A0_3 c0_3 p0.f17,Blk b6 84 [pt' b0_]] e ds As) ?_ ?_
 ·by_cases h30 : p0.f3 = true
  ·refine y' h30 (pt' b6) (fa' b6 0 0) ?_
   refine z' h30 (ld' b6 0 5) ?_
   refine y' h30 (pt' b0_) nc' ?_
   refine y' h30 (pa' b0_ 19) (fa' b0_ 0 19) ?_
   refine z' h30 (ld' b0_ 19 0) ?_
   refine pT' h30 ?_
   refine RA_nil ?_
   exact at_normal (St.mk1 (aeq rfl (aeq rfl (aeq rfl (aeq (congrArg Value.bool (and_t hq29 (h30))) aeq0)))) (gs' [0,1,2,3,4,5]))
  refine no' 5 (bno h30) ?_
  refine pF' (bno h30) ?_
  refine RA_nil ?_
  exact at_normal (St.mk1 (aeq rfl (aeq rfl (aeq rfl (aeq (congrArg Value.bool (and_f hq29 (bno h30))) aeq0)))) (gs' [0,1,2,3,4,5]))
 rintro e ds As hst31
 refine na' ?_
 refine SA.of_St hst31 fun junk=>?_
 obtain⟨t32,H,Bt32⟩:=g_bind H
 refine SA_mid (fun e ds As=>∃ (A33 : Option Addr) (c34 : Nat),∃ (A36 : Option Addr) (c37 : Nat),∃ (A39 : Option Addr) (c40 : Nat),∃ (A42 : Option Addr) (c43 : Nat),St [(1,iw' a1),(2,pt' b6),(4,il' r8)] [Blk b0_ 34 (c34' t32 A33 c34 A36 c37 A39 c40 A42 c43),Buf k55 55 A33 c34 t32.f0.f2,bl' 3 A36 c37 t32.f7,Buf k55 55 A39 c40 t32.f16.f2,bw' 21 A42 c43 t32.f17,Blk b6 84 [pt' b0_]] e ds As) ?_ ?_
 ·by_cases h45 : q29 = true
  ·replace H:=g_ift h45 H
   refine SA_condTb rfl h45 ?_
   refine qr' ?_
   refine s' (pt' b6) (fa' b6 0 0) ?_
   refine l' (ld' b6 0 5) ?_
   refine s' (pt' b0_) nc' ?_
   refine s' (pa' b0_ 4) (fa' b0_ 0 4) ?_
   refine o' (st' b0_ 4 0 [il' 0] (c34' ({ p0 with f2:=0 }) A0_0 c0_0 A0_1 c0_1 A0_2 c0_2 A0_3 c0_3) ?_)
   refine na' ?_
   refine fc' 1 fun hc46=>?_
   refine fc' 2 fun hc47=>?_
   refine fc' 3 fun hc48=>?_
   refine fc' 4 fun hc49=>?_
   refine SA_region ?_
   refine l' (lA' b6 0 5 [pt' b0_]) ?_
   obtain⟨r50,C63,H⟩:=g_bind H
   refine o' (ca' [0,1,2,3,4] [5] (xf' [.agg #[pt' b0_]]) (F119Lb_0_.ok (b0_:=b0_) (p0:=({ p0 with f2:=0 })) C63) ?_)
   rintro _ _⟨A51,c52,A54,c55,A57,c58,A60,c61,rfl,rfl⟩
   refine RA_nil ?_
   have h_:=oi' H;subst h_
   exact at_normal ⟨A51,c52,A54,c55,A57,c58,A60,c61,sq' [0,1,2,3,4,5]⟩
  replace H:=g_iff h45 H
  refine SA_condFb rfl h45 ?_
  refine SA_skip ?_
  have h_:=oi' H;subst h_
  exact at_normal ⟨A0_0,c0_0,A0_1,c0_1,A0_2,c0_2,A0_3,c0_3,sq' [0,1,2,3,4,5]⟩
 rintro e ds As ⟨A33,c34,A36,c37,A39,c40,A42,c43,hst64⟩
 clear H
 have H:=Bt32
 clear Bt32
 refine at_normal ?_
 refine SA.of_St hst64 fun junk=>?_
 refine qr' ?_
 refine s' (pt' b6) (fa' b6 0 0) ?_
 refine l' (ld' b6 0 5) ?_
 refine s' (pt' b0_) nc' ?_
 refine s' (pa' b0_ 5) (fa' b0_ 0 5) ?_
 refine o' (st' b0_ 5 0 [.bool false] (c34' ({ t32 with f3:=false }) A33 c34 A36 c37 A39 c40 A42 c43) ?_)
 refine na' (SA_seq (SA_seq ?_))
 obtain⟨t65,H,Bt65⟩:=g_bind H
 refine SA_mid (fun e ds As=>St [(1,iw' a1),(2,pt' b6),(4,il' r8),(48,.bool t65)] [Blk b0_ 34 (c34' ({ t32 with f3:=false }) A33 c34 A36 c37 A39 c40 A42 c43),Buf k55 55 A33 c34 t32.f0.f2,bl' 3 A36 c37 t32.f7,Buf k55 55 A39 c40 t32.f16.f2,bw' 21 A42 c43 t32.f17,Blk b6 84 [pt' b0_]] e ds As) ?_ ?_
 ·refine fc' 1 fun hc66=>?_
  refine fc' 2 fun hc67=>?_
  refine fc' 3 fun hc68=>?_
  refine fc' 4 fun hc69=>?_
  refine SA_drawMq (rg' 0 12) #[[],[0],[0,1],[0,1,2],(rg' 0 4),(rg' 0 5),(rg' 0 6),(rg' 0 7),[0,1,2],[0,1,2,8],(rg' 0 10),(rg' 0 11)] [Blk b0_ 34 (c34' ({ t32 with f3:=false }) A33 c34 A36 c37 A39 c40 A42 c43),Blk b6 84 [pt' b0_]] mixed (PanOk.thn (PanOk.thn (PanOk.thn PanOk.body))) fun I0 hh0 w0 pk=>?_
  refine mt' (il' r8) 0 [0,5] rfl mv' ?_
  refine mt' (.bool (decide (r8 = 2))) 1 [0,5] rfl (V_eql rfl rfl) ?_
  refine mt' (.bool (decide (r8 = 2))) 2 [0,5] rfl mv' ?_
  by_cases h791 : r8 = 2
  ·replace H:=g_ift h791 H
   refine DM_take (v:=pt' b6) 3 [0,5] (by kernel_rfl) rfl rfl (.yes rfl rfl rfl rfl (dec_t h791)) pk rfl rfl rfl (VR.ofV (fa' b6 0 0)) ?_
   refine DM_take 4 [0,5] (by kernel_rfl) rfl rfl (.yes rfl rfl rfl rfl (dec_t h791)) pk rfl rfl rfl (ld' b6 0 1) ?_
   refine DM_take (v:=pt' b0_) 5 [0,5] (by kernel_rfl) rfl rfl (.yes rfl rfl rfl rfl (dec_t h791)) pk rfl rfl rfl (VR.ofV nc') ?_
   refine DM_take (v:=pa' b0_ 4) 6 [0,5] (by kernel_rfl) rfl rfl (.yes rfl rfl rfl rfl (dec_t h791)) pk rfl rfl rfl (VR.ofV (fa' b0_ 0 4)) ?_
   refine DM_take 7 [0,5] (by kernel_rfl) rfl rfl (.yes rfl rfl rfl rfl (dec_t h791)) pk rfl rfl rfl (ld' b0_ 4 0) ?_
   refine DM_take 8 [0,5] (by kernel_rfl) rfl rfl (.yes rfl rfl rfl rfl (dec_t h791)) pk rfl rfl rfl (lA' b6 0 1 [pt' b0_]) ?_
   obtain⟨r610,C611,H⟩:=g_bind H
   refine DM_one 9 (by kernel_rfl) rfl (.yes rfl rfl rfl rfl (dec_t h791)) (ca' [0,1,2,3,4] [5] (xf' [.agg #[pt' b0_]]) (F120Lb_0_.ok (b0_:=b0_) (p0:=({ t32 with f3:=false })) C611) ?_)
   rintro _ _⟨rfl,rfl⟩
   refine ⟨fun _=>⟨[0,5],rfl,rfl⟩,?_⟩
   refine DM_take (v:=.bool (decide (t32.f2 = r610))) 10 [0,5] (by kernel_rfl) rfl rfl (.yes rfl rfl rfl rfl (dec_t h791)) pk rfl rfl rfl (VR.ofV (V_eql rfl rfl)) ?_
   refine mr' 11 [0,5] rfl (VR.ofV (V_pickT rfl (dec_t h791) rfl)) ?_
   refine DN_done (by kernel_rfl) ?_
   have h_:=oi' H;subst h_
   exact sm' [0,1,2,3,4,5]
  replace H:=g_iff h791 H
  refine DM_skip 3 [0,5] (by kernel_rfl) rfl rfl (.no rfl rfl rfl rfl (dec_f h791)) pk rfl rfl rfl ?_
  refine DM_skip 4 [0,5] (by kernel_rfl) rfl rfl (.no rfl rfl rfl rfl (dec_f h791)) pk rfl rfl rfl ?_
  refine DM_skip 5 [0,5] (by kernel_rfl) rfl rfl (.no rfl rfl rfl rfl (dec_f h791)) pk rfl rfl rfl ?_
  refine DM_skip 6 [0,5] (by kernel_rfl) rfl rfl (.no rfl rfl rfl rfl (dec_f h791)) pk rfl rfl rfl ?_
  refine DM_skip 7 [0,5] (by kernel_rfl) rfl rfl (.no rfl rfl rfl rfl (dec_f h791)) pk rfl rfl rfl ?_
  refine DM_skip 8 [0,5] (by kernel_rfl) rfl rfl (.no rfl rfl rfl rfl (dec_f h791)) pk rfl rfl rfl ?_
  refine DM_skip 9 [0,5] (by kernel_rfl) rfl rfl (.no rfl rfl rfl rfl (dec_f h791)) pk rfl rfl rfl ?_
  refine DM_skip 10 [0,5] (by kernel_rfl) rfl rfl (.no rfl rfl rfl rfl (dec_f h791)) pk rfl rfl rfl ?_
  refine mr' 11 [0,5] rfl (VR.ofV (V_pickF rfl (dec_f h791) rfl)) ?_
  refine DN_done (by kernel_rfl) ?_
  have h_:=oi' H;subst h_
  exact sm' [0,1,2,3,4,5]
 rintro e ds As hst792
 clear H
 have H:=Bt65
 clear Bt65
 refine at_normal ?_
 refine SA.of_St hst792 fun junk=>?_
 obtain⟨t793,H,Bt793⟩:=g_bind H
 refine SA_mid (fun e ds As=>∃ (s794 : S34),t793 = Out.go s794∧∃ (A795 : Option Addr) (c796 : Nat),∃ (A798 : Option Addr) (c799 : Nat),∃ (A801 : Option Addr) (c802 : Nat),∃ (A804 : Option Addr) (c805 : Nat),St [(1,iw' a1),(2,pt' b6),(4,il' r8)] [Blk b0_ 34 (c34' s794 A795 c796 A798 c799 A801 c802 A804 c805),Buf k55 55 A795 c796 s794.f0.f2,bl' 3 A798 c799 s794.f7,Buf k55 55 A801 c802 s794.f16.f2,bw' 21 A804 c805 s794.f17,Blk b6 84 [pt' b0_]] e ds As) ?_ ?_
 ·by_cases h807 : t65 = true
  ·replace H:=g_ift h807 H
   refine SA_condTb rfl h807 ?_
   refine SA_seq (SA_seq ?_)
   refine fc' 1 fun hc808=>?_
   refine fc' 2 fun hc809=>?_
   refine fc' 3 fun hc810=>?_
   refine fc' 4 fun hc811=>?_
   refine SA_region ?_
   refine s' (pt' b6) (fa' b6 0 0) ?_
   refine l' (ld' b6 0 5) ?_
   refine s' (pt' b0_) nc' ?_
   refine s' (pa' b0_ 19) (fa' b0_ 0 19) ?_
   refine l' (ld' b0_ 19 0) ?_
   refine s' (.bool (!t32.f8)) (V_not rfl) ?_
   refine s' (.bool (!t32.f8)) mv' ?_
   obtain⟨q812,H,Bq812⟩:=g_bind H
   refine RA_cut 4 (fun e ds As=>St [(1,iw' a1),(2,pt' b6),(4,il' r8),(59,.bool q812)] [Blk b0_ 34 (c34' ({ t32 with f3:=false }) A33 c34 A36 c37 A39 c40 A42 c43),Buf k55 55 A33 c34 t32.f0.f2,bl' 3 A36 c37 t32.f7,Buf k55 55 A39 c40 t32.f16.f2,bw' 21 A42 c43 t32.f17,Blk b6 84 [pt' b0_]] e ds As) ?_ ?_
   ·by_cases h813 : (!t32.f8) = true
    ·replace H:=g_ift h813 H
     refine no' 3 h813 ?_
     refine pT' h813 ?_
     have h_:=oi' H;subst h_
     exact rm' [0,1,2,3,4,5]
    replace H:=g_iff h813 H
    refine z' (bno h813) (lA' b6 0 5 [pt' b0_]) ?_
    obtain⟨r814,C815,H⟩:=g_bind H
    refine yo' (bno h813) (ca' [0,1,2,3,4] [5] (xf' [.agg #[pt' b0_]]) (F120Lb_0_.ok (b0_:=b0_) (p0:=({ t32 with f3:=false })) C815) ?_)
    rintro _ _⟨rfl,rfl⟩
    refine y' (bno h813) (.bool (decide (r814 = 0))) (V_eql rfl rfl) ?_
    refine pF' (bno h813) ?_
    have h_:=oi' H;subst h_
    exact rm' [0,1,2,3,4,5]
   rintro e ds As hst816
   clear H
   have H:=Bq812
   clear Bq812
   refine na' ?_
   refine SA.of_St hst816 fun junk=>?_
   by_cases h817 : q812 = true
   ·replace H:=g_ift h817 H
    refine SA_condTb rfl h817 ?_
    refine SA_ret (thn_ret (thn_ret (thn_ret ?_)))
    have h_:=oi' H;subst h_
    have hb_:=el_ret Bt793
    have hr_:=Option.some.inj hb_
    clear hb_
    subst hr_
    exact BQ_R0 [Blk b0_ 34 (c34' ({ t32 with f3:=false }) A33 c34 A36 c37 A39 c40 A42 c43),Buf k55 55 A33 c34 t32.f0.f2,bl' 3 A36 c37 t32.f7,Buf k55 55 A39 c40 t32.f16.f2,bw' 21 A42 c43 t32.f17] rfl (gs' [0,1,2,3,4]) ⟨A33,c34,A36,c37,A39,c40,A42,c43,rfl,rfl⟩
   replace H:=g_iff h817 H
   refine SA_condFb rfl h817 ?_
   refine SA_skip (at_normal (qr' ?_))
   refine s' (pt' b6) (fa' b6 0 0) ?_
   refine l' (ld' b6 0 5) ?_
   refine s' (pt' b0_) nc' ?_
   refine s' (pa' b0_ 4) (fa' b0_ 0 4) ?_
   refine o' (st' b0_ 4 0 [il' 0] (c34' ({ t32 with f2:=0,f3:=false }) A33 c34 A36 c37 A39 c40 A42 c43) ?_)
   refine na' (SA_region ?_)
   refine l' (lA' b6 0 5 [pt' b0_]) ?_
   obtain⟨r818,C831,H⟩:=g_bind H
   refine o' (ca' [0,1,2,3,4] [5] (xf' [.agg #[pt' b0_]]) (F119Lb_0_.ok (b0_:=b0_) (p0:=({ t32 with f2:=0,f3:=false })) C831) ?_)
   rintro _ _⟨A819,c820,A822,c823,A825,c826,A828,c829,rfl,rfl⟩
   refine RA_nil ?_
   have h_:=oi' H;subst h_
   exact at_normal ⟨r818,rfl,A819,c820,A822,c823,A825,c826,A828,c829,sq' [0,1,2,3,4,5]⟩
  replace H:=g_iff h807 H
  refine SA_condFb rfl h807 ?_
  refine SA_skip ?_
  have h_:=oi' H;subst h_
  exact at_normal ⟨({ t32 with f3:=false }),rfl,A33,c34,A36,c37,A39,c40,A42,c43,sq' [0,1,2,3,4,5]⟩
 rintro e ds As ⟨s794,ht,A795,c796,A798,c799,A801,c802,A804,c805,hst832⟩
 clear H
 subst ht
 replace Bt793:=el_go Bt793
 have H:=Bt793
 clear Bt793
 refine at_normal ?_
 refine SA.of_St hst832 fun junk=>?_
 refine SA_seq ?_
 refine fc' 1 fun hc833=>?_
 refine fc' 2 fun hc834=>?_
 refine fc' 3 fun hc835=>?_
 refine fc' 4 fun hc836=>?_
 refine SA_region ?_
 refine l' (lA' b6 0 5 [pt' b0_]) ?_
 obtain⟨r837,C3672,H⟩:=g_bind H
 obtain⟨⟨hl841a,hl841b,hl841c⟩,H⟩:=g_pos H
 refine o' (ca' [0,1,2,3,4] [5] (xf' [.agg #[pt' b0_]]) (F121Lb_0_.ok (b0_:=b0_) (p0:=s794) C3672) ?_)
 rintro _ _⟨V838,v839,hW840,rfl,rfl⟩
 refine s' (.slice V838 r837.2.toNat v839) as' ?_
 refine nq' ?_
 refine s' (pt' b6) (fa' b6 0 0) ?_
 refine l' (ld' b6 0 5) ?_
 refine s' (pt' b0_) nc' ?_
 refine s' (pa' b0_ 21) (fa' b0_ 0 21) ?_
 refine l' (ld' b0_ 21 0) ?_
 refine na' ?_
 obtain⟨t842,H,Bt842⟩:=g_bind H
 refine SA_mid (fun e ds As=>St [(1,iw' a1),(2,pt' b6),(4,il' r8),(5,.slice V838 r837.2.toNat v839)] [Blk b0_ 34 (c34' ({ s794 with f0:=(S26.mk s794.f0.f0 s794.f0.f1 t842) }) A795 c796 A798 c799 A801 c802 A804 c805),Buf k55 55 A795 c796 t842,bl' 3 A798 c799 s794.f7,Buf k55 55 A801 c802 s794.f16.f2,bw' 21 A804 c805 s794.f17,Blk b6 84 [pt' b0_]] e ds As) ?_ ?_
 ·by_cases h843 : s794.f10 = true
  ·replace H:=g_ift h843 H
   refine SA_condTb rfl h843 ?_
   refine SA_drawHq (rg' 0 12) (List.toArray ([]::[]::[1]::[1,2]::[1,2,3]::(rg' 1 4)::[]::[]::[7]::[7,8]::[7,8,9]::(rg' 7 4)::(rg' 0 12)::[])) [0,5] (rg' 1 4) mixed rfl rfl rfl (PanOk.thn (PanOk.thn PanOk.body)) fun I0 hS h0 hh0 w0 sH dd pk=>?_
   refine t' (.slice V838 r837.2.toNat v839) 0 rfl sH mv' ?_
   refine t' (pt' b6) 1 rfl sH (fa' b6 0 0) ?_
   refine r' 2 rfl sH (ld' b6 0 1) ?_
   refine t' (pt' b0_) 3 rfl sH nc' ?_
   refine t' (pa' b0_ 4) 4 rfl sH (fa' b0_ 0 4) ?_
   refine r' 5 rfl sH (ld' b0_ 4 0) ?_
   refine t' (il' r8) 6 rfl sH mv' ?_
   refine t' (pt' b6) 7 rfl sH (fa' b6 0 0) ?_
   refine r' 8 rfl sH (ld' b6 0 1) ?_
   refine t' (pt' b0_) 9 rfl sH nc' ?_
   refine t' (pa' b0_ 6) 10 rfl sH (fa' b0_ 0 6) ?_
   refine r' 11 rfl sH (lA' b0_ 6 0 (c28' s794.f4)) ?_
   obtain⟨r1564,C1566,H⟩:=g_bind H
   obtain⟨hl1565,H⟩:=g_pos H
   refine DH_one 12 dd (by kernel_rfl) rfl (.no rfl) (ca' [0] [1,2,3] (xf' [.slice V838 r837.2.toNat v839,il' s794.f2,il' r8,.agg (c28' s794.f4).toArray]) (F122w0.ok (l0:=s794.f0.f2) (o0:=r837.1) (n0:=r837.2) (A0:=A795) (c0:=c796) (V0:=V838) (v0:=v839) (hw0:=hW840) (a1:=s794.f2) (a2:=r8) (a3:=s794.f4) C1566) ?_)
   rintro _ _⟨rfl,rfl⟩
   try unfold c34'
   try rewrite [← hl1565]
   try unfold c34' at sH
   try rewrite [← hl1565] at sH
   refine DH_open dd sH ?_
   refine DN_done (by kernel_rfl) ?_
   have h_:=oi' H;subst h_
   exact sm' [0,2,3,4,5,1]
  replace H:=g_iff h843 H
  refine SA_condFb rfl h843 ?_
  refine SA_skip ?_
  have h_:=oi' H;subst h_
  exact sm' [0,1,2,3,4,5]
 rintro e ds As hst1625
 clear H
 have H:=Bt842
 clear Bt842
 obtain⟨hl3671,H⟩:=g_pos H
 refine at_normal ?_
 refine SA.of_St hst1625 fun junk=>?_
 refine SA_seq ?_
 refine SA_drawHq (rg' 0 12) (List.toArray ([]::[]::[1]::[1,2]::[1,2,3]::(rg' 1 4)::[]::[]::[7]::[7,8]::[7,8,9]::(rg' 7 4)::(rg' 6 6)::(rg' 0 12)::[])) [0,5] (rg' 1 4) mixed rfl rfl rfl (PanOk.thn PanOk.body) fun I0 hS h0 hh0 w0 sH dd pk=>?_
 refine t' (.slice V838 r837.2.toNat v839) 0 rfl sH mv' ?_
 refine t' (pt' b6) 1 rfl sH (fa' b6 0 0) ?_
 refine r' 2 rfl sH (ld' b6 0 1) ?_
 refine t' (pt' b0_) 3 rfl sH nc' ?_
 refine t' (pa' b0_ 4) 4 rfl sH (fa' b0_ 0 4) ?_
 refine r' 5 rfl sH (ld' b0_ 4 0) ?_
 refine t' (iw' a1) 6 rfl sH mv' ?_
 refine t' (pt' b6) 7 rfl sH (fa' b6 0 0) ?_
 refine r' 8 rfl sH (ld' b6 0 1) ?_
 refine t' (pt' b0_) 9 rfl sH nc' ?_
 refine t' (pa' b0_ 6) 10 rfl sH (fa' b0_ 0 6) ?_
 refine r' 11 rfl sH (lA' b0_ 6 0 (c28' s794.f4)) ?_
 obtain⟨r2346,C2350,H⟩:=g_bind H
 refine DH_one 12 dd (by kernel_rfl) rfl (.no rfl) (ca' [] [0,1,2,3] (xf' [iw' a1,.agg (c28' s794.f4).toArray]) (F124.ok (a0:=a1) (a1:=s794.f4) C2350) ?_)
 rintro _ _⟨A2347,c2348,rfl,rfl⟩
 obtain⟨r2406,C2408,H⟩:=g_bind H
 obtain⟨hl2407,H⟩:=g_pos H
 refine DH_one 13 dd (by kernel_rfl) rfl (.no rfl) (ca' [1,0] [2,3,4] (xf' [.slice V838 r837.2.toNat v839,il' s794.f2,.slice A2347 r2346.length c2348]) (F123w0b2.ok (l0:=t842) (o0:=r837.1) (n0:=r837.2) (A0:=A795) (c0:=c796) (V0:=V838) (v0:=v839) (hw0:=hW840) (a1:=s794.f2) (l2:=r2346) (A2:=A2347) (c2:=c2348) C2408) ?_)
 rintro _ _⟨rfl,rfl⟩
 try unfold c34'
 try rewrite [← hl2407]
 try unfold c34' at sH
 try rewrite [← hl2407] at sH
 refine DH_open dd sH ?_
 refine DN_done (by kernel_rfl) ?_
 refine at_normal (qr' ?_)
 refine s' (pt' b6) (fa' b6 0 0) ?_
 refine l' (ld' b6 0 1) ?_
 refine s' (pt' b0_) nc' ?_
 refine s' (pa' b0_ 4) (fa' b0_ 0 4) ?_
 refine l' (ld' b0_ 4 0) ?_
 refine s' (il' r8) mv' ?_
 refine s' (il' (IntKind.i64.wrap (s794.f2 + r8))) (V_add rfl rfl) ?_
 refine s' (pt' b0_) nc' ?_
 refine s' (pa' b0_ 4) (fa' b0_ 0 4) ?_
 refine o' (st' b0_ 4 0 [il' (IntKind.i64.wrap (s794.f2 + r8))] (c34' ({ s794 with f0:=(S26.mk s794.f0.f0 s794.f0.f1 r2406),f2:=(IntKind.i64.wrap (s794.f2 + r8)) }) A795 c796 A798 c799 A801 c802 A804 c805) ?_)
 refine na' (SA_seq ?_)
 refine fc' 3 fun hc2467=>?_
 refine SA_drawMq [0,1,2,3,4,5,7] #[[],[0],[0,1],[0,1,2],(rg' 0 4),[],[5],(rg' 0 6)] [Blk b0_ 34 (c34' ({ s794 with f0:=(S26.mk s794.f0.f0 s794.f0.f1 r2406),f2:=(IntKind.i64.wrap (s794.f2 + r8)) }) A795 c796 A798 c799 A801 c802 A804 c805),Blk b6 84 [pt' b0_]] mixed (PanOk.thn PanOk.body) fun I0 hh0 w0 pk=>?_
 refine mt' (pt' b6) 0 [0,1] rfl (fa' b6 0 0) ?_
 refine mr' 1 [0,1] rfl (ld' b6 0 1) ?_
 refine mt' (pt' b0_) 2 [0,1] rfl nc' ?_
 refine mt' (pa' b0_ 4) 3 [0,1] rfl (fa' b0_ 0 4) ?_
 refine mr' 4 [0,1] rfl (ld' b0_ 4 0) ?_
 refine mr' 5 [0,1] rfl (lA' b6 0 1 [pt' b0_]) ?_
 obtain⟨r2828,C2829,H⟩:=g_bind H
 refine DM_one 6 (by kernel_rfl) rfl (.no rfl) (ca' [0,2,4,5,6] [1,3] (xf' [.agg #[pt' b0_]]) (F120Lb_0_.ok (b0_:=b0_) (p0:=({ s794 with f0:=(S26.mk s794.f0.f0 s794.f0.f1 r2406),f2:=(IntKind.i64.wrap (s794.f2 + r8)) })) C2829) ?_)
 rintro _ _⟨rfl,rfl⟩
 refine ⟨fun _=>⟨[0,5],rfl,rfl⟩,?_⟩
 refine mt' (.bool (decide ((IntKind.i64.wrap (s794.f2 + r8)) > r2828))) 7 [0,5] rfl (V_gtr rfl rfl) ?_
 refine DN_done (by kernel_rfl) ?_
 refine at_normal ?_
 refine SA.of_St (l:=[(2,pt' b6),(116,.bool (decide ((IntKind.i64.wrap (s794.f2 + r8)) > r2828)))]) (B:=[Blk b0_ 34 (c34' ({ s794 with f0:=(S26.mk s794.f0.f0 s794.f0.f1 r2406),f2:=(IntKind.i64.wrap (s794.f2 + r8)) }) A795 c796 A798 c799 A801 c802 A804 c805),Buf k55 55 A795 c796 r2406,bl' 3 A798 c799 s794.f7,Buf k55 55 A801 c802 s794.f16.f2,bw' 21 A804 c805 s794.f17,Blk b6 84 [pt' b0_]]) (St.mk1 (aeq rfl (aeq rfl aeq0)) (Gh.sel [0,1,2,3,4,5] (by kernel_rfl) (by kernel_rfl))) fun junk=>?_
 by_cases h2949 : (IntKind.i64.wrap (s794.f2 + r8)) > r2828
 ·replace H:=g_ift h2949 H
  refine SA_condT rfl h2949 ?_
  refine SA_drawHq [0,1,2,3,4,6,7,9,10] #[[],[0],[],[2],[],[4],[0,1,4],[0,1,4,6],[0,1,4,6,7],[0,1,2,3,4,6,7],[0,1,2,3,4,6,7,9],[0,1,2,3,4,6,7,9,10]] [5] (rg' 0 5) mixed rfl rfl rfl PanOk.body fun I0 hS h0 hh0 w0 sH dd pk=>?_
  refine t' (pt' b6) 0 rfl sH (fa' b6 0 0) ?_
  refine r' 1 rfl sH (ld' b6 0 0) ?_
  refine t' (pt' b6) 2 rfl sH (fa' b6 0 0) ?_
  refine r' 3 rfl sH (ld' b6 0 0) ?_
  refine r' 4 rfl sH (lA' b6 0 0 [pt' b0_]) ?_
  obtain⟨r3250,C3251,H⟩:=g_bind H
  refine DH_one 5 dd (by kernel_rfl) rfl (.no rfl) (ca' [0,1,2,3,4] [] (xf' [.agg #[pt' b0_]]) (F120Lb_0_.ok (b0_:=b0_) (p0:=({ s794 with f0:=(S26.mk s794.f0.f0 s794.f0.f1 r2406),f2:=(IntKind.i64.wrap (s794.f2 + r8)) })) C3251) ?_)
  rintro _ _⟨rfl,rfl⟩
  refine t' (pt' b0_) 6 rfl sH nc' ?_
  refine t' (pa' b0_ 4) 7 rfl sH (fa' b0_ 0 4) ?_
  refine DH_one 8 dd (by kernel_rfl) rfl (.no rfl) (st' b0_ 4 0 [il' r3250] (c34' ({ s794 with f0:=(S26.mk s794.f0.f0 s794.f0.f1 r2406),f2:=r3250 }) A795 c796 A798 c799 A801 c802 A804 c805) ?_)
  refine t' (pt' b0_) 9 rfl sH nc' ?_
  refine t' (pa' b0_ 5) 10 rfl sH (fa' b0_ 0 5) ?_
  refine DH_one 11 dd (by kernel_rfl) rfl (.no rfl) (st' b0_ 5 0 [.bool true] (c34' ({ s794 with f0:=(S26.mk s794.f0.f0 s794.f0.f1 r2406),f2:=r3250,f3:=true }) A795 c796 A798 c799 A801 c802 A804 c805) ?_)
  refine DH_open dd sH ?_
  refine DN_done (by kernel_rfl) ?_
  have h_:=oi' H;subst h_
  exact bn' [1,2,3,4,5] ⟨A795,c796,A798,c799,A801,c802,A804,c805,rfl,rfl⟩
 replace H:=g_iff h2949 H
 refine SA_condF rfl h2949 ?_
 refine SA_skip ?_
 have h_:=oi' H;subst h_
 exact bn' [0,1,2,3,4] ⟨A795,c796,A798,c799,A801,c802,A804,c805,rfl,rfl⟩


def F72Lb_0_.f (k : Nat) (p0 : S34) (p1 : Int) : Option (S34):=(F73Lb_0_.f k p0 p1).bind (fun r13=>some (r13))
theorem F72Lb_0_.ok {p0 : S34} {p1 : Int} {r : S34} (H : F72Lb_0_.f k p0 p1 = some r) : SCA Tryz.prog 72 #[.agg #[.pointer (some ⟨b0_,0,none⟩)],.pointer (some ⟨b1_,0,none⟩)] [Blk b0_ 34 (c34' p0 A0_0 c0_0 A0_1 c0_1 A0_2 c0_2 A0_3 c0_3),Buf k55 55 A0_0 c0_0 p0.f0.f2,bl' 3 A0_1 c0_1 p0.f7,Buf k55 55 A0_2 c0_2 p0.f16.f2,bw' 21 A0_3 c0_3 p0.f17,Blk b1_ 21 [iw' p1]] (fun v B=>∃ P0_0_ q0_0_ P0_1_ q0_1_ P0_2_ q0_2_ P0_3_ q0_3_,v = .tuple #[]∧B = [Blk b0_ 34 (c34' r P0_0_ q0_0_ P0_1_ q0_1_ P0_2_ q0_2_ P0_3_ q0_3_),Buf k55 55 P0_0_ q0_0_ r.f0.f2,bl' 3 P0_1_ q0_1_ r.f7,Buf k55 55 P0_2_ q0_2_ r.f16.f2,bw' 21 P0_3_ q0_3_ r.f17,Blk b1_ 21 [iw' p1]]):=by
 refine SCA_of_body Tryz.func72 rfl rfl ?_
 unfold F72Lb_0_.f at H
 refine qr' ?_
 refine o' (bx' fun b7=>?_)
 refine na' ?_
 refine fc' 1 fun hc9=>?_
 refine fc' 2 fun hc10=>?_
 refine fc' 3 fun hc11=>?_
 refine fc' 4 fun hc12=>?_
 refine SA_region ?_
 refine l' (lA' b7 0 6 [pt' b0_]) ?_
 refine l' (ld' b1_ 0 5) ?_
 obtain⟨r13,C26,H⟩:=g_bind H
 refine o' (ca' [0,1,2,3,4] [5,6] (xf' [.agg #[pt' b0_],iw' p1]) (F73Lb_0_.ok (b0_:=b0_) (p0:=p0) (a1:=p1) C26) ?_)
 rintro _ _⟨A14,c15,A17,c18,A20,c21,A23,c24,rfl,rfl⟩
 refine RA_nil ?_
 have h_:=oi' H;subst h_
 exact bn' [0,1,2,3,4,5] ⟨A14,c15,A17,c18,A20,c21,A23,c24,rfl,rfl⟩

end Go.Proofs.YtckilbegmbaeeaaGreat.Z4

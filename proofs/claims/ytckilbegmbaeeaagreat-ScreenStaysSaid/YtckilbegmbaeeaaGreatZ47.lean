/- What functions compute, and that they do: 116w0, 119Lb_0_, 120Lb_0_, 131i34m0b_0_. -/
import Derived.Test.YtckilbegmbaeeaaGreatZ40
import Derived.Test.YtckilbegmbaeeaaGreatZ41
namespace Go.Proofs.YtckilbegmbaeeaaGreat.Z4
open Go Go.RowKit Go.Proofs.YtckilbegmbaeeaaGreat.SL
set_option linter.unusedVariables false
set_option maxHeartbeats 20000000
set_option maxRecDepth 100000
set_option linter.unusedSimpArgs false
attribute [local irreducible] IntKind.wrap minI maxI shrI shlI andI orI xorI andNotI cplI rd sub bytesOf strOf slA
variable {b0_ c0_0 c0_1 c0_2 c0_3 k : Nat}
variable {A0_0 A0_1 A0_2 A0_3 : Option Addr}
def F116w0.l0 (l0 : (List S55)) (o0 : Int) (n0 : Int) (r4 : S55) : Nat → Int → (List S55) → Option ((List S55))
  | 0,_,_=>none
  | k + 1,x10_7,zm1_0_7=>if zm1_0_7.length = l0.length then (if x10_7 < n0 then (if 0 ≤ x10_7∧x10_7 < n0 then (lt (zm1_0_7.set (o0 + x10_7).toNat r4) fun n15=>(F116w0.l0 l0 o0 n0 r4 k (IntKind.i64.wrap (x10_7 + 1)) n15)) else none) else (some zm1_0_7)) else none
def F116w0.f (k : Nat) (l0 : (List S55)) (o0 : Int) (n0 : Int) (a1 : S28) : Option ((List S55)):=if 0 ≤ o0∧0 ≤ n0∧o0 + n0 ≤ (l0.length : Int) then ((F147.f a1).bind (fun r4=>(F116w0.l0 l0 o0 n0 r4 k 0 l0 : Option ((List S55))).bind (fun t7=>if t7.length = l0.length then (some (t7)) else none))) else none
theorem F116w0.ok {l0 : (List S55)} {o0 : Int} {n0 : Int} {a1 : S28} {A0 V0 : Option Addr} {c0 v0 : Nat} (hw0 : Win A0 V0 15 o0 n0 v0) {r : (List S55)} (H : F116w0.f k l0 o0 n0 a1 = some r) : SCA Tryz.prog 116 #[.slice V0 n0.toNat v0,.agg (c28' a1).toArray] [Buf k55 55 A0 c0 l0] (fun v B=>v = .tuple #[]∧B = [Buf k55 55 A0 c0 r]):=by
 refine SCA_of_body Tryz.func116 rfl rfl ?_
 unfold F116w0.f at H
 obtain⟨⟨g20,g21,g22⟩,H⟩:=g_pos H
 have hcv_hw0:=hw0.cap
 refine qr' ?_
 refine o' (bx' fun b2=>?_)
 refine nr' ?_
 refine l' (lA' b2 0 1 (c28' a1)) ?_
 obtain⟨r4,C19,H⟩:=g_bind H
 refine o' (ca' [] [0,1] (xf' [.agg (c28' a1).toArray]) (F147.ok (a0:=a1) C19) ?_)
 rintro _ _⟨rfl,rfl⟩
 refine o' (al' fun b5=>?_)
 refine o' (su' b5 0 2 (c55' r4) ?_)
 refine nr' ?_
 refine s' (.slice V0 n0.toNat v0) mv' ?_
 refine s' (il' n0) (V_lenW hw0 Tryz.underlying24 rfl) ?_
 refine s' (il' 0) mv' ?_
 refine na' ?_
 obtain⟨t7,H,Bt7⟩:=g_bind H
 refine SA_mid (fun e ds As=>St [] [Buf k55 55 A0 c0 t7] e ds As) ?_ ?_
 ·refine SA_block ?_
  refine SA_loop (fun k_ e ds As=>∃ (x10_7 : Int) (zm1_0_7 : (List S55)),F116w0.l0 l0 o0 n0 r4 k_ x10_7 zm1_0_7 = some t7∧St [(0,.slice V0 n0.toNat v0),(4,pt' b5),(9,il' n0),(10,il' x10_7)] [Buf k55 55 A0 c0 zm1_0_7,Blk b5 55 (c55' r4)] e ds As) (k:=k) ⟨_,_,H,sq' [0,2]⟩ ?_
  clear H
  rintro k8 e ds As ⟨x10_7,zm1_0_7,H,hst9⟩
  obtain _ | k8:=k8
  ·cases H
  rw [F116w0.l0] at H
  obtain⟨hl16,H⟩:=g_pos H
  refine SA.of_St hst9 fun junk=>?_
  refine qr' ?_
  refine s' (.bool (decide (x10_7 < n0))) (V_lss rfl rfl) ?_
  refine na' (SA_seq ?_)
  by_cases h10 : x10_7 < n0
  ·replace H:=g_ift h10 H
   refine SA_condT rfl h10 ?_
   refine SA_skip (at_normal (SA_seq (SA_block (qr' ?_))))
   refine s' (il' x10_7) mv' ?_
   refine s' (il' x10_7) as' ?_
   refine na' (SA_region ?_)
   refine s' (.slice V0 n0.toNat v0) mv' ?_
   refine s' (il' x10_7) mv' ?_
   refine l' (lA' b5 0 1 (c55' r4)) ?_
   obtain⟨⟨g11,g12⟩,H⟩:=g_pos H
   have g13 : 0 ≤ o0 + x10_7:=by omega
   have g14 : o0 + x10_7 < (zm1_0_7.length : Int):=by omega
   refine l' (VR_indexW (l:=o0) (m:=n0) (i:=x10_7) (sz:=15) hw0 Tryz.underlying24 sz55 rfl rfl (Src.buf (k:=0) rfl) g11 g12 (by omega)) ?_
   obtain⟨n15,hn15,H⟩:=g_lt H
   have hl_n15 : n15.length = zm1_0_7.length:=by rw [hn15]; exact List.length_set
   refine o' (OA_stEl (k:=0) (i:=o0 + x10_7) (j:=(o0 + x10_7).toNat * 15) (m:=0) (sz:=15) (xs:=zm1_0_7) (vs:=(c55' r4)) r4 rfl rfl rfl rfl rfl rfl rfl rfl sz55 g13 g14 rfl (fun _ _ h_=>by subst h_; rfl) ?_)
   rewrite [← hn15]
   try unfold c28'
   try rewrite [← hl_n15]
   refine RA_nil (inb_normal (at_normal (SA_region ?_)))
   refine s' (il' (IntKind.i64.wrap (x10_7 + 1))) (V_add rfl rfl) ?_
   refine s' (il' (IntKind.i64.wrap (x10_7 + 1))) mv' ?_
   refine RA_nil ?_
   exact at_normal ⟨k8,Nat.lt_succ_self _,_,_,H,sq' [0,1]⟩
  replace H:=g_iff h10 H
  refine SA_condF rfl h10 ?_
  refine SA_exit (thn_exit (thn_exit (inb_hit ?_)))
  have h_:=oi' H;subst h_
  exact sm' [0]
 rintro e ds As hst17
 clear H
 have H:=Bt7
 clear Bt7
 obtain⟨hl18,H⟩:=g_pos H
 have h_:=oi' H;subst h_
 exact BQ_n0s hst17 [Buf k55 55 A0 c0 t7] rfl (gs' [0]) ⟨rfl,rfl⟩


def F131i34m0b_0_.f (k : Nat) (p0 : S34) (a1 : Int) (a2 : Int) (a3 : Int) (a4 : S28) : Option (S34):=lt (IntKind.i64.wrap ((IntKind.i64.wrap (a2 - a1)) + 1)) fun n8=>lt (IntKind.i64.wrap ((maxI (IntKind.i64.wrap (0 - n8)) (minI a3 n8)) * p0.f0.f0)) fun n9=>if 0 ≤ (IntKind.i64.wrap (a1 * p0.f0.f0))∧(IntKind.i64.wrap (a1 * p0.f0.f0)) ≤ (IntKind.i64.wrap ((IntKind.i64.wrap (a2 + 1)) * p0.f0.f0))∧(IntKind.i64.wrap ((IntKind.i64.wrap (a2 + 1)) * p0.f0.f0)) ≤ (p0.f0.f2.length : Int) then (if n9 ≥ 0 then (if 0 ≤ n9∧n9 ≤ ((IntKind.i64.wrap ((IntKind.i64.wrap (a2 + 1)) * p0.f0.f0)) - (IntKind.i64.wrap (a1 * p0.f0.f0)))∧((IntKind.i64.wrap ((IntKind.i64.wrap (a2 + 1)) * p0.f0.f0)) - (IntKind.i64.wrap (a1 * p0.f0.f0))) ≤ ((IntKind.i64.wrap ((IntKind.i64.wrap (a2 + 1)) * p0.f0.f0)) - (IntKind.i64.wrap (a1 * p0.f0.f0))) then (lt (over p0.f0.f2 (0 + (IntKind.i64.wrap (a1 * p0.f0.f0))).toNat ((sub p0.f0.f2 ((0 + (IntKind.i64.wrap (a1 * p0.f0.f0))) + n9) (((0 + (IntKind.i64.wrap (a1 * p0.f0.f0))) + n9) + (((IntKind.i64.wrap ((IntKind.i64.wrap (a2 + 1)) * p0.f0.f0)) - (IntKind.i64.wrap (a1 * p0.f0.f0))) - n9))).take ((IntKind.i64.wrap ((IntKind.i64.wrap (a2 + 1)) * p0.f0.f0)) - (IntKind.i64.wrap (a1 * p0.f0.f0))).toNat)) fun n1162=>(if 0 ≤ (IntKind.i64.wrap (((IntKind.i64.wrap ((IntKind.i64.wrap (a2 + 1)) * p0.f0.f0)) - (IntKind.i64.wrap (a1 * p0.f0.f0))) - n9))∧(IntKind.i64.wrap (((IntKind.i64.wrap ((IntKind.i64.wrap (a2 + 1)) * p0.f0.f0)) - (IntKind.i64.wrap (a1 * p0.f0.f0))) - n9)) ≤ ((IntKind.i64.wrap ((IntKind.i64.wrap (a2 + 1)) * p0.f0.f0)) - (IntKind.i64.wrap (a1 * p0.f0.f0)))∧((IntKind.i64.wrap ((IntKind.i64.wrap (a2 + 1)) * p0.f0.f0)) - (IntKind.i64.wrap (a1 * p0.f0.f0))) ≤ ((IntKind.i64.wrap ((IntKind.i64.wrap (a2 + 1)) * p0.f0.f0)) - (IntKind.i64.wrap (a1 * p0.f0.f0))) then ((F116w0.f k n1162 ((0 + (IntKind.i64.wrap (a1 * p0.f0.f0))) + (IntKind.i64.wrap (((IntKind.i64.wrap ((IntKind.i64.wrap (a2 + 1)) * p0.f0.f0)) - (IntKind.i64.wrap (a1 * p0.f0.f0))) - n9))) (((IntKind.i64.wrap ((IntKind.i64.wrap (a2 + 1)) * p0.f0.f0)) - (IntKind.i64.wrap (a1 * p0.f0.f0))) - (IntKind.i64.wrap (((IntKind.i64.wrap ((IntKind.i64.wrap (a2 + 1)) * p0.f0.f0)) - (IntKind.i64.wrap (a1 * p0.f0.f0))) - n9))) a4).bind (fun r1583=>if r1583.length = n1162.length then (some (({ p0 with f0:=(S26.mk p0.f0.f0 p0.f0.f1 r1583) }))) else none)) else none)) else none) else (if 0 ≤ (IntKind.i64.wrap (0 - n9))∧(IntKind.i64.wrap (0 - n9)) ≤ ((IntKind.i64.wrap ((IntKind.i64.wrap (a2 + 1)) * p0.f0.f0)) - (IntKind.i64.wrap (a1 * p0.f0.f0)))∧((IntKind.i64.wrap ((IntKind.i64.wrap (a2 + 1)) * p0.f0.f0)) - (IntKind.i64.wrap (a1 * p0.f0.f0))) ≤ ((IntKind.i64.wrap ((IntKind.i64.wrap (a2 + 1)) * p0.f0.f0)) - (IntKind.i64.wrap (a1 * p0.f0.f0))) then (lt (over p0.f0.f2 ((0 + (IntKind.i64.wrap (a1 * p0.f0.f0))) + (IntKind.i64.wrap (0 - n9))).toNat ((sub p0.f0.f2 (0 + (IntKind.i64.wrap (a1 * p0.f0.f0))) ((0 + (IntKind.i64.wrap (a1 * p0.f0.f0))) + ((IntKind.i64.wrap ((IntKind.i64.wrap (a2 + 1)) * p0.f0.f0)) - (IntKind.i64.wrap (a1 * p0.f0.f0))))).take (((IntKind.i64.wrap ((IntKind.i64.wrap (a2 + 1)) * p0.f0.f0)) - (IntKind.i64.wrap (a1 * p0.f0.f0))) - (IntKind.i64.wrap (0 - n9))).toNat)) fun n1650=>(if 0 ≤ (0 : Int)∧(0 : Int) ≤ (IntKind.i64.wrap (0 - n9))∧(IntKind.i64.wrap (0 - n9)) ≤ ((IntKind.i64.wrap ((IntKind.i64.wrap (a2 + 1)) * p0.f0.f0)) - (IntKind.i64.wrap (a1 * p0.f0.f0))) then ((F116w0.f k n1650 ((0 + (IntKind.i64.wrap (a1 * p0.f0.f0))) + (0 : Int)) ((IntKind.i64.wrap (0 - n9)) - (0 : Int)) a4).bind (fun r1951=>if r1951.length = n1650.length then (some (({ p0 with f0:=(S26.mk p0.f0.f0 p0.f0.f1 r1951) }))) else none)) else none)) else none)) else none
theorem F131i34m0b_0_.ok {p0 : S34} {a1 : Int} {a2 : Int} {a3 : Int} {a4 : S28} {r : S34} (H : F131i34m0b_0_.f k p0 a1 a2 a3 a4 = some r) : SCA Tryz.prog 131 #[.pointer (some ⟨b0_,0,none⟩),il' a1,il' a2,il' a3,.agg (c28' a4).toArray] [Blk b0_ 34 (c34' p0 A0_0 c0_0 A0_1 c0_1 A0_2 c0_2 A0_3 c0_3),Buf k55 55 A0_0 c0_0 p0.f0.f2,bl' 3 A0_1 c0_1 p0.f7,Buf k55 55 A0_2 c0_2 p0.f16.f2,bw' 21 A0_3 c0_3 p0.f17] (fun v B=>∃ P0_0_ q0_0_ P0_1_ q0_1_ P0_2_ q0_2_ P0_3_ q0_3_,v = .tuple #[]∧B = [Blk b0_ 34 (c34' r P0_0_ q0_0_ P0_1_ q0_1_ P0_2_ q0_2_ P0_3_ q0_3_),Buf k55 55 P0_0_ q0_0_ r.f0.f2,bl' 3 P0_1_ q0_1_ r.f7,Buf k55 55 P0_2_ q0_2_ r.f16.f2,bw' 21 P0_3_ q0_3_ r.f17]):=by
 refine SCA_of_body Tryz.func131 rfl rfl ?_
 unfold F131i34m0b_0_.f at H
 refine qr' ?_
 refine o' (bx' fun b6=>?_)
 refine nr' ?_
 refine s' (il' a2) mv' ?_
 refine s' (il' a1) mv' ?_
 refine s' (il' (IntKind.i64.wrap (a2 - a1))) (V_sub rfl rfl) ?_
 refine s' (il' (IntKind.i64.wrap ((IntKind.i64.wrap (a2 - a1)) + 1))) (V_add rfl rfl) ?_
 obtain⟨n8,hn8,H⟩:=g_lt H
 refine s' (il' n8) (V_assign (v:=il' n8) (congrArg (Value.int .i64) hn8.symm)) ?_
 refine nr' ?_
 refine s' (il' n8) mv' ?_
 refine s' (il' (IntKind.i64.wrap (0 - n8))) (V_neg rfl) ?_
 refine s' (il' a3) mv' ?_
 refine s' (il' n8) mv' ?_
 refine s' (il' (minI a3 n8)) (V_min rfl rfl) ?_
 refine s' (il' (maxI (IntKind.i64.wrap (0 - n8)) (minI a3 n8))) (V_max rfl rfl) ?_
 refine s' (pt' b0_) mv' ?_
 refine s' (pt' b0_) nc' ?_
 refine s' (pt' b0_) (fa' b0_ 0 0) ?_
 refine l' (ld' b0_ 0 0) ?_
 refine s' (il' (IntKind.i64.wrap ((maxI (IntKind.i64.wrap (0 - n8)) (minI a3 n8)) * p0.f0.f0))) (V_mul rfl rfl) ?_
 obtain⟨n9,hn9,H⟩:=g_lt H
 refine s' (il' n9) (V_assign (v:=il' n9) (congrArg (Value.int .i64) hn9.symm)) ?_
 refine na' (SA_seq ?_)
 refine fc' 1 fun hc10=>?_
 refine fc' 2 fun hc11=>?_
 refine fc' 3 fun hc12=>?_
 refine fc' 4 fun hc13=>?_
 refine SA_drawHq (rg' 0 19) (List.toArray ([]::[0]::[0,1]::[0,1,2]::[]::[]::[5]::[5,6]::[5,6,7]::(rg' 4 5)::[]::[10]::[]::[12]::[12,13]::[12,13,14]::(rg' 10 6)::(rg' 0 17)::(rg' 0 18)::[])) [0] (rg' 1 5) mixed rfl rfl rfl (PanOk.thn PanOk.body) fun I0 hS h0 hh0 w0 sH dd pk=>?_
 refine t' (pt' b0_) 0 rfl sH mv' ?_
 refine t' (pt' b0_) 1 rfl sH nc' ?_
 refine t' (pa' b0_ 2) 2 rfl sH (fa' b0_ 0 2) ?_
 refine r' 3 rfl sH (ld' b0_ 2 0) ?_
 refine t' (il' a1) 4 rfl sH mv' ?_
 refine t' (pt' b0_) 5 rfl sH mv' ?_
 refine t' (pt' b0_) 6 rfl sH nc' ?_
 refine t' (pt' b0_) 7 rfl sH (fa' b0_ 0 0) ?_
 refine r' 8 rfl sH (ld' b0_ 0 0) ?_
 refine t' (il' (IntKind.i64.wrap (a1 * p0.f0.f0))) 9 rfl sH (V_mul rfl rfl) ?_
 refine t' (il' a2) 10 rfl sH mv' ?_
 refine t' (il' (IntKind.i64.wrap (a2 + 1))) 11 rfl sH (V_add rfl rfl) ?_
 refine t' (pt' b0_) 12 rfl sH mv' ?_
 refine t' (pt' b0_) 13 rfl sH nc' ?_
 refine t' (pt' b0_) 14 rfl sH (fa' b0_ 0 0) ?_
 refine r' 15 rfl sH (ld' b0_ 0 0) ?_
 refine t' (il' (IntKind.i64.wrap ((IntKind.i64.wrap (a2 + 1)) * p0.f0.f0))) 16 rfl sH (V_mul rfl rfl) ?_
 obtain⟨⟨g1034,g1035,g1036⟩,H⟩:=g_pos H
 refine t' (.slice (slA A0_0 (IntKind.i64.wrap (a1 * p0.f0.f0)) ((c0_0 : Nat) : Int) 15) ((IntKind.i64.wrap ((IntKind.i64.wrap (a2 + 1)) * p0.f0.f0)) - (IntKind.i64.wrap (a1 * p0.f0.f0))).toNat (((c0_0 : Nat) : Int).toNat - (IntKind.i64.wrap (a1 * p0.f0.f0)).toNat)) 17 rfl sH (V_sliceW (l:=0) (m:=(p0.f0.f2.length : Int)) (a:=IntKind.i64.wrap (a1 * p0.f0.f0)) (b:=IntKind.i64.wrap ((IntKind.i64.wrap (a2 + 1)) * p0.f0.f0)) (q:=((c0_0 : Nat) : Int)) (Win.whole (A:=A0_0) (sz:=15) (xs:=p0.f0.f2) (c:=c0_0) (by omega)) Tryz.underlying24 sz55 rfl rfl rfl rfl (.inr ⟨_,rfl⟩) (.inr ⟨_,rfl⟩) (.inl ⟨rfl,rfl⟩) g1034 g1035 g1036) ?_
 have hW1039 : Win A0_0 (slA A0_0 (IntKind.i64.wrap (a1 * p0.f0.f0)) ((c0_0 : Nat) : Int) 15) 15 (0 + (IntKind.i64.wrap (a1 * p0.f0.f0))) ((IntKind.i64.wrap ((IntKind.i64.wrap (a2 + 1)) * p0.f0.f0)) - (IntKind.i64.wrap (a1 * p0.f0.f0))) (((c0_0 : Nat) : Int).toNat - (IntKind.i64.wrap (a1 * p0.f0.f0)).toNat):=Win.sub (Win.whole (A:=A0_0) (sz:=15) (xs:=p0.f0.f2) (c:=c0_0) (by omega)) g1034 g1035 g1036 (.inl rfl) (Int.le_refl _)
 refine t' (.slice (slA A0_0 (IntKind.i64.wrap (a1 * p0.f0.f0)) ((c0_0 : Nat) : Int) 15) ((IntKind.i64.wrap ((IntKind.i64.wrap (a2 + 1)) * p0.f0.f0)) - (IntKind.i64.wrap (a1 * p0.f0.f0))).toNat (((c0_0 : Nat) : Int).toNat - (IntKind.i64.wrap (a1 * p0.f0.f0)).toNat)) 18 rfl sH as' ?_
 refine DH_open dd sH ?_
 refine DN_done (by kernel_rfl) ?_
 refine at_normal ?_
 refine SA.of_St (l:=[(3,il' n9),(9,pt' b6),(11,.slice (slA A0_0 (IntKind.i64.wrap (a1 * p0.f0.f0)) ((c0_0 : Nat) : Int) 15) ((IntKind.i64.wrap ((IntKind.i64.wrap (a2 + 1)) * p0.f0.f0)) - (IntKind.i64.wrap (a1 * p0.f0.f0))).toNat (((c0_0 : Nat) : Int).toNat - (IntKind.i64.wrap (a1 * p0.f0.f0)).toNat))]) (B:=[Blk b0_ 34 (c34' p0 A0_0 c0_0 A0_1 c0_1 A0_2 c0_2 A0_3 c0_3),Buf k55 55 A0_0 c0_0 p0.f0.f2,bl' 3 A0_1 c0_1 p0.f7,Buf k55 55 A0_2 c0_2 p0.f16.f2,bw' 21 A0_3 c0_3 p0.f17,Blk b6 28 (c28' a4)]) (St.mk1 (aeq rfl (aeq rfl (aeq rfl aeq0))) (Gh.sel [0,1,2,3,4,5] (by kernel_rfl) (by kernel_rfl))) fun junk=>?_
 refine qr' ?_
 refine s' (il' n9) mv' ?_
 refine s' (.bool (decide (n9 ≥ 0))) (V_geq rfl rfl) ?_
 refine na' ?_
 by_cases h1155 : n9 ≥ 0
 ·replace H:=g_ift h1155 H
  refine SA_condT rfl h1155 ?_
  refine qr' ?_
  refine s' (.slice (slA A0_0 (IntKind.i64.wrap (a1 * p0.f0.f0)) ((c0_0 : Nat) : Int) 15) ((IntKind.i64.wrap ((IntKind.i64.wrap (a2 + 1)) * p0.f0.f0)) - (IntKind.i64.wrap (a1 * p0.f0.f0))).toNat (((c0_0 : Nat) : Int).toNat - (IntKind.i64.wrap (a1 * p0.f0.f0)).toNat)) mv' ?_
  refine s' (.slice (slA A0_0 (IntKind.i64.wrap (a1 * p0.f0.f0)) ((c0_0 : Nat) : Int) 15) ((IntKind.i64.wrap ((IntKind.i64.wrap (a2 + 1)) * p0.f0.f0)) - (IntKind.i64.wrap (a1 * p0.f0.f0))).toNat (((c0_0 : Nat) : Int).toNat - (IntKind.i64.wrap (a1 * p0.f0.f0)).toNat)) mv' ?_
  refine s' (il' n9) mv' ?_
  obtain⟨⟨g1156,g1157,g1158⟩,H⟩:=g_pos H
  refine s' (.slice (slA (slA A0_0 (IntKind.i64.wrap (a1 * p0.f0.f0)) ((c0_0 : Nat) : Int) 15) n9 ((((c0_0 : Nat) : Int).toNat - (IntKind.i64.wrap (a1 * p0.f0.f0)).toNat : Nat) : Int) 15) (((IntKind.i64.wrap ((IntKind.i64.wrap (a2 + 1)) * p0.f0.f0)) - (IntKind.i64.wrap (a1 * p0.f0.f0))) - n9).toNat (((((c0_0 : Nat) : Int).toNat - (IntKind.i64.wrap (a1 * p0.f0.f0)).toNat : Nat) : Int).toNat - n9.toNat)) (V_sliceW (l:=0 + (IntKind.i64.wrap (a1 * p0.f0.f0))) (m:=(IntKind.i64.wrap ((IntKind.i64.wrap (a2 + 1)) * p0.f0.f0)) - (IntKind.i64.wrap (a1 * p0.f0.f0))) (a:=n9) (b:=(IntKind.i64.wrap ((IntKind.i64.wrap (a2 + 1)) * p0.f0.f0)) - (IntKind.i64.wrap (a1 * p0.f0.f0))) (q:=((((c0_0 : Nat) : Int).toNat - (IntKind.i64.wrap (a1 * p0.f0.f0)).toNat : Nat) : Int)) hW1039 Tryz.underlying24 sz55 rfl rfl rfl rfl (.inr ⟨_,rfl⟩) (.inl ⟨rfl,rfl,rfl⟩) (.inl ⟨rfl,rfl⟩) g1156 g1157 g1158) ?_
  have hW1161 : Win A0_0 (slA (slA A0_0 (IntKind.i64.wrap (a1 * p0.f0.f0)) ((c0_0 : Nat) : Int) 15) n9 ((((c0_0 : Nat) : Int).toNat - (IntKind.i64.wrap (a1 * p0.f0.f0)).toNat : Nat) : Int) 15) 15 ((0 + (IntKind.i64.wrap (a1 * p0.f0.f0))) + n9) (((IntKind.i64.wrap ((IntKind.i64.wrap (a2 + 1)) * p0.f0.f0)) - (IntKind.i64.wrap (a1 * p0.f0.f0))) - n9) (((((c0_0 : Nat) : Int).toNat - (IntKind.i64.wrap (a1 * p0.f0.f0)).toNat : Nat) : Int).toNat - n9.toNat):=Win.sub hW1039 g1156 g1157 g1158 (.inl rfl) (Int.le_refl _)
  obtain⟨n1162,hn1162,H⟩:=g_lt H
  have hl_n1162 : n1162.length = p0.f0.f2.length:=by rw [hn1162]; exact over_len (by rw [List.length_take]; omega)
  refine o' (OA_copyV (k:=1) (l:=0 + (IntKind.i64.wrap (a1 * p0.f0.f0))) (m:=(IntKind.i64.wrap ((IntKind.i64.wrap (a2 + 1)) * p0.f0.f0)) - (IntKind.i64.wrap (a1 * p0.f0.f0))) (xs:=p0.f0.f2) (ys:=sub p0.f0.f2 ((0 + (IntKind.i64.wrap (a1 * p0.f0.f0))) + n9) (((0 + (IntKind.i64.wrap (a1 * p0.f0.f0))) + n9) + (((IntKind.i64.wrap ((IntKind.i64.wrap (a2 + 1)) * p0.f0.f0)) - (IntKind.i64.wrap (a1 * p0.f0.f0))) - n9))) n1162 hn1162 hW1039 rfl Tryz.underlying24 sz55 rfl rfl rfl (by omega) rfl (Cpy.win (Src.buf (k:=1) rfl) hW1161 rfl (by omega)) ?_)
  try unfold c28'
  try unfold c34'
  try rewrite [← hl_n1162]
  refine na' ?_
  refine SA_drawHq (rg' 0 7) #[[],[],[1],[],[1,2,3],(rg' 0 5),[],(rg' 0 7)] [5] (rg' 0 5) mixed rfl rfl rfl PanOk.body fun I0 hS h0 hh0 w0 sH dd pk=>?_
  refine t' (.slice (slA A0_0 (IntKind.i64.wrap (a1 * p0.f0.f0)) ((c0_0 : Nat) : Int) 15) ((IntKind.i64.wrap ((IntKind.i64.wrap (a2 + 1)) * p0.f0.f0)) - (IntKind.i64.wrap (a1 * p0.f0.f0))).toNat (((c0_0 : Nat) : Int).toNat - (IntKind.i64.wrap (a1 * p0.f0.f0)).toNat)) 0 rfl sH mv' ?_
  refine t' (.slice (slA A0_0 (IntKind.i64.wrap (a1 * p0.f0.f0)) ((c0_0 : Nat) : Int) 15) ((IntKind.i64.wrap ((IntKind.i64.wrap (a2 + 1)) * p0.f0.f0)) - (IntKind.i64.wrap (a1 * p0.f0.f0))).toNat (((c0_0 : Nat) : Int).toNat - (IntKind.i64.wrap (a1 * p0.f0.f0)).toNat)) 1 rfl sH mv' ?_
  refine t' (il' ((IntKind.i64.wrap ((IntKind.i64.wrap (a2 + 1)) * p0.f0.f0)) - (IntKind.i64.wrap (a1 * p0.f0.f0)))) 2 rfl sH (V_lenW hW1039 Tryz.underlying24 rfl) ?_
  refine t' (il' n9) 3 rfl sH mv' ?_
  refine t' (il' (IntKind.i64.wrap (((IntKind.i64.wrap ((IntKind.i64.wrap (a2 + 1)) * p0.f0.f0)) - (IntKind.i64.wrap (a1 * p0.f0.f0))) - n9))) 4 rfl sH (V_sub rfl rfl) ?_
  obtain⟨⟨g1463,g1464,g1465⟩,H⟩:=g_pos H
  refine t' (.slice (slA (slA A0_0 (IntKind.i64.wrap (a1 * p0.f0.f0)) ((c0_0 : Nat) : Int) 15) (IntKind.i64.wrap (((IntKind.i64.wrap ((IntKind.i64.wrap (a2 + 1)) * p0.f0.f0)) - (IntKind.i64.wrap (a1 * p0.f0.f0))) - n9)) ((((c0_0 : Nat) : Int).toNat - (IntKind.i64.wrap (a1 * p0.f0.f0)).toNat : Nat) : Int) 15) (((IntKind.i64.wrap ((IntKind.i64.wrap (a2 + 1)) * p0.f0.f0)) - (IntKind.i64.wrap (a1 * p0.f0.f0))) - (IntKind.i64.wrap (((IntKind.i64.wrap ((IntKind.i64.wrap (a2 + 1)) * p0.f0.f0)) - (IntKind.i64.wrap (a1 * p0.f0.f0))) - n9))).toNat (((((c0_0 : Nat) : Int).toNat - (IntKind.i64.wrap (a1 * p0.f0.f0)).toNat : Nat) : Int).toNat - (IntKind.i64.wrap (((IntKind.i64.wrap ((IntKind.i64.wrap (a2 + 1)) * p0.f0.f0)) - (IntKind.i64.wrap (a1 * p0.f0.f0))) - n9)).toNat)) 5 rfl sH (V_sliceW (l:=0 + (IntKind.i64.wrap (a1 * p0.f0.f0))) (m:=(IntKind.i64.wrap ((IntKind.i64.wrap (a2 + 1)) * p0.f0.f0)) - (IntKind.i64.wrap (a1 * p0.f0.f0))) (a:=IntKind.i64.wrap (((IntKind.i64.wrap ((IntKind.i64.wrap (a2 + 1)) * p0.f0.f0)) - (IntKind.i64.wrap (a1 * p0.f0.f0))) - n9)) (b:=(IntKind.i64.wrap ((IntKind.i64.wrap (a2 + 1)) * p0.f0.f0)) - (IntKind.i64.wrap (a1 * p0.f0.f0))) (q:=((((c0_0 : Nat) : Int).toNat - (IntKind.i64.wrap (a1 * p0.f0.f0)).toNat : Nat) : Int)) hW1039 Tryz.underlying24 sz55 rfl rfl rfl rfl (.inr ⟨_,rfl⟩) (.inl ⟨rfl,rfl,rfl⟩) (.inl ⟨rfl,rfl⟩) g1463 g1464 g1465) ?_
  have hW1468 : Win A0_0 (slA (slA A0_0 (IntKind.i64.wrap (a1 * p0.f0.f0)) ((c0_0 : Nat) : Int) 15) (IntKind.i64.wrap (((IntKind.i64.wrap ((IntKind.i64.wrap (a2 + 1)) * p0.f0.f0)) - (IntKind.i64.wrap (a1 * p0.f0.f0))) - n9)) ((((c0_0 : Nat) : Int).toNat - (IntKind.i64.wrap (a1 * p0.f0.f0)).toNat : Nat) : Int) 15) 15 ((0 + (IntKind.i64.wrap (a1 * p0.f0.f0))) + (IntKind.i64.wrap (((IntKind.i64.wrap ((IntKind.i64.wrap (a2 + 1)) * p0.f0.f0)) - (IntKind.i64.wrap (a1 * p0.f0.f0))) - n9))) (((IntKind.i64.wrap ((IntKind.i64.wrap (a2 + 1)) * p0.f0.f0)) - (IntKind.i64.wrap (a1 * p0.f0.f0))) - (IntKind.i64.wrap (((IntKind.i64.wrap ((IntKind.i64.wrap (a2 + 1)) * p0.f0.f0)) - (IntKind.i64.wrap (a1 * p0.f0.f0))) - n9))) (((((c0_0 : Nat) : Int).toNat - (IntKind.i64.wrap (a1 * p0.f0.f0)).toNat : Nat) : Int).toNat - (IntKind.i64.wrap (((IntKind.i64.wrap ((IntKind.i64.wrap (a2 + 1)) * p0.f0.f0)) - (IntKind.i64.wrap (a1 * p0.f0.f0))) - n9)).toNat):=Win.sub hW1039 g1463 g1464 g1465 (.inl rfl) (Int.le_refl _)
  refine r' 6 rfl sH (lA' b6 0 0 (c28' a4)) ?_
  obtain⟨r1583,C1585,H⟩:=g_bind H
  obtain⟨hl1584,H⟩:=g_pos H
  refine DH_one 7 dd (by kernel_rfl) rfl (.no rfl) (ca' [1] [0,2,3,4] (xf' [.slice (slA (slA A0_0 (IntKind.i64.wrap (a1 * p0.f0.f0)) ((c0_0 : Nat) : Int) 15) (IntKind.i64.wrap (((IntKind.i64.wrap ((IntKind.i64.wrap (a2 + 1)) * p0.f0.f0)) - (IntKind.i64.wrap (a1 * p0.f0.f0))) - n9)) ((((c0_0 : Nat) : Int).toNat - (IntKind.i64.wrap (a1 * p0.f0.f0)).toNat : Nat) : Int) 15) (((IntKind.i64.wrap ((IntKind.i64.wrap (a2 + 1)) * p0.f0.f0)) - (IntKind.i64.wrap (a1 * p0.f0.f0))) - (IntKind.i64.wrap (((IntKind.i64.wrap ((IntKind.i64.wrap (a2 + 1)) * p0.f0.f0)) - (IntKind.i64.wrap (a1 * p0.f0.f0))) - n9))).toNat (((((c0_0 : Nat) : Int).toNat - (IntKind.i64.wrap (a1 * p0.f0.f0)).toNat : Nat) : Int).toNat - (IntKind.i64.wrap (((IntKind.i64.wrap ((IntKind.i64.wrap (a2 + 1)) * p0.f0.f0)) - (IntKind.i64.wrap (a1 * p0.f0.f0))) - n9)).toNat),.agg (c28' a4).toArray]) (F116w0.ok (l0:=n1162) (o0:=(0 + (IntKind.i64.wrap (a1 * p0.f0.f0))) + (IntKind.i64.wrap (((IntKind.i64.wrap ((IntKind.i64.wrap (a2 + 1)) * p0.f0.f0)) - (IntKind.i64.wrap (a1 * p0.f0.f0))) - n9))) (n0:=((IntKind.i64.wrap ((IntKind.i64.wrap (a2 + 1)) * p0.f0.f0)) - (IntKind.i64.wrap (a1 * p0.f0.f0))) - (IntKind.i64.wrap (((IntKind.i64.wrap ((IntKind.i64.wrap (a2 + 1)) * p0.f0.f0)) - (IntKind.i64.wrap (a1 * p0.f0.f0))) - n9))) (A0:=A0_0) (c0:=c0_0) (V0:=slA (slA A0_0 (IntKind.i64.wrap (a1 * p0.f0.f0)) ((c0_0 : Nat) : Int) 15) (IntKind.i64.wrap (((IntKind.i64.wrap ((IntKind.i64.wrap (a2 + 1)) * p0.f0.f0)) - (IntKind.i64.wrap (a1 * p0.f0.f0))) - n9)) ((((c0_0 : Nat) : Int).toNat - (IntKind.i64.wrap (a1 * p0.f0.f0)).toNat : Nat) : Int) 15) (v0:=((((c0_0 : Nat) : Int).toNat - (IntKind.i64.wrap (a1 * p0.f0.f0)).toNat : Nat) : Int).toNat - (IntKind.i64.wrap (((IntKind.i64.wrap ((IntKind.i64.wrap (a2 + 1)) * p0.f0.f0)) - (IntKind.i64.wrap (a1 * p0.f0.f0))) - n9)).toNat) (hw0:=hW1468) (a1:=a4) C1585) ?_)
  rintro _ _⟨rfl,rfl⟩
  try unfold c28'
  try unfold c34'
  try rewrite [← hl1584]
  try unfold c28' at sH
  try unfold c34' at sH
  try rewrite [← hl1584] at sH
  refine DH_open dd sH ?_
  refine DN_done (by kernel_rfl) ?_
  have h_:=oi' H;subst h_
  exact bn' [2,1,3,4,5] ⟨A0_0,c0_0,A0_1,c0_1,A0_2,c0_2,A0_3,c0_3,rfl,rfl⟩
 replace H:=g_iff h1155 H
 refine SA_condF rfl h1155 ?_
 refine qr' ?_
 refine s' (.slice (slA A0_0 (IntKind.i64.wrap (a1 * p0.f0.f0)) ((c0_0 : Nat) : Int) 15) ((IntKind.i64.wrap ((IntKind.i64.wrap (a2 + 1)) * p0.f0.f0)) - (IntKind.i64.wrap (a1 * p0.f0.f0))).toNat (((c0_0 : Nat) : Int).toNat - (IntKind.i64.wrap (a1 * p0.f0.f0)).toNat)) mv' ?_
 refine s' (il' n9) mv' ?_
 refine s' (il' (IntKind.i64.wrap (0 - n9))) (V_neg rfl) ?_
 obtain⟨⟨g1644,g1645,g1646⟩,H⟩:=g_pos H
 refine s' (.slice (slA (slA A0_0 (IntKind.i64.wrap (a1 * p0.f0.f0)) ((c0_0 : Nat) : Int) 15) (IntKind.i64.wrap (0 - n9)) ((((c0_0 : Nat) : Int).toNat - (IntKind.i64.wrap (a1 * p0.f0.f0)).toNat : Nat) : Int) 15) (((IntKind.i64.wrap ((IntKind.i64.wrap (a2 + 1)) * p0.f0.f0)) - (IntKind.i64.wrap (a1 * p0.f0.f0))) - (IntKind.i64.wrap (0 - n9))).toNat (((((c0_0 : Nat) : Int).toNat - (IntKind.i64.wrap (a1 * p0.f0.f0)).toNat : Nat) : Int).toNat - (IntKind.i64.wrap (0 - n9)).toNat)) (V_sliceW (l:=0 + (IntKind.i64.wrap (a1 * p0.f0.f0))) (m:=(IntKind.i64.wrap ((IntKind.i64.wrap (a2 + 1)) * p0.f0.f0)) - (IntKind.i64.wrap (a1 * p0.f0.f0))) (a:=IntKind.i64.wrap (0 - n9)) (b:=(IntKind.i64.wrap ((IntKind.i64.wrap (a2 + 1)) * p0.f0.f0)) - (IntKind.i64.wrap (a1 * p0.f0.f0))) (q:=((((c0_0 : Nat) : Int).toNat - (IntKind.i64.wrap (a1 * p0.f0.f0)).toNat : Nat) : Int)) hW1039 Tryz.underlying24 sz55 rfl rfl rfl rfl (.inr ⟨_,rfl⟩) (.inl ⟨rfl,rfl,rfl⟩) (.inl ⟨rfl,rfl⟩) g1644 g1645 g1646) ?_
 have hW1649 : Win A0_0 (slA (slA A0_0 (IntKind.i64.wrap (a1 * p0.f0.f0)) ((c0_0 : Nat) : Int) 15) (IntKind.i64.wrap (0 - n9)) ((((c0_0 : Nat) : Int).toNat - (IntKind.i64.wrap (a1 * p0.f0.f0)).toNat : Nat) : Int) 15) 15 ((0 + (IntKind.i64.wrap (a1 * p0.f0.f0))) + (IntKind.i64.wrap (0 - n9))) (((IntKind.i64.wrap ((IntKind.i64.wrap (a2 + 1)) * p0.f0.f0)) - (IntKind.i64.wrap (a1 * p0.f0.f0))) - (IntKind.i64.wrap (0 - n9))) (((((c0_0 : Nat) : Int).toNat - (IntKind.i64.wrap (a1 * p0.f0.f0)).toNat : Nat) : Int).toNat - (IntKind.i64.wrap (0 - n9)).toNat):=Win.sub hW1039 g1644 g1645 g1646 (.inl rfl) (Int.le_refl _)
 refine s' (.slice (slA A0_0 (IntKind.i64.wrap (a1 * p0.f0.f0)) ((c0_0 : Nat) : Int) 15) ((IntKind.i64.wrap ((IntKind.i64.wrap (a2 + 1)) * p0.f0.f0)) - (IntKind.i64.wrap (a1 * p0.f0.f0))).toNat (((c0_0 : Nat) : Int).toNat - (IntKind.i64.wrap (a1 * p0.f0.f0)).toNat)) mv' ?_
 obtain⟨n1650,hn1650,H⟩:=g_lt H
 have hl_n1650 : n1650.length = p0.f0.f2.length:=by rw [hn1650]; exact over_len (by rw [List.length_take]; omega)
 refine o' (OA_copyV (k:=1) (l:=(0 + (IntKind.i64.wrap (a1 * p0.f0.f0))) + (IntKind.i64.wrap (0 - n9))) (m:=((IntKind.i64.wrap ((IntKind.i64.wrap (a2 + 1)) * p0.f0.f0)) - (IntKind.i64.wrap (a1 * p0.f0.f0))) - (IntKind.i64.wrap (0 - n9))) (xs:=p0.f0.f2) (ys:=sub p0.f0.f2 (0 + (IntKind.i64.wrap (a1 * p0.f0.f0))) ((0 + (IntKind.i64.wrap (a1 * p0.f0.f0))) + ((IntKind.i64.wrap ((IntKind.i64.wrap (a2 + 1)) * p0.f0.f0)) - (IntKind.i64.wrap (a1 * p0.f0.f0))))) n1650 hn1650 hW1649 rfl Tryz.underlying24 sz55 rfl rfl rfl (by omega) rfl (Cpy.win (Src.buf (k:=1) rfl) hW1039 rfl (by omega)) ?_)
 try unfold c28'
 try unfold c34'
 try rewrite [← hl_n1650]
 refine na' ?_
 refine SA_drawHq (rg' 0 5) #[[],[],[1],[0,1,2],[],(rg' 0 5)] [5] (rg' 0 5) mixed rfl rfl rfl PanOk.body fun I0 hS h0 hh0 w0 sH dd pk=>?_
 refine t' (.slice (slA A0_0 (IntKind.i64.wrap (a1 * p0.f0.f0)) ((c0_0 : Nat) : Int) 15) ((IntKind.i64.wrap ((IntKind.i64.wrap (a2 + 1)) * p0.f0.f0)) - (IntKind.i64.wrap (a1 * p0.f0.f0))).toNat (((c0_0 : Nat) : Int).toNat - (IntKind.i64.wrap (a1 * p0.f0.f0)).toNat)) 0 rfl sH mv' ?_
 refine t' (il' n9) 1 rfl sH mv' ?_
 refine t' (il' (IntKind.i64.wrap (0 - n9))) 2 rfl sH (V_neg rfl) ?_
 obtain⟨⟨g1831,g1832,g1833⟩,H⟩:=g_pos H
 refine t' (.slice (slA (slA A0_0 (IntKind.i64.wrap (a1 * p0.f0.f0)) ((c0_0 : Nat) : Int) 15) (0 : Int) ((((c0_0 : Nat) : Int).toNat - (IntKind.i64.wrap (a1 * p0.f0.f0)).toNat : Nat) : Int) 15) ((IntKind.i64.wrap (0 - n9)) - (0 : Int)).toNat (((((c0_0 : Nat) : Int).toNat - (IntKind.i64.wrap (a1 * p0.f0.f0)).toNat : Nat) : Int).toNat - (0 : Int).toNat)) 3 rfl sH (V_sliceW (l:=0 + (IntKind.i64.wrap (a1 * p0.f0.f0))) (m:=(IntKind.i64.wrap ((IntKind.i64.wrap (a2 + 1)) * p0.f0.f0)) - (IntKind.i64.wrap (a1 * p0.f0.f0))) (a:=(0 : Int)) (b:=IntKind.i64.wrap (0 - n9)) (q:=((((c0_0 : Nat) : Int).toNat - (IntKind.i64.wrap (a1 * p0.f0.f0)).toNat : Nat) : Int)) hW1039 Tryz.underlying24 sz55 rfl rfl rfl rfl (.inl ⟨rfl,rfl⟩) (.inr ⟨_,rfl⟩) (.inl ⟨rfl,rfl⟩) g1831 g1832 g1833) ?_
 have hW1836 : Win A0_0 (slA (slA A0_0 (IntKind.i64.wrap (a1 * p0.f0.f0)) ((c0_0 : Nat) : Int) 15) (0 : Int) ((((c0_0 : Nat) : Int).toNat - (IntKind.i64.wrap (a1 * p0.f0.f0)).toNat : Nat) : Int) 15) 15 ((0 + (IntKind.i64.wrap (a1 * p0.f0.f0))) + (0 : Int)) ((IntKind.i64.wrap (0 - n9)) - (0 : Int)) (((((c0_0 : Nat) : Int).toNat - (IntKind.i64.wrap (a1 * p0.f0.f0)).toNat : Nat) : Int).toNat - (0 : Int).toNat):=Win.sub hW1039 g1831 g1832 g1833 (.inl rfl) (Int.le_refl _)
 refine r' 4 rfl sH (lA' b6 0 0 (c28' a4)) ?_
 obtain⟨r1951,C1953,H⟩:=g_bind H
 obtain⟨hl1952,H⟩:=g_pos H
 refine DH_one 5 dd (by kernel_rfl) rfl (.no rfl) (ca' [1] [0,2,3,4] (xf' [.slice (slA (slA A0_0 (IntKind.i64.wrap (a1 * p0.f0.f0)) ((c0_0 : Nat) : Int) 15) (0 : Int) ((((c0_0 : Nat) : Int).toNat - (IntKind.i64.wrap (a1 * p0.f0.f0)).toNat : Nat) : Int) 15) ((IntKind.i64.wrap (0 - n9)) - (0 : Int)).toNat (((((c0_0 : Nat) : Int).toNat - (IntKind.i64.wrap (a1 * p0.f0.f0)).toNat : Nat) : Int).toNat - (0 : Int).toNat),.agg (c28' a4).toArray]) (F116w0.ok (l0:=n1650) (o0:=(0 + (IntKind.i64.wrap (a1 * p0.f0.f0))) + (0 : Int)) (n0:=(IntKind.i64.wrap (0 - n9)) - (0 : Int)) (A0:=A0_0) (c0:=c0_0) (V0:=slA (slA A0_0 (IntKind.i64.wrap (a1 * p0.f0.f0)) ((c0_0 : Nat) : Int) 15) (0 : Int) ((((c0_0 : Nat) : Int).toNat - (IntKind.i64.wrap (a1 * p0.f0.f0)).toNat : Nat) : Int) 15) (v0:=((((c0_0 : Nat) : Int).toNat - (IntKind.i64.wrap (a1 * p0.f0.f0)).toNat : Nat) : Int).toNat - (0 : Int).toNat) (hw0:=hW1836) (a1:=a4) C1953) ?_)
 rintro _ _⟨rfl,rfl⟩
 try unfold c28'
 try unfold c34'
 try rewrite [← hl1952]
 try unfold c28' at sH
 try unfold c34' at sH
 try rewrite [← hl1952] at sH
 refine DH_open dd sH ?_
 refine DN_done (by kernel_rfl) ?_
 have h_:=oi' H;subst h_
 exact bn' [2,1,3,4,5] ⟨A0_0,c0_0,A0_1,c0_1,A0_2,c0_2,A0_3,c0_3,rfl,rfl⟩


def F119Lb_0_.f (k : Nat) (p0 : S34) : Option (S34):=if p0.f1 = p0.f6 then ((F131i34m0b_0_.f k p0 p0.f5 p0.f6 1 p0.f4).bind (fun r1874=>some (r1874))) else (if p0.f1 < (IntKind.i64.wrap (p0.f0.f1 - 1)) then (some (({ p0 with f1:=(IntKind.i64.wrap (p0.f1 + 1)) }))) else (some (p0)))
theorem F119Lb_0_.ok {p0 : S34} {r : S34} (H : F119Lb_0_.f k p0 = some r) : SCA Tryz.prog 119 #[.agg #[.pointer (some ⟨b0_,0,none⟩)]] [Blk b0_ 34 (c34' p0 A0_0 c0_0 A0_1 c0_1 A0_2 c0_2 A0_3 c0_3),Buf k55 55 A0_0 c0_0 p0.f0.f2,bl' 3 A0_1 c0_1 p0.f7,Buf k55 55 A0_2 c0_2 p0.f16.f2,bw' 21 A0_3 c0_3 p0.f17] (fun v B=>∃ P0_0_ q0_0_ P0_1_ q0_1_ P0_2_ q0_2_ P0_3_ q0_3_,v = .tuple #[]∧B = [Blk b0_ 34 (c34' r P0_0_ q0_0_ P0_1_ q0_1_ P0_2_ q0_2_ P0_3_ q0_3_),Buf k55 55 P0_0_ q0_0_ r.f0.f2,bl' 3 P0_1_ q0_1_ r.f7,Buf k55 55 P0_2_ q0_2_ r.f16.f2,bw' 21 P0_3_ q0_3_ r.f17]):=by
 refine SCA_of_body Tryz.func119 rfl rfl ?_
 unfold F119Lb_0_.f at H
 refine qr' ?_
 refine o' (bx' fun b6=>?_)
 refine na' (SA_block (SA_seq ?_))
 refine SA_drawHq (rg' 0 12) #[[],[0],[0,1],[0,1,2],(rg' 0 4),[],[5],[5,6],[5,6,7],(rg' 5 4),(rg' 0 10),(rg' 0 11)] [0,5] (rg' 1 4) mixed rfl rfl rfl (PanOk.thn (PanOk.inb PanOk.body)) fun I0 hS h0 hh0 w0 sH dd pk=>?_
 refine t' (pt' b6) 0 rfl sH (fa' b6 0 0) ?_
 refine r' 1 rfl sH (ld' b6 0 1) ?_
 refine t' (pt' b0_) 2 rfl sH nc' ?_
 refine t' (pa' b0_ 3) 3 rfl sH (fa' b0_ 0 3) ?_
 refine r' 4 rfl sH (ld' b0_ 3 0) ?_
 refine t' (pt' b6) 5 rfl sH (fa' b6 0 0) ?_
 refine r' 6 rfl sH (ld' b6 0 1) ?_
 refine t' (pt' b0_) 7 rfl sH nc' ?_
 refine t' (pa' b0_ 17) 8 rfl sH (fa' b0_ 0 17) ?_
 refine r' 9 rfl sH (ld' b0_ 17 0) ?_
 refine t' (.bool (decide (p0.f1 = p0.f6))) 10 rfl sH (V_eql rfl rfl) ?_
 refine t' (.bool (decide (p0.f1 = p0.f6))) 11 rfl sH as' ?_
 refine DH_open dd sH ?_
 refine DN_done (by kernel_rfl) ?_
 refine at_normal ?_
 by_cases h729 : p0.f1 = p0.f6
 ·replace H:=g_ift h729 H
  refine SA_condT rfl h729 ?_
  refine fc' 2 fun hc730=>?_
  refine fc' 3 fun hc731=>?_
  refine fc' 4 fun hc732=>?_
  refine fc' 5 fun hc733=>?_
  refine SA_drawHq (rg' 0 19) (List.toArray ([]::[0]::[0,1]::[0,1,2]::[]::[4]::[4,5]::[4,5,6]::(rg' 4 4)::[]::[9]::[9,10]::[9,10,11]::(rg' 9 4)::[]::[14]::[14,15]::[14,15,16]::(rg' 14 4)::(rg' 0 19)::[])) [0,1] (rg' 2 4) mixed rfl rfl rfl (PanOk.inb PanOk.body) fun I0 hS h0 hh0 w0 sH dd pk=>?_
  refine t' (pt' b6) 0 rfl sH (fa' b6 0 0) ?_
  refine r' 1 rfl sH (ld' b6 0 1) ?_
  refine t' (pt' b0_) 2 rfl sH nc' ?_
  refine t' (pt' b0_) 3 rfl sH (fa' b0_ 0 0) ?_
  refine t' (pt' b6) 4 rfl sH (fa' b6 0 0) ?_
  refine r' 5 rfl sH (ld' b6 0 1) ?_
  refine t' (pt' b0_) 6 rfl sH nc' ?_
  refine t' (pa' b0_ 16) 7 rfl sH (fa' b0_ 0 16) ?_
  refine r' 8 rfl sH (ld' b0_ 16 0) ?_
  refine t' (pt' b6) 9 rfl sH (fa' b6 0 0) ?_
  refine r' 10 rfl sH (ld' b6 0 1) ?_
  refine t' (pt' b0_) 11 rfl sH nc' ?_
  refine t' (pa' b0_ 17) 12 rfl sH (fa' b0_ 0 17) ?_
  refine r' 13 rfl sH (ld' b0_ 17 0) ?_
  refine t' (pt' b6) 14 rfl sH (fa' b6 0 0) ?_
  refine r' 15 rfl sH (ld' b6 0 1) ?_
  refine t' (pt' b0_) 16 rfl sH nc' ?_
  refine t' (pa' b0_ 6) 17 rfl sH (fa' b0_ 0 6) ?_
  refine r' 18 rfl sH (lA' b0_ 6 0 (c28' p0.f4)) ?_
  refine DH_open dd sH ?_
  obtain⟨r1874,C1887,H⟩:=g_bind H
  refine DN_one 19 (by kernel_rfl) rfl rfl (.no rfl) (ca' [0,2,3,4,5] [1] (xf' [pt' b0_,il' p0.f5,il' p0.f6,il' 1,.agg (c28' p0.f4).toArray]) (F131i34m0b_0_.ok (b0_:=b0_) (p0:=p0) (a1:=p0.f5) (a2:=p0.f6) (a3:=1) (a4:=p0.f4) C1887) ?_)
  rintro _ _⟨A1875,c1876,A1878,c1879,A1881,c1882,A1884,c1885,rfl,rfl⟩
  refine DN_done (by kernel_rfl) ?_
  refine inb_normal ?_
  have h_:=oi' H;subst h_
  exact bn' [0,1,2,3,4] ⟨A1875,c1876,A1878,c1879,A1881,c1882,A1884,c1885,rfl,rfl⟩
 replace H:=g_iff h729 H
 refine SA_condF rfl h729 ?_
 refine SA_seq ?_
 refine SA_drawHq (rg' 0 14) (List.toArray ([]::[0]::[0,1]::[0,1,2]::(rg' 0 4)::[]::[5]::[5,6]::[5,6,7]::(rg' 5 4)::(rg' 5 5)::(rg' 5 6)::(rg' 0 12)::(rg' 0 13)::[])) [0,1] (rg' 2 4) mixed rfl rfl rfl (PanOk.thn (PanOk.inb PanOk.body)) fun I0 hS h0 hh0 w0 sH dd pk=>?_
 refine t' (pt' b6) 0 rfl sH (fa' b6 0 0) ?_
 refine r' 1 rfl sH (ld' b6 0 1) ?_
 refine t' (pt' b0_) 2 rfl sH nc' ?_
 refine t' (pa' b0_ 3) 3 rfl sH (fa' b0_ 0 3) ?_
 refine r' 4 rfl sH (ld' b0_ 3 0) ?_
 refine t' (pt' b6) 5 rfl sH (fa' b6 0 0) ?_
 refine r' 6 rfl sH (ld' b6 0 1) ?_
 refine t' (pt' b0_) 7 rfl sH nc' ?_
 refine t' (pt' b0_) 8 rfl sH (fa' b0_ 0 0) ?_
 refine t' (pa' b0_ 1) 9 rfl sH (fa' b0_ 0 1) ?_
 refine r' 10 rfl sH (ld' b0_ 1 0) ?_
 refine t' (il' (IntKind.i64.wrap (p0.f0.f1 - 1))) 11 rfl sH (V_sub rfl rfl) ?_
 refine t' (.bool (decide (p0.f1 < (IntKind.i64.wrap (p0.f0.f1 - 1))))) 12 rfl sH (V_lss rfl rfl) ?_
 refine t' (.bool (decide (p0.f1 < (IntKind.i64.wrap (p0.f0.f1 - 1))))) 13 rfl sH as' ?_
 refine DH_open dd sH ?_
 refine DN_done (by kernel_rfl) ?_
 refine at_normal ?_
 refine SA.of_St (l:=[(1,pt' b6),(34,.bool (decide (p0.f1 < (IntKind.i64.wrap (p0.f0.f1 - 1)))))]) (B:=[Blk b0_ 34 (c34' p0 A0_0 c0_0 A0_1 c0_1 A0_2 c0_2 A0_3 c0_3),Buf k55 55 A0_0 c0_0 p0.f0.f2,bl' 3 A0_1 c0_1 p0.f7,Buf k55 55 A0_2 c0_2 p0.f16.f2,bw' 21 A0_3 c0_3 p0.f17,Blk b6 84 [pt' b0_]]) (St.mk1 (aeq rfl (aeq rfl aeq0)) (Gh.sel [0,2,3,4,5,1] (by kernel_rfl) (by kernel_rfl))) fun junk=>?_
 by_cases h2776 : p0.f1 < (IntKind.i64.wrap (p0.f0.f1 - 1))
 ·replace H:=g_ift h2776 H
  refine SA_condT rfl h2776 ?_
  refine SA_region ?_
  refine s' (pt' b6) (fa' b6 0 0) ?_
  refine l' (ld' b6 0 5) ?_
  refine s' (pt' b0_) nc' ?_
  refine s' (pa' b0_ 3) (fa' b0_ 0 3) ?_
  refine l' (ld' b0_ 3 0) ?_
  refine s' (il' (IntKind.i64.wrap (p0.f1 + 1))) (V_add rfl rfl) ?_
  refine s' (pt' b0_) nc' ?_
  refine s' (pa' b0_ 3) (fa' b0_ 0 3) ?_
  refine o' (st' b0_ 3 0 [il' (IntKind.i64.wrap (p0.f1 + 1))] (c34' ({ p0 with f1:=(IntKind.i64.wrap (p0.f1 + 1)) }) A0_0 c0_0 A0_1 c0_1 A0_2 c0_2 A0_3 c0_3) ?_)
  refine RA_nil (inb_normal ?_)
  have h_:=oi' H;subst h_
  exact bn' [0,1,2,3,4] ⟨A0_0,c0_0,A0_1,c0_1,A0_2,c0_2,A0_3,c0_3,rfl,rfl⟩
 replace H:=g_iff h2776 H
 refine SA_condF rfl h2776 ?_
 refine SA_skip (inb_normal ?_)
 have h_:=oi' H;subst h_
 exact bn' [0,1,2,3,4] ⟨A0_0,c0_0,A0_1,c0_1,A0_2,c0_2,A0_3,c0_3,rfl,rfl⟩


def F120Lb_0_.f (p0 : S34) : Option (Int):=lt (IntKind.i64.wrap (p0.f0.f0 - 1)) fun n8=>some (n8)
theorem F120Lb_0_.ok {p0 : S34} {r : Int} (H : F120Lb_0_.f p0 = some r) : SCA Tryz.prog 120 #[.agg #[.pointer (some ⟨b0_,0,none⟩)]] [Blk b0_ 34 (c34' p0 A0_0 c0_0 A0_1 c0_1 A0_2 c0_2 A0_3 c0_3),Buf k55 55 A0_0 c0_0 p0.f0.f2,bl' 3 A0_1 c0_1 p0.f7,Buf k55 55 A0_2 c0_2 p0.f16.f2,bw' 21 A0_3 c0_3 p0.f17] (fun v B=>v = il' r∧B = [Blk b0_ 34 (c34' p0 A0_0 c0_0 A0_1 c0_1 A0_2 c0_2 A0_3 c0_3),Buf k55 55 A0_0 c0_0 p0.f0.f2,bl' 3 A0_1 c0_1 p0.f7,Buf k55 55 A0_2 c0_2 p0.f16.f2,bw' 21 A0_3 c0_3 p0.f17]):=by
 refine SCA_of_body Tryz.func120 rfl rfl ?_
 unfold F120Lb_0_.f at H
 refine qr' ?_
 refine o' (bx' fun b6=>?_)
 refine s' (il' 0) as' ?_
 refine nr' ?_
 refine s' (pt' b6) (fa' b6 0 0) ?_
 refine l' (ld' b6 0 5) ?_
 refine s' (pt' b0_) nc' ?_
 refine s' (pt' b0_) (fa' b0_ 0 0) ?_
 refine s' (pt' b0_) (fa' b0_ 0 0) ?_
 refine l' (ld' b0_ 0 0) ?_
 refine s' (il' (IntKind.i64.wrap (p0.f0.f0 - 1))) (V_sub rfl rfl) ?_
 obtain⟨n8,hn8,H⟩:=g_lt H
 refine s' (il' n8) (V_assign (v:=il' n8) (congrArg (Value.int .i64) hn8.symm)) ?_
 refine nt' ?_
 have h_:=oi' H;subst h_
 exact b1' [0,1,2,3,4] ⟨rfl,rfl⟩

end Go.Proofs.YtckilbegmbaeeaaGreat.Z4

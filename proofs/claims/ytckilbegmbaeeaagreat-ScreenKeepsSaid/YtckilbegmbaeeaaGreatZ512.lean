/- What functions compute, and that they do: 133m0b2, 134m0, 37, 62f92x_1_, 92Lb_0_, 93Lb_0_, 94Lb_0_, 95Lb_0_. -/
import Derived.Test.YtckilbegmbaeeaaGreatZ50
import Derived.Test.YtckilbegmbaeeaaGreatZ52
import Derived.Test.YtckilbegmbaeeaaGreatZ53
import Derived.Test.YtckilbegmbaeeaaGreatZ56
import Derived.Test.YtckilbegmbaeeaaGreatZ57
import Derived.Test.YtckilbegmbaeeaaGreatZ58
namespace Go.Proofs.YtckilbegmbaeeaaGreat.Z5
open Go Go.RowKit Go.Proofs.YtckilbegmbaeeaaGreat.SL
set_option linter.unusedVariables false
set_option maxHeartbeats 20000000
set_option maxRecDepth 100000
set_option linter.unusedSimpArgs false
attribute [local irreducible] IntKind.wrap minI maxI shrI shlI andI orI xorI andNotI cplI rd sub bytesOf strOf slA
variable {b0_ b1_ b2000_ c0_0 c0_1 c0_2 c0_3 k : Nat}
variable {A0_0 A0_1 A0_2 A0_3 : Option Addr}
def F133m0b2.f (l0 : (List Int)) (a1 : Int) (l2 : (List Int)) : Option ((List Int)):=if 0 ≤ a1∧a1 ≤ (l0.length : Int)∧(l0.length : Int) ≤ (l0.length : Int) then (lt ((l2.length : Int)) fun n11=>if n11 = 0 then (some (l0)) else (lt ((l0.length : Int)) fun n13=>if a1 = n13 then (if l0.length + l2.length ≤ 17592186044416 then lt (l0 ++ l2) fun n19=>(some (n19)) else none) else (if l0.length + l2.length ≤ 17592186044416 then some (l0.take a1.toNat ++ l2 ++ l0.drop a1.toNat) else none))) else none
theorem F133m0b2.ok {l0 : (List Int)} {a1 : Int} {l2 : (List Int)} {A0 : Option Addr} {c0 : Nat} {A2 : Option Addr} {c2 : Nat} {r : (List Int)} (H : F133m0b2.f l0 a1 l2 = some r) : SCA Tryz.prog 133 #[.slice A0 l0.length c0,il' a1,.slice A2 l2.length c2] [bl' 3 A0 c0 l0,bl' 3 A2 c2 l2] (fun v B=>∃ A0_0_ c0_0_,v = .slice A0_0_ r.length c0_0_∧B = [bl' 3 A0_0_ c0_0_ r,bl' 3 A2 c2 l2]):=by
 refine SCA_of_body Tryz.func133 rfl rfl ?_
 unfold F133m0b2.f at H
 refine qr' ?_
 refine s' (.slice none 0 0) as' ?_
 refine na' (SA_seq ?_)
 refine fc' 0 fun hc3=>?_
 refine fc' 1 fun hc4=>?_
 refine SA_region ?_
 refine s' (.slice A0 l0.length c0) mv' ?_
 refine s' (il' a1) mv' ?_
 obtain⟨⟨g5,g6,g7⟩,H⟩:=g_pos H
 refine s' (.slice (slA A0 a1 ((c0 : Nat) : Int) 1) ((l0.length : Int) - a1).toNat (((c0 : Nat) : Int).toNat - a1.toNat)) (V_sliceW (l:=0) (m:=(l0.length : Int)) (a:=a1) (b:=(l0.length : Int)) (q:=((c0 : Nat) : Int)) (Win.whole (A:=A0) (sz:=1) (xs:=l0) (c:=c0) (by omega)) Tryz.underlying29 sz3 rfl rfl rfl rfl (.inr ⟨_,rfl⟩) (.inl ⟨rfl,rfl,rfl⟩) (.inl ⟨rfl,rfl⟩) g5 g6 g7) ?_
 have hW10 : Win A0 (slA A0 a1 ((c0 : Nat) : Int) 1) 1 (0 + a1) ((l0.length : Int) - a1) (((c0 : Nat) : Int).toNat - a1.toNat):=Win.sub (Win.whole (A:=A0) (sz:=1) (xs:=l0) (c:=c0) (by omega)) g5 g6 g7 (.inl rfl) (Int.le_refl _)
 refine nr' ?_
 refine s' (.slice A2 l2.length c2) mv' ?_
 refine s' (il' (l2.length : Int)) (V_len Tryz.underlying29 rfl) ?_
 obtain⟨n11,hn11,H⟩:=g_lt H
 refine s' (il' n11) (V_assign (v:=il' n11) (congrArg (Value.int .i64) hn11.symm)) ?_
 refine nq' ?_
 refine s' (il' n11) mv' ?_
 refine s' (.bool (decide (n11 = 0))) (V_eql rfl rfl) ?_
 refine na' ?_
 by_cases h12 : n11 = 0
 ·replace H:=g_ift h12 H
  refine SA_condT rfl h12 ?_
  refine qr' ?_
  refine s' (.slice A0 l0.length c0) mv' ?_
  refine s' (.slice A0 l0.length c0) as' ?_
  refine ntt' ?_
  have h_:=oi' H;subst h_
  exact b1' [0,1] ⟨A0,c0,rfl,rfl⟩
 replace H:=g_iff h12 H
 refine SA_condF rfl h12 ?_
 refine SA_skip (at_normal (qr' ?_))
 refine s' (.slice A0 l0.length c0) mv' ?_
 refine s' (il' (l0.length : Int)) (V_len Tryz.underlying29 rfl) ?_
 obtain⟨n13,hn13,H⟩:=g_lt H
 refine s' (il' n13) (V_assign (v:=il' n13) (congrArg (Value.int .i64) hn13.symm)) ?_
 refine nq' ?_
 refine s' (il' a1) mv' ?_
 refine s' (il' n13) mv' ?_
 refine s' (.bool (decide (a1 = n13))) (V_eql rfl rfl) ?_
 refine na' ?_
 by_cases h14 : a1 = n13
 ·replace H:=g_ift h14 H
  refine SA_condT rfl h14 ?_
  refine qr' ?_
  refine s' (.slice A0 l0.length c0) mv' ?_
  refine s' (.slice A2 l2.length c2) mv' ?_
  obtain⟨g16,H⟩:=g_pos H
  obtain⟨n19,hn19,H⟩:=g_lt H
  refine o' (OA_app (k:=0) (A:=A0) (c:=c0) (xs:=l0) (ys:=l2) n19 hn19 rfl Tryz.underlying29 inf3 rfl rfl rfl rfl rfl (Yld.slice Tryz.underlying29 (Src.buf (k:=1) rfl)) (by omega) (by omega) fun A17 c18=>?_)
  refine s' (.slice A17 n19.length c18) as' ?_
  refine ntt' ?_
  have h_:=oi' H;subst h_
  exact b1' [0,1] ⟨A17,c18,rfl,rfl⟩
 replace H:=g_iff h14 H
 refine SA_condF rfl h14 ?_
 refine SA_skip (at_normal (SA_seq (qr' ?_)))
 refine s' (il' n13) mv' ?_
 refine s' (il' n11) mv' ?_
 refine s' (il' (IntKind.i64.wrap (n13 + n11))) (V_add rfl rfl) ?_
 refine s' (.slice A0 l0.length c0) mv' ?_
 refine s' (il' (c0 : Int)) (V_cap Tryz.underlying29 rfl) ?_
 refine s' (.bool (decide ((IntKind.i64.wrap (n13 + n11)) > (c0 : Int)))) (V_gtr rfl rfl) ?_
 refine na' ?_
 obtain⟨g583,H⟩:=g_pos H
 by_cases h20 : (IntKind.i64.wrap (n13 + n11)) > (c0 : Int)
 ·replace H:=g_nil (x:=if 0 ≤ (0 : Int)∧(0 : Int) ≤ a1∧a1 ≤ (l0.length : Int) then (if 0 < (IntKind.i64.wrap ((IntKind.i64.wrap (n13 + n11)) - a1))∧(sub l0 (0 + (0 : Int)) ((0 + (0 : Int)) + (a1 - (0 : Int)))).length + (IntKind.i64.wrap ((IntKind.i64.wrap (n13 + n11)) - a1)).toNat ≤ 17592186044416 then lt ((sub l0 (0 + (0 : Int)) ((0 + (0 : Int)) + (a1 - (0 : Int)))) ++ List.replicate (IntKind.i64.wrap ((IntKind.i64.wrap (n13 + n11)) - a1)).toNat 0) fun n33=>(if 0 ≤ a1∧a1 ≤ (n33.length : Int)∧(n33.length : Int) ≤ (n33.length : Int) then (lt (over n33 (0 + a1).toNat (l2.take ((n33.length : Int) - a1).toNat)) fun n41=>(if 0 ≤ (IntKind.i64.wrap (a1 + n11))∧(IntKind.i64.wrap (a1 + n11)) ≤ (n41.length : Int)∧(n41.length : Int) ≤ (n41.length : Int) then (if 0 ≤ a1∧a1 ≤ (l0.length : Int)∧(l0.length : Int) ≤ (l0.length : Int) then (lt (over n41 (0 + (IntKind.i64.wrap (a1 + n11))).toNat ((sub l0 (0 + a1) ((0 + a1) + ((l0.length : Int) - a1))).take ((n41.length : Int) - (IntKind.i64.wrap (a1 + n11))).toNat)) fun n522=>(some (n522))) else none) else none)) else none) else none) else none) H (ins_grow (z0:=0) (lim:=17592186044416) hn11 hn13 (by omega) (by omega) (by omega) (by omega) g583 (by omega))
  refine SA_condT rfl h20 ?_
  have hwG : IntKind.i64.wrap (n13 + n11) = n13 + n11:=by rw [IntKind.wrap_i64]; omega
  have hwG2 : IntKind.i64.wrap (IntKind.i64.wrap (n13 + n11) - a1) = n13 + n11 - a1:=by rw [hwG,IntKind.wrap_i64]; omega
  refine qr' ?_
  refine s' (.slice A0 l0.length c0) mv' ?_
  refine s' (il' a1) mv' ?_
  obtain⟨⟨g21,g22,g23⟩,H⟩:=g_pos H
  refine s' (.slice (slA A0 (0 : Int) ((c0 : Nat) : Int) 1) (a1 - (0 : Int)).toNat (((c0 : Nat) : Int).toNat - (0 : Int).toNat)) (V_sliceW (l:=0) (m:=(l0.length : Int)) (a:=(0 : Int)) (b:=a1) (q:=((c0 : Nat) : Int)) (Win.whole (A:=A0) (sz:=1) (xs:=l0) (c:=c0) (by omega)) Tryz.underlying29 sz3 rfl rfl rfl rfl (.inl ⟨rfl,rfl⟩) (.inr ⟨_,rfl⟩) (.inl ⟨rfl,rfl⟩) g21 g22 g23) ?_
  have hW26 : Win A0 (slA A0 (0 : Int) ((c0 : Nat) : Int) 1) 1 (0 + (0 : Int)) (a1 - (0 : Int)) (((c0 : Nat) : Int).toNat - (0 : Int).toNat):=Win.sub (Win.whole (A:=A0) (sz:=1) (xs:=l0) (c:=c0) (by omega)) g21 g22 g23 (.inl rfl) (Int.le_refl _)
  refine s' (il' n13) mv' ?_
  refine s' (il' n11) mv' ?_
  refine s' (il' (IntKind.i64.wrap (n13 + n11))) (V_add rfl rfl) ?_
  refine s' (il' a1) mv' ?_
  refine s' (il' (IntKind.i64.wrap ((IntKind.i64.wrap (n13 + n11)) - a1))) (V_sub rfl rfl) ?_
  obtain⟨g28,H⟩:=g_pos H
  obtain⟨n33,hn33,H⟩:=g_lt H
  have hq29:=win_len (xs:=l0) hW26.lo hW26.no (by omega)
  have hy30 : (Value.int .i64 (IntKind.i64.wrap ((IntKind.i64.wrap (n13 + n11)) - a1))) = il' (((IntKind.i64.wrap ((IntKind.i64.wrap (n13 + n11)) - a1)).toNat : Nat) : Int):=by congr 1; omega
  refine o' (OA.ghost (Gh.nilBuf (Kd.int .i64) 3) (OA_appZ (k:=2) (V:=slA A0 (0 : Int) ((c0 : Nat) : Int) 1) (m:=(a1 - (0 : Int)).toNat) (vc:=(((c0 : Nat) : Int).toNat - (0 : Int).toNat)) (xs:=sub l0 (0 + (0 : Int)) ((0 + (0 : Int)) + (a1 - (0 : Int)))) (cnt:=(IntKind.i64.wrap ((IntKind.i64.wrap (n13 + n11)) - a1)).toNat) (z0:=0) n33 hn33 rfl Tryz.underlying29 Tryz.underlying3 inf3 rfl rfl (by decide) rfl rfl (Src.win (Src.buf (k:=0) rfl) hW26 rfl (by omega)) hq29.symm hy30 (fun _=>rfl) (by omega) (by rw [hq29]; omega) (by omega) (by omega) fun A31 c32=>?_))
  refine s' (.slice A31 n33.length c32) as' ?_
  refine na' ?_
  refine SA.of_St (l:=[(0,.slice A0 l0.length c0),(1,il' a1),(2,.slice A2 l2.length c2),(7,il' n11),(9,.slice A31 n33.length c32)]) (B:=[bl' 3 A2 c2 l2,bl' 3 A0 c0 l0,bl' 3 A31 c32 n33]) (St.mk1 (aeq rfl (aeq rfl (aeq rfl (aeq rfl (aeq rfl aeq0))))) (Gh.sel [1,0,2] (by kernel_rfl) (by kernel_rfl))) fun junk=>?_
  refine SA_seq ?_
  refine fc' 2 fun hc34=>?_
  refine SA_region ?_
  refine s' (.slice A31 n33.length c32) mv' ?_
  refine s' (il' a1) mv' ?_
  obtain⟨⟨g35,g36,g37⟩,H⟩:=g_pos H
  refine s' (.slice (slA A31 a1 ((c32 : Nat) : Int) 1) ((n33.length : Int) - a1).toNat (((c32 : Nat) : Int).toNat - a1.toNat)) (V_sliceW (l:=0) (m:=(n33.length : Int)) (a:=a1) (b:=(n33.length : Int)) (q:=((c32 : Nat) : Int)) (Win.whole (A:=A31) (sz:=1) (xs:=n33) (c:=c32) (by omega)) Tryz.underlying29 sz3 rfl rfl rfl rfl (.inr ⟨_,rfl⟩) (.inl ⟨rfl,rfl,rfl⟩) (.inl ⟨rfl,rfl⟩) g35 g36 g37) ?_
  have hW40 : Win A31 (slA A31 a1 ((c32 : Nat) : Int) 1) 1 (0 + a1) ((n33.length : Int) - a1) (((c32 : Nat) : Int).toNat - a1.toNat):=Win.sub (Win.whole (A:=A31) (sz:=1) (xs:=n33) (c:=c32) (by omega)) g35 g36 g37 (.inl rfl) (Int.le_refl _)
  refine s' (.slice A2 l2.length c2) mv' ?_
  obtain⟨n41,hn41,H⟩:=g_lt H
  have hl_n41 : n41.length = n33.length:=by rw [hn41]; exact over_len (by rw [List.length_take]; omega)
  refine o' (OA_copyV (k:=2) (l:=0 + a1) (m:=(n33.length : Int) - a1) (xs:=n33) (ys:=l2) n41 hn41 hW40 rfl Tryz.underlying29 sz3 rfl rfl rfl (by omega) rfl (Cpy.slice (Src.buf (k:=0) rfl)) ?_)
  try rewrite [← hl_n41]
  refine na' (SA_seq ?_)
  refine SA_drawNq mixed (PanOk.thn (PanOk.thn PanOk.body)) fun I0 hh0 w0 pk=>?_
  refine DN_take (v:=.slice A31 n41.length c32) 0 (by kernel_rfl) rfl rfl (.no rfl) pk rfl mv' ?_
  refine DN_take (v:=il' a1) 1 (by kernel_rfl) rfl rfl (.no rfl) pk rfl mv' ?_
  refine DN_take (v:=il' n11) 2 (by kernel_rfl) rfl rfl (.no rfl) pk rfl mv' ?_
  refine DN_take (v:=il' (IntKind.i64.wrap (a1 + n11))) 3 (by kernel_rfl) rfl rfl (.no rfl) pk rfl (V_add rfl rfl) ?_
  obtain⟨⟨g282,g283,g284⟩,H⟩:=g_pos H
  refine DN_take (v:=.slice (slA A31 (IntKind.i64.wrap (a1 + n11)) ((c32 : Nat) : Int) 1) ((n41.length : Int) - (IntKind.i64.wrap (a1 + n11))).toNat (((c32 : Nat) : Int).toNat - (IntKind.i64.wrap (a1 + n11)).toNat)) 4 (by kernel_rfl) rfl rfl (.no rfl) pk rfl (V_sliceW (l:=0) (m:=(n41.length : Int)) (a:=IntKind.i64.wrap (a1 + n11)) (b:=(n41.length : Int)) (q:=((c32 : Nat) : Int)) (Win.whole (A:=A31) (sz:=1) (xs:=n41) (c:=c32) (by omega)) Tryz.underlying29 sz3 rfl rfl rfl rfl (.inr ⟨_,rfl⟩) (.inl ⟨rfl,rfl,rfl⟩) (.inl ⟨rfl,rfl⟩) g282 g283 g284) ?_
  have hW287 : Win A31 (slA A31 (IntKind.i64.wrap (a1 + n11)) ((c32 : Nat) : Int) 1) 1 (0 + (IntKind.i64.wrap (a1 + n11))) ((n41.length : Int) - (IntKind.i64.wrap (a1 + n11))) (((c32 : Nat) : Int).toNat - (IntKind.i64.wrap (a1 + n11)).toNat):=Win.sub (Win.whole (A:=A31) (sz:=1) (xs:=n41) (c:=c32) (by omega)) g282 g283 g284 (.inl rfl) (Int.le_refl _)
  refine DN_take (v:=.slice A0 l0.length c0) 5 (by kernel_rfl) rfl rfl (.no rfl) pk rfl mv' ?_
  refine DN_take (v:=il' a1) 6 (by kernel_rfl) rfl rfl (.no rfl) pk rfl mv' ?_
  obtain⟨⟨g462,g463,g464⟩,H⟩:=g_pos H
  refine DN_take (v:=.slice (slA A0 a1 ((c0 : Nat) : Int) 1) ((l0.length : Int) - a1).toNat (((c0 : Nat) : Int).toNat - a1.toNat)) 7 (by kernel_rfl) rfl rfl (.no rfl) pk rfl (V_sliceW (l:=0) (m:=(l0.length : Int)) (a:=a1) (b:=(l0.length : Int)) (q:=((c0 : Nat) : Int)) (Win.whole (A:=A0) (sz:=1) (xs:=l0) (c:=c0) (by omega)) Tryz.underlying29 sz3 rfl rfl rfl rfl (.inr ⟨_,rfl⟩) (.inl ⟨rfl,rfl,rfl⟩) (.inl ⟨rfl,rfl⟩) g462 g463 g464) ?_
  have hW467 : Win A0 (slA A0 a1 ((c0 : Nat) : Int) 1) 1 (0 + a1) ((l0.length : Int) - a1) (((c0 : Nat) : Int).toNat - a1.toNat):=Win.sub (Win.whole (A:=A0) (sz:=1) (xs:=l0) (c:=c0) (by omega)) g462 g463 g464 (.inl rfl) (Int.le_refl _)
  obtain⟨n522,hn522,H⟩:=g_lt H
  have hl_n522 : n522.length = n41.length:=by rw [hn522]; exact over_len (by rw [List.length_take]; omega)
  refine DN_one 8 (by kernel_rfl) rfl rfl (.no rfl) (OA_copyV (k:=2) (l:=0 + (IntKind.i64.wrap (a1 + n11))) (m:=(n41.length : Int) - (IntKind.i64.wrap (a1 + n11))) (xs:=n41) (ys:=sub l0 (0 + a1) ((0 + a1) + ((l0.length : Int) - a1))) n522 hn522 hW287 rfl Tryz.underlying29 sz3 rfl rfl rfl (by omega) rfl (Cpy.win (Src.buf (k:=1) rfl) hW467 rfl (by omega)) ?_)
  try rewrite [← hl_n522]
  refine DN_done (by kernel_rfl) ?_
  refine at_normal (qr' ?_)
  refine s' (.slice A31 n522.length c32) mv' ?_
  refine s' (.slice A31 n522.length c32) as' ?_
  refine ntt' ?_
  have h_:=oi' H;subst h_
  exact b1' [2,0] ⟨A31,c32,rfl,rfl⟩
 subst hn11
 subst hn13
 obtain⟨i_,rfl⟩ : ∃ i_ : Nat,a1 = (i_ : Int):=⟨a1.toNat,by omega⟩
 have hwN : IntKind.i64.wrap ((l0.length : Int) + (l2.length : Int)) = ((l0.length + l2.length : Nat) : Int):=by rw [IntKind.wrap_i64]; omega
 have hwI : IntKind.i64.wrap ((i_ : Int) + (l2.length : Int)) = ((i_ + l2.length : Nat) : Int):=by rw [IntKind.wrap_i64]; omega
 have hroom : l0.length + l2.length ≤ c0:=by rw [hwN] at h20; omega
 refine SA_open (k:=0) rfl rfl (.inr (by omega)) fun b0_ cs0_ hA0_ hlc0_ hcl0_=>?_
 subst hA0_
 have hcl0_ : cs0_.length = c0 * 1:=hcl0_
 refine SA_open (k:=1) rfl rfl (.inr (by omega)) fun b1_ cs1_ hA1_ hlc1_ hcl1_=>?_
 subst hA1_
 have hcl1_ : cs1_.length = c2 * 1:=hcl1_
 refine SA_condF rfl h20 ?_
 refine SA_skip (at_normal (qr' ?_))
 refine s' (.slice (some ⟨b0_,0 * 1,none⟩) l0.length c0) mv' ?_
 refine s' (il' (l0.length : Int)) mv' ?_
 refine s' (il' (l2.length : Int)) mv' ?_
 refine s' (il' (IntKind.i64.wrap ((l0.length : Int) + (l2.length : Int)))) (V_add rfl rfl) ?_
 refine s' (.slice (some ⟨b0_,0 * 1,none⟩) ((l0.length + l2.length) - 0) (c0 - 0)) (V_sliceRaw (o2:=0) (a:=0) (h:=l0.length + l2.length) Tryz.underlying29 sz3 rfl rfl rfl (.inl ⟨rfl,rfl⟩) (.inr ⟨.i64,congrArg (fun z_=>some (Value.int .i64 z_)) hwN⟩) (by omega) (by omega) (by omega) (by omega)) ?_
 refine s' (.slice (some ⟨b0_,0 * 1,none⟩) ((l0.length + l2.length) - 0) (c0 - 0)) as' ?_
 refine nq' ?_
 refine s' (.slice (some ⟨b1_,0 * 1,none⟩) l2.length c2) mv' ?_
 refine s' (.slice (some ⟨b0_,0 * 1,none⟩) ((l0.length + l2.length) - 0) (c0 - 0)) mv' ?_
 refine s' (il' (i_ : Int)) mv' ?_
 refine s' (il' (l2.length : Int)) mv' ?_
 refine s' (il' (IntKind.i64.wrap ((i_ : Int) + (l2.length : Int)))) (V_add rfl rfl) ?_
 refine s' (.slice (some ⟨b0_,(i_ + l2.length) * 1,none⟩) (((l0.length + l2.length) - 0) - (i_ + l2.length)) ((c0 - 0) - (i_ + l2.length))) (V_sliceRaw (o2:=i_ + l2.length) (a:=i_ + l2.length) (h:=(l0.length + l2.length) - 0) Tryz.underlying29 sz3 rfl rfl rfl (.inr ⟨.i64,congrArg (fun z_=>some (Value.int .i64 z_)) hwI⟩) (.inl ⟨rfl,rfl⟩) (by omega) (by omega) (by omega) (by omega)) ?_
 refine l' (VR_overlaps (k:=1) (k':=0) (tb:=4) rfl rfl (by decide) (by intro q_; rw [q_] at hcl0_; simp only [List.length_nil] at hcl0_; omega) Tryz.func155 nm155 (by kernel_rfl) (by kernel_rfl) (by kernel_rfl) Tryz.underlying29 sz3 rfl rfl) ?_
 refine s' (.bool true) (V_notF rfl) ?_
 refine na' ?_
 refine SA_condTb rfl rfl ?_
 refine SA_seq ?_
 refine SA_drawNq mixed (PanOk.thn (PanOk.thn PanOk.body)) fun I0 hh0 w0 pk=>?_
 refine DN_take (v:=.slice (some ⟨b0_,0 * 1,none⟩) ((l0.length + l2.length) - 0) (c0 - 0)) 0 (by kernel_rfl) rfl rfl (.no rfl) pk rfl mv' ?_
 refine DN_take (v:=il' (i_ : Int)) 1 (by kernel_rfl) rfl rfl (.no rfl) pk rfl mv' ?_
 refine DN_take (v:=il' (l2.length : Int)) 2 (by kernel_rfl) rfl rfl (.no rfl) pk rfl mv' ?_
 refine DN_take (v:=il' (IntKind.i64.wrap ((i_ : Int) + (l2.length : Int)))) 3 (by kernel_rfl) rfl rfl (.no rfl) pk rfl (V_add rfl rfl) ?_
 refine DN_take (v:=.slice (some ⟨b0_,(i_ + l2.length) * 1,none⟩) (((l0.length + l2.length) - 0) - (i_ + l2.length)) ((c0 - 0) - (i_ + l2.length))) 4 (by kernel_rfl) rfl rfl (.no rfl) pk rfl (V_sliceRaw (o2:=i_ + l2.length) (a:=i_ + l2.length) (h:=(l0.length + l2.length) - 0) Tryz.underlying29 sz3 rfl rfl rfl (.inr ⟨.i64,congrArg (fun z_=>some (Value.int .i64 z_)) hwI⟩) (.inl ⟨rfl,rfl⟩) (by omega) (by omega) (by omega) (by omega)) ?_
 refine DN_take (v:=.slice (some ⟨b0_,0 * 1,none⟩) ((l0.length + l2.length) - 0) (c0 - 0)) 5 (by kernel_rfl) rfl rfl (.no rfl) pk rfl mv' ?_
 refine DN_take (v:=il' (i_ : Int)) 6 (by kernel_rfl) rfl rfl (.no rfl) pk rfl mv' ?_
 refine DN_take (v:=.slice (some ⟨b0_,i_ * 1,none⟩) (((l0.length + l2.length) - 0) - i_) ((c0 - 0) - i_)) 7 (by kernel_rfl) rfl rfl (.no rfl) pk rfl (V_sliceRaw (o2:=i_) (a:=i_) (h:=(l0.length + l2.length) - 0) Tryz.underlying29 sz3 rfl rfl rfl (.inr ⟨.i64,rfl⟩) (.inl ⟨rfl,rfl⟩) (by omega) (by omega) (by omega) (by omega)) ?_
 refine DN_one 8 (by kernel_rfl) rfl rfl (.no rfl) (OA_copyRaw (k:=0) (kS:=0) (off:=i_ + l2.length) (so:=i_) (cnt:=l0.length - i_) (es:=(cs0_.drop (i_ * 1)).take ((l0.length - i_) * 1)) rfl Tryz.underlying29 sz3 rfl rfl rfl (by omega) (by omega) rfl rfl rfl (by omega) (fun I_ h_ s_=>one_sub (RLa_at (j:=2) rfl s_) (by show _ ≤ l0.length * 1; omega)) ?_)
 refine DN_done (by kernel_rfl) ?_
 refine at_normal (qr' ?_)
 refine s' (.slice (some ⟨b0_,0 * 1,none⟩) ((l0.length + l2.length) - 0) (c0 - 0)) mv' ?_
 refine s' (il' (i_ : Int)) mv' ?_
 refine s' (.slice (some ⟨b0_,i_ * 1,none⟩) (((l0.length + l2.length) - 0) - i_) ((c0 - 0) - i_)) (V_sliceRaw (o2:=i_) (a:=i_) (h:=(l0.length + l2.length) - 0) Tryz.underlying29 sz3 rfl rfl rfl (.inr ⟨.i64,rfl⟩) (.inl ⟨rfl,rfl⟩) (by omega) (by omega) (by omega) (by omega)) ?_
 refine s' (.slice (some ⟨b1_,0 * 1,none⟩) l2.length c2) mv' ?_
 refine o' (OA_copyRaw (k:=0) (kS:=1) (off:=i_) (so:=0) (cnt:=l2.length) (es:=(cs1_.drop (0 * 1)).take (l2.length * 1)) rfl Tryz.underlying29 sz3 rfl rfl rfl (by omega) (by omega) rfl rfl rfl (by omega) (fun I_ h_ s_=>one_sub (RLa_at (j:=3) rfl s_) (by show _ ≤ l2.length * 1; omega)) ?_)
 refine nr' ?_
 refine s' (.slice (some ⟨b0_,0 * 1,none⟩) ((l0.length + l2.length) - 0) (c0 - 0)) mv' ?_
 refine s' (.slice (some ⟨b0_,0 * 1,none⟩) ((l0.length + l2.length) - 0) (c0 - 0)) as' ?_
 refine ntt' ?_
 have h_:=oi' H;subst h_
 have hln_ : (l0.take (i_ : Int).toNat ++ l2 ++ l0.drop (i_ : Int).toNat).length = l0.length + l2.length:=by simp; omega
 exact BQ_R1 [bl' 3 (some ⟨b0_,0,none⟩) c0 (l0.take (i_ : Int).toNat ++ l2 ++ l0.drop (i_ : Int).toNat),bl' 3 (some ⟨b1_,0,none⟩) c2 l2] rfl rfl ((Gh_close (k:=0) (zs:=l0.take (i_ : Int).toNat ++ l2 ++ l0.drop (i_ : Int).toNat) rfl (by rw [hln_]; omega) (fun I_ h_ s_=>ins_cells (i:=i_) rfl (RLa_at (j:=2) rfl s_) (RLa_at (j:=3) rfl s_) (by omega) (by omega) hcl0_ (by show l2.length * 1 ≤ _; omega))).trans ((Gh_close (k:=1) (zs:=l2) rfl hlc1_ (fun I_ h_ s_=>RLa_at (j:=3) rfl s_)).trans (gs' [0,1]))) ⟨some ⟨b0_,0,none⟩,c0,(by rw [hln_]; rfl),rfl⟩


def F134m0.f (l0 : (List Int)) (a1 : Int) (a2 : Int) : Option ((List Int)):=if 0 ≤ a1∧a1 ≤ a2∧a2 ≤ (l0.length : Int)∧a2 ≤ (l0.length : Int)∧(l0.length : Int) ≤ (l0.length : Int) then (if a1 = a2 then (some (l0)) else (lt ((l0.length : Int)) fun n10=>if 0 ≤ (0 : Int)∧(0 : Int) ≤ a1∧a1 ≤ (l0.length : Int) then (if 0 ≤ a2∧a2 ≤ (l0.length : Int)∧(l0.length : Int) ≤ (l0.length : Int) then (if (0 + (0 : Int)) + (a1 - (0 : Int)) + ((l0.length : Int) - a2) ≤ (l0.length : Int) then lt (over l0 ((0 + (0 : Int)) + (a1 - (0 : Int))).toNat (sub l0 (0 + a2) ((0 + a2) + ((l0.length : Int) - a2)))) fun n371=>(if 0 ≤ ((a1 - (0 : Int)) + ((l0.length : Int) - a2))∧((a1 - (0 : Int)) + ((l0.length : Int) - a2)) ≤ n10∧(0 + (0 : Int)) + n10 ≤ (n371.length : Int) then (if ((0 + (0 : Int)) + ((a1 - (0 : Int)) + ((l0.length : Int) - a2))) + (n10 - ((a1 - (0 : Int)) + ((l0.length : Int) - a2))) ≤ (n371.length : Int) then lt (over n371 ((0 + (0 : Int)) + ((a1 - (0 : Int)) + ((l0.length : Int) - a2))).toNat (List.replicate (n10 - ((a1 - (0 : Int)) + ((l0.length : Int) - a2))).toNat 0)) fun n499=>(some (n499.take ((a1 - (0 : Int)) + ((l0.length : Int) - a2)).toNat)) else none) else none) else none) else none) else none)) else none
theorem F134m0.ok {l0 : (List Int)} {a1 : Int} {a2 : Int} {A0 : Option Addr} {c0 : Nat} {r : (List Int)} (H : F134m0.f l0 a1 a2 = some r) : SCA Tryz.prog 134 #[.slice A0 l0.length c0,il' a1,il' a2] [bl' 3 A0 c0 l0] (fun v B=>∃ A0_0_ c0_0_,v = .slice A0_0_ r.length c0_0_∧B = [bl' 3 A0_0_ c0_0_ r]):=by
 refine SCA_of_body Tryz.func134 rfl rfl ?_
 unfold F134m0.f at H
 refine qr' ?_
 refine s' (.slice none 0 0) as' ?_
 refine na' (SA_seq ?_)
 refine fc' 0 fun hc2=>?_
 refine SA_region ?_
 refine s' (.slice A0 l0.length c0) mv' ?_
 refine s' (il' a1) mv' ?_
 refine s' (il' a2) mv' ?_
 refine s' (.slice A0 l0.length c0) mv' ?_
 refine s' (il' (l0.length : Int)) (V_len Tryz.underlying29 rfl) ?_
 obtain⟨⟨g3,g4,g5,g6,g7⟩,H⟩:=g_pos H
 refine s' (.slice (slA A0 a1 (l0.length : Int) 1) (a2 - a1).toNat ((l0.length : Int).toNat - a1.toNat)) (V_sliceW (l:=0) (m:=(l0.length : Int)) (a:=a1) (b:=a2) (q:=(l0.length : Int)) (Win.whole (A:=A0) (sz:=1) (xs:=l0) (c:=c0) (by omega)) Tryz.underlying29 sz3 rfl rfl rfl rfl (.inr ⟨_,rfl⟩) (.inr ⟨_,rfl⟩) (.inr ⟨⟨_,rfl⟩,⟨_,rfl⟩,g6,g7⟩) g3 g4 g5) ?_
 have hW8 : Win A0 (slA A0 a1 (l0.length : Int) 1) 1 (0 + a1) (a2 - a1) ((l0.length : Int).toNat - a1.toNat):=Win.sub (Win.whole (A:=A0) (sz:=1) (xs:=l0) (c:=c0) (by omega)) g3 g4 g5 (.inr g6) (Int.le_trans g7 ((Win.whole (A:=A0) (sz:=1) (xs:=l0) (c:=c0) (by omega))).cap)
 refine nq' ?_
 refine s' (il' a1) mv' ?_
 refine s' (il' a2) mv' ?_
 refine s' (.bool (decide (a1 = a2))) (V_eql rfl rfl) ?_
 refine na' ?_
 by_cases h9 : a1 = a2
 ·replace H:=g_ift h9 H
  refine SA_condT rfl h9 ?_
  refine qr' ?_
  refine s' (.slice A0 l0.length c0) mv' ?_
  refine s' (.slice A0 l0.length c0) as' ?_
  refine ntt' ?_
  have h_:=oi' H;subst h_
  exact b1' [0] ⟨A0,c0,rfl,rfl⟩
 replace H:=g_iff h9 H
 refine SA_condF rfl h9 ?_
 refine SA_skip (at_normal (qr' ?_))
 refine s' (.slice A0 l0.length c0) mv' ?_
 refine s' (il' (l0.length : Int)) (V_len Tryz.underlying29 rfl) ?_
 obtain⟨n10,hn10,H⟩:=g_lt H
 refine s' (il' n10) (V_assign (v:=il' n10) (congrArg (Value.int .i64) hn10.symm)) ?_
 refine na' (SA_seq ?_)
 refine SA_drawNq mixed (PanOk.thn PanOk.body) fun I0 hh0 w0 pk=>?_
 refine DN_take (v:=.slice A0 l0.length c0) 0 (by kernel_rfl) rfl rfl (.no rfl) pk rfl mv' ?_
 refine DN_take (v:=il' a1) 1 (by kernel_rfl) rfl rfl (.no rfl) pk rfl mv' ?_
 obtain⟨⟨g131,g132,g133⟩,H⟩:=g_pos H
 refine DN_take (v:=.slice (slA A0 (0 : Int) ((c0 : Nat) : Int) 1) (a1 - (0 : Int)).toNat (((c0 : Nat) : Int).toNat - (0 : Int).toNat)) 2 (by kernel_rfl) rfl rfl (.no rfl) pk rfl (V_sliceW (l:=0) (m:=(l0.length : Int)) (a:=(0 : Int)) (b:=a1) (q:=((c0 : Nat) : Int)) (Win.whole (A:=A0) (sz:=1) (xs:=l0) (c:=c0) (by omega)) Tryz.underlying29 sz3 rfl rfl rfl rfl (.inl ⟨rfl,rfl⟩) (.inr ⟨_,rfl⟩) (.inl ⟨rfl,rfl⟩) g131 g132 g133) ?_
 have hW136 : Win A0 (slA A0 (0 : Int) ((c0 : Nat) : Int) 1) 1 (0 + (0 : Int)) (a1 - (0 : Int)) (((c0 : Nat) : Int).toNat - (0 : Int).toNat):=Win.sub (Win.whole (A:=A0) (sz:=1) (xs:=l0) (c:=c0) (by omega)) g131 g132 g133 (.inl rfl) (Int.le_refl _)
 refine DN_take (v:=.slice A0 l0.length c0) 3 (by kernel_rfl) rfl rfl (.no rfl) pk rfl mv' ?_
 refine DN_take (v:=il' a2) 4 (by kernel_rfl) rfl rfl (.no rfl) pk rfl mv' ?_
 obtain⟨⟨g311,g312,g313⟩,H⟩:=g_pos H
 refine DN_take (v:=.slice (slA A0 a2 ((c0 : Nat) : Int) 1) ((l0.length : Int) - a2).toNat (((c0 : Nat) : Int).toNat - a2.toNat)) 5 (by kernel_rfl) rfl rfl (.no rfl) pk rfl (V_sliceW (l:=0) (m:=(l0.length : Int)) (a:=a2) (b:=(l0.length : Int)) (q:=((c0 : Nat) : Int)) (Win.whole (A:=A0) (sz:=1) (xs:=l0) (c:=c0) (by omega)) Tryz.underlying29 sz3 rfl rfl rfl rfl (.inr ⟨_,rfl⟩) (.inl ⟨rfl,rfl,rfl⟩) (.inl ⟨rfl,rfl⟩) g311 g312 g313) ?_
 have hW316 : Win A0 (slA A0 a2 ((c0 : Nat) : Int) 1) 1 (0 + a2) ((l0.length : Int) - a2) (((c0 : Nat) : Int).toNat - a2.toNat):=Win.sub (Win.whole (A:=A0) (sz:=1) (xs:=l0) (c:=c0) (by omega)) g311 g312 g313 (.inl rfl) (Int.le_refl _)
 obtain⟨g374,H⟩:=g_pos H
 obtain⟨n371,hn371,H⟩:=g_lt H
 have hq372l:=win_len (xs:=l0) hW316.lo hW316.no (by omega)
 have hq372 : (a1 - (0 : Int)) + ((sub l0 (0 + a2) ((0 + a2) + ((l0.length : Int) - a2))).length : Int) = (a1 - (0 : Int)) + ((l0.length : Int) - a2):=by omega
 have hl_n371 : n371.length = l0.length:=by rw [hn371]; exact over_len (by omega)
 have hW373 : Win A0 (slA A0 (0 : Int) ((c0 : Nat) : Int) 1) 1 (0 + (0 : Int)) ((a1 - (0 : Int)) + ((l0.length : Int) - a2)) (((c0 : Nat) : Int).toNat - (0 : Int).toNat):=Win.grow hW136 (by omega) (by omega)
 refine DN_one 6 (by kernel_rfl) rfl rfl (.no rfl) (OA_appW (k:=0) (l:=0 + (0 : Int)) (m:=a1 - (0 : Int)) (xs:=l0) (ys:=sub l0 (0 + a2) ((0 + a2) + ((l0.length : Int) - a2))) n371 hn371 hW136 rfl Tryz.underlying29 inf3 rfl rfl rfl rfl (Yld.win Tryz.underlying29 (Src.buf (k:=0) rfl) hW316 rfl (by omega)) (by omega) (by omega) (hq372 ▸ ?_))
 refine DN_take (v:=.slice (slA A0 (0 : Int) ((c0 : Nat) : Int) 1) ((a1 - (0 : Int)) + ((l0.length : Int) - a2)).toNat (((c0 : Nat) : Int).toNat - (0 : Int).toNat)) 7 (by kernel_rfl) rfl rfl (.no rfl) pk rfl as' ?_
 refine DN_done (by kernel_rfl) ?_
 refine at_normal (qr' ?_)
 refine s' (.slice (slA A0 (0 : Int) ((c0 : Nat) : Int) 1) ((a1 - (0 : Int)) + ((l0.length : Int) - a2)).toNat (((c0 : Nat) : Int).toNat - (0 : Int).toNat)) mv' ?_
 refine s' (.slice (slA A0 (0 : Int) ((c0 : Nat) : Int) 1) ((a1 - (0 : Int)) + ((l0.length : Int) - a2)).toNat (((c0 : Nat) : Int).toNat - (0 : Int).toNat)) mv' ?_
 refine s' (il' ((a1 - (0 : Int)) + ((l0.length : Int) - a2))) (V_lenW hW373 Tryz.underlying29 rfl) ?_
 refine s' (il' n10) mv' ?_
 obtain⟨⟨g492,g493,g498⟩,H⟩:=g_pos H
 refine s' (.slice (slA (slA A0 (0 : Int) ((c0 : Nat) : Int) 1) ((a1 - (0 : Int)) + ((l0.length : Int) - a2)) ((((c0 : Nat) : Int).toNat - (0 : Int).toNat : Nat) : Int) 1) (n10 - ((a1 - (0 : Int)) + ((l0.length : Int) - a2))).toNat (((((c0 : Nat) : Int).toNat - (0 : Int).toNat : Nat) : Int).toNat - ((a1 - (0 : Int)) + ((l0.length : Int) - a2)).toNat)) (V_sliceX (l:=0 + (0 : Int)) (m:=(a1 - (0 : Int)) + ((l0.length : Int) - a2)) (a:=(a1 - (0 : Int)) + ((l0.length : Int) - a2)) (b:=n10) (q:=((((c0 : Nat) : Int).toNat - (0 : Int).toNat : Nat) : Int)) hW373 Tryz.underlying29 sz3 rfl rfl rfl rfl (.inr ⟨_,rfl⟩) (.inr ⟨_,rfl⟩) g492 g493 (by omega)) ?_
 have hW497 : Win A0 (slA (slA A0 (0 : Int) ((c0 : Nat) : Int) 1) ((a1 - (0 : Int)) + ((l0.length : Int) - a2)) ((((c0 : Nat) : Int).toNat - (0 : Int).toNat : Nat) : Int) 1) 1 ((0 + (0 : Int)) + ((a1 - (0 : Int)) + ((l0.length : Int) - a2))) (n10 - ((a1 - (0 : Int)) + ((l0.length : Int) - a2))) (((((c0 : Nat) : Int).toNat - (0 : Int).toNat : Nat) : Int).toNat - ((a1 - (0 : Int)) + ((l0.length : Int) - a2)).toNat):=Win.sub (Win.grow hW373 (show 0 ≤ n10 by omega) (by omega)) g492 g493 (Int.le_refl _) (.inl rfl) (Int.le_refl _)
 obtain⟨g500,H⟩:=g_pos H
 obtain⟨n499,hn499,H⟩:=g_lt H
 have hl_n499 : n499.length = n371.length:=by rw [hn499]; exact over_len (by rw [List.length_replicate]; have:=hW497.lo; have:=hW497.no; omega)
 refine o' (OA_clearW (k:=0) (l:=(0 + (0 : Int)) + ((a1 - (0 : Int)) + ((l0.length : Int) - a2))) (m:=n10 - ((a1 - (0 : Int)) + ((l0.length : Int) - a2))) (xs:=n371) (z0:=0) n499 hn499 hW497 rfl Tryz.underlying29 zero3 rfl rfl rfl (fun _=>rfl) (by omega) ?_)
 refine na' ?_
 refine SA.of_St (l:=[(0,.slice (slA A0 (0 : Int) ((c0 : Nat) : Int) 1) ((a1 - (0 : Int)) + ((l0.length : Int) - a2)).toNat (((c0 : Nat) : Int).toNat - (0 : Int).toNat))]) (B:=[bl' 3 A0 c0 n499]) (St.mk1 (aeq rfl aeq0) (Gh.sel [0] (by kernel_rfl) (by kernel_rfl))) fun junk=>?_
 refine qr' ?_
 refine s' (.slice (slA A0 (0 : Int) ((c0 : Nat) : Int) 1) ((a1 - (0 : Int)) + ((l0.length : Int) - a2)).toNat (((c0 : Nat) : Int).toNat - (0 : Int).toNat)) mv' ?_
 refine s' (.slice (slA A0 (0 : Int) ((c0 : Nat) : Int) 1) ((a1 - (0 : Int)) + ((l0.length : Int) - a2)).toNat (((c0 : Nat) : Int).toNat - (0 : Int).toNat)) as' ?_
 refine nt' ?_
 have hln_ : (n499.take ((a1 - (0 : Int)) + ((l0.length : Int) - a2)).toNat).length = ((a1 - (0 : Int)) + ((l0.length : Int) - a2)).toNat:=by rw [List.length_take]; have:=hW373.no; omega
 have hva_ : slA A0 (0 : Int) ((c0 : Nat) : Int) 1 = A0:=by simp only [slA_zero]
 have hvc_ : ((c0 : Nat) : Int).toNat - (0 : Int).toNat = c0:=by omega
 have h_:=oi' H;subst h_
 exact BQ_R1 [bl' 3 A0 c0 (n499.take ((a1 - (0 : Int)) + ((l0.length : Int) - a2)).toNat)] rfl (by show (.slice (slA A0 (0 : Int) ((c0 : Nat) : Int) 1) ((a1 - (0 : Int)) + ((l0.length : Int) - a2)).toNat (((c0 : Nat) : Int).toNat - (0 : Int).toNat) : Value) = _; rw [hln_,hva_,hvc_]) ((Gh_trunc (k:=0) (((a1 - (0 : Int)) + ((l0.length : Int) - a2)).toNat) rfl).trans (gs' [0])) ⟨A0,c0,rfl,rfl⟩


def F93Lb_0_.f (k : Nat) (p0 : S34) (a1 : Int) : Option (S34):=(F125b0.f k p0.f7 p0.f2).bind (fun r612=>lt ((decide (a1 = 0)) && (!r612.2)) fun q973=>if q973 = true then ((F133m0b2.f p0.f7 r612.1 ([p0.f2] : (List Int))).bind (fun r1817=>some (({ p0 with f7:=r1817 })))) else (lt ((decide (a1 = 1)) && r612.2) fun q2058=>if q2058 = true then ((F134m0.f p0.f7 r612.1 (IntKind.i64.wrap (r612.1 + 1))).bind (fun r2662=>some (({ p0 with f7:=r2662 })))) else (if a1 = 2 then (some (({ p0 with f7:=([] : (List Int)) }))) else (some (p0)))))
theorem F93Lb_0_.ok {p0 : S34} {a1 : Int} {r : S34} (H : F93Lb_0_.f k p0 a1 = some r) : SCA Tryz.prog 93 #[.agg #[.pointer (some ⟨b0_,0,none⟩)],il' a1] [Blk b0_ 34 (c34' p0 A0_0 c0_0 A0_1 c0_1 A0_2 c0_2 A0_3 c0_3),Buf k55 55 A0_0 c0_0 p0.f0.f2,bl' 3 A0_1 c0_1 p0.f7,Buf k55 55 A0_2 c0_2 p0.f16.f2,bw' 21 A0_3 c0_3 p0.f17] (fun v B=>∃ P0_0_ q0_0_ P0_1_ q0_1_ P0_2_ q0_2_ P0_3_ q0_3_,v = .tuple #[]∧B = [Blk b0_ 34 (c34' r P0_0_ q0_0_ P0_1_ q0_1_ P0_2_ q0_2_ P0_3_ q0_3_),Buf k55 55 P0_0_ q0_0_ r.f0.f2,bl' 3 P0_1_ q0_1_ r.f7,Buf k55 55 P0_2_ q0_2_ r.f16.f2,bw' 21 P0_3_ q0_3_ r.f17]):=by
 refine SCA_of_body Tryz.func93 rfl rfl ?_
 unfold F93Lb_0_.f at H
 refine qr' ?_
 refine o' (bx' fun b6=>?_)
 refine na' (SA_seq ?_)
 refine fc' 1 fun hc8=>?_
 refine fc' 2 fun hc9=>?_
 refine fc' 3 fun hc10=>?_
 refine fc' 4 fun hc11=>?_
 refine SA_drawHq (0::1::2::3::4::5::6::7::8::9::11::12::13::14::15::[]) (List.toArray ([]::[0]::[0,1]::[0,1,2]::(rg' 0 4)::[]::[5]::[5,6]::[5,6,7]::(rg' 5 4)::(rg' 0 10)::(rg' 0 10)::[0,1,2,3,4,5,6,7,8,9,11]::[0,1,2,3,4,5,6,7,8,9,11]::[0,1,2,3,4,5,6,7,8,9,11,12]::(0::1::2::3::4::5::6::7::8::9::11::12::13::14::[])::[])) [0,5] (rg' 1 4) mixed rfl rfl rfl (PanOk.thn PanOk.body) fun I0 hS h0 hh0 w0 sH dd pk=>?_
 refine t' (pt' b6) 0 rfl sH (fa' b6 0 0) ?_
 refine r' 1 rfl sH (ld' b6 0 1) ?_
 refine t' (pt' b0_) 2 rfl sH nc' ?_
 refine t' (pa' b0_ 18) 3 rfl sH (fa' b0_ 0 18) ?_
 refine r' 4 rfl sH (ld' b0_ 18 0) ?_
 refine t' (pt' b6) 5 rfl sH (fa' b6 0 0) ?_
 refine r' 6 rfl sH (ld' b6 0 1) ?_
 refine t' (pt' b0_) 7 rfl sH nc' ?_
 refine t' (pa' b0_ 4) 8 rfl sH (fa' b0_ 0 4) ?_
 refine r' 9 rfl sH (ld' b0_ 4 0) ?_
 obtain⟨r612,C613,H⟩:=g_bind H
 refine DH_one 10 dd (by kernel_rfl) rfl (.no rfl) (ca' [1] [0,2,3] (xf' [.slice A0_1 p0.f7.length c0_1,il' p0.f2]) (F125b0.ok (l0:=p0.f7) (A0:=A0_1) (c0:=c0_1) (a1:=p0.f2) C613) ?_)
 rintro _ _⟨rfl,rfl⟩
 refine t' (.tuple #[il' r612.1,.bool r612.2]) 11 rfl sH mv' ?_
 refine t' (il' r612.1) 12 rfl sH ex' ?_
 refine t' (.bool r612.2) 13 rfl sH ex' ?_
 refine t' (il' r612.1) 14 rfl sH as' ?_
 refine t' (.bool r612.2) 15 rfl sH as' ?_
 refine DH_open dd sH ?_
 refine DN_done (by kernel_rfl) ?_
 refine at_normal (SA_block (qr' ?_))
 refine s' (il' a1) mv' ?_
 refine s' (.bool (decide (a1 = 0))) (V_eql rfl rfl) ?_
 refine s' (.bool (decide (a1 = 0))) mv' ?_
 obtain⟨q973,hq973,H⟩:=g_lt H
 refine cR' 3 [(1,il' a1),(2,pt' b6),(4,il' r612.1),(5,.bool r612.2),(26,.bool q973)] [Blk b0_ 34 (c34' p0 A0_0 c0_0 A0_1 c0_1 A0_2 c0_2 A0_3 c0_3),Buf k55 55 A0_0 c0_0 p0.f0.f2,bl' 3 A0_1 c0_1 p0.f7,Buf k55 55 A0_2 c0_2 p0.f16.f2,bw' 21 A0_3 c0_3 p0.f17,Blk b6 84 [pt' b0_]] ?_ fun junk=>?_
 ·by_cases h974 : a1 = 0
  ·refine y' (dec_t h974) (.bool r612.2) mv' ?_
   refine y' (dec_t h974) (.bool (!r612.2)) (V_not rfl) ?_
   refine pT' (dec_t h974) ?_
   refine RA_nil ?_
   exact at_normal (St.mk1 (aeq rfl (aeq rfl (aeq rfl (aeq rfl (aeq (congrArg Value.bool (and_t hq973 (dec_t h974))) aeq0))))) (gs' [0,3,2,4,5,1]))
  refine no' 2 (dec_f h974) ?_
  refine pF' (dec_f h974) ?_
  refine RA_nil ?_
  exact at_normal (St.mk1 (aeq rfl (aeq rfl (aeq rfl (aeq rfl (aeq (congrArg Value.bool (and_f hq973 (dec_f h974))) aeq0))))) (gs' [0,3,2,4,5,1]))
 refine s' (.bool q973) as' ?_
 refine na' ?_
 by_cases h976 : q973 = true
 ·replace H:=g_ift h976 H
  refine SA_condTb rfl h976 ?_
  refine SA_drawHq (0::1::2::3::4::5::6::7::8::9::10::11::12::15::16::[]) (List.toArray ([]::[0]::[]::[2]::[2,3]::[2,3,4]::(rg' 2 4)::[]::[]::[8]::[8,9]::[8,9,10]::(rg' 8 4)::(rg' 8 5)::(rg' 2 11)::(rg' 0 13)::(0::1::2::3::4::5::6::7::8::9::10::11::12::15::[])::(0::1::2::3::4::5::6::7::8::9::10::11::12::15::16::[])::[])) [0,5] (rg' 1 4) mixed rfl rfl rfl (PanOk.inb PanOk.body) fun I0 hS h0 hh0 w0 sH dd pk=>?_
  refine t' (pt' b6) 0 rfl sH (fa' b6 0 0) ?_
  refine r' 1 rfl sH (ld' b6 0 1) ?_
  refine t' (pt' b6) 2 rfl sH (fa' b6 0 0) ?_
  refine r' 3 rfl sH (ld' b6 0 1) ?_
  refine t' (pt' b0_) 4 rfl sH nc' ?_
  refine t' (pa' b0_ 18) 5 rfl sH (fa' b0_ 0 18) ?_
  refine r' 6 rfl sH (ld' b0_ 18 0) ?_
  refine t' (il' r612.1) 7 rfl sH mv' ?_
  refine t' (pt' b6) 8 rfl sH (fa' b6 0 0) ?_
  refine r' 9 rfl sH (ld' b6 0 1) ?_
  refine t' (pt' b0_) 10 rfl sH nc' ?_
  refine t' (pa' b0_ 4) 11 rfl sH (fa' b0_ 0 4) ?_
  refine r' 12 rfl sH (ld' b0_ 4 0) ?_
  refine DH_one 13 dd (by kernel_rfl) rfl (.no rfl) (OA_bs (kd:=(Kd.int .i64)) (zv:=(il' 0)) (sz:=1) (cells:=[il' p0.f2]) (xs:=([p0.f2] : (List Int))) rfl Tryz.underlying29 zero3 sz3 rfl rfl rfl (by kernel_rfl) rfl rfl (RL_enc (fun x_ : Int=>[Value.int .i64 x_]) (fun _ _=>rfl) (by kernel_rfl)) fun b1757=>?_)
  obtain⟨r1817,C1821,H⟩:=g_bind H
  refine DH_one 14 dd (by kernel_rfl) rfl (.no rfl) (ca' [1,4] [0,2,3] (xf' [.slice A0_1 p0.f7.length c0_1,il' r612.1,.slice (some ⟨b1757,0,none⟩) ([p0.f2] : (List Int)).length 1]) (F133m0b2.ok (l0:=p0.f7) (A0:=A0_1) (c0:=c0_1) (a1:=r612.1) (l2:=([p0.f2] : (List Int))) (A2:=some ⟨b1757,0,none⟩) (c2:=1) C1821) ?_)
  rintro _ _⟨A1818,c1819,rfl,rfl⟩
  refine t' (pt' b0_) 15 rfl sH nc' ?_
  refine t' (pa' b0_ 18) 16 rfl sH (fa' b0_ 0 18) ?_
  refine DH_open dd sH ?_
  refine DN_one 17 (by kernel_rfl) rfl rfl (.no rfl) (st' b0_ 18 0 [.slice A1818 r1817.length c1819] (c34' ({ p0 with f7:=r1817 }) A0_0 c0_0 A1818 c1819 A0_2 c0_2 A0_3 c0_3) ?_)
  refine DN_done (by kernel_rfl) ?_
  refine inb_normal ?_
  have h_:=oi' H;subst h_
  exact bn' [0,4,2,5,6] ⟨A0_0,c0_0,A1818,c1819,A0_2,c0_2,A0_3,c0_3,rfl,rfl⟩
 replace H:=g_iff h976 H
 refine SA_condFb rfl h976 ?_
 refine qr' ?_
 refine s' (il' a1) mv' ?_
 refine s' (.bool (decide (a1 = 1))) (V_eql rfl rfl) ?_
 refine s' (.bool (decide (a1 = 1))) mv' ?_
 obtain⟨q2058,hq2058,H⟩:=g_lt H
 refine cR' 2 [(1,il' a1),(2,pt' b6),(4,il' r612.1),(49,.bool q2058)] [Blk b0_ 34 (c34' p0 A0_0 c0_0 A0_1 c0_1 A0_2 c0_2 A0_3 c0_3),Buf k55 55 A0_0 c0_0 p0.f0.f2,bl' 3 A0_1 c0_1 p0.f7,Buf k55 55 A0_2 c0_2 p0.f16.f2,bw' 21 A0_3 c0_3 p0.f17,Blk b6 84 [pt' b0_]] ?_ fun junk=>?_
 ·by_cases h2059 : a1 = 1
  ·refine y' (dec_t h2059) (.bool r612.2) mv' ?_
   refine pT' (dec_t h2059) ?_
   refine RA_nil ?_
   exact at_normal (St.mk1 (aeq rfl (aeq rfl (aeq rfl (aeq (congrArg Value.bool (and_t hq2058 (dec_t h2059))) aeq0)))) (gs' [0,1,2,3,4,5]))
  refine no' 1 (dec_f h2059) ?_
  refine pF' (dec_f h2059) ?_
  refine RA_nil ?_
  exact at_normal (St.mk1 (aeq rfl (aeq rfl (aeq rfl (aeq (congrArg Value.bool (and_f hq2058 (dec_f h2059))) aeq0)))) (gs' [0,1,2,3,4,5]))
 refine s' (.bool q2058) as' ?_
 refine na' ?_
 by_cases h2061 : q2058 = true
 ·replace H:=g_ift h2061 H
  refine SA_condTb rfl h2061 ?_
  refine SA_drawHq [0,1,2,3,4,5,6,7,8,9,11,12] (List.toArray ([]::[0]::[]::[2]::[2,3]::[2,3,4]::(rg' 2 4)::[]::[]::[8]::(rg' 2 8)::(rg' 0 10)::[0,1,2,3,4,5,6,7,8,9,11]::[0,1,2,3,4,5,6,7,8,9,11,12]::[])) [0,5] (rg' 1 4) mixed rfl rfl rfl (PanOk.inb PanOk.body) fun I0 hS h0 hh0 w0 sH dd pk=>?_
  refine t' (pt' b6) 0 rfl sH (fa' b6 0 0) ?_
  refine r' 1 rfl sH (ld' b6 0 1) ?_
  refine t' (pt' b6) 2 rfl sH (fa' b6 0 0) ?_
  refine r' 3 rfl sH (ld' b6 0 1) ?_
  refine t' (pt' b0_) 4 rfl sH nc' ?_
  refine t' (pa' b0_ 18) 5 rfl sH (fa' b0_ 0 18) ?_
  refine r' 6 rfl sH (ld' b0_ 18 0) ?_
  refine t' (il' r612.1) 7 rfl sH mv' ?_
  refine t' (il' r612.1) 8 rfl sH mv' ?_
  refine t' (il' (IntKind.i64.wrap (r612.1 + 1))) 9 rfl sH (V_add rfl rfl) ?_
  obtain⟨r2662,C2666,H⟩:=g_bind H
  refine DH_one 10 dd (by kernel_rfl) rfl (.no rfl) (ca' [1] [0,2,3] (xf' [.slice A0_1 p0.f7.length c0_1,il' r612.1,il' (IntKind.i64.wrap (r612.1 + 1))]) (F134m0.ok (l0:=p0.f7) (A0:=A0_1) (c0:=c0_1) (a1:=r612.1) (a2:=IntKind.i64.wrap (r612.1 + 1)) C2666) ?_)
  rintro _ _⟨A2663,c2664,rfl,rfl⟩
  refine t' (pt' b0_) 11 rfl sH nc' ?_
  refine t' (pa' b0_ 18) 12 rfl sH (fa' b0_ 0 18) ?_
  refine DH_open dd sH ?_
  refine DN_one 13 (by kernel_rfl) rfl rfl (.no rfl) (st' b0_ 18 0 [.slice A2663 r2662.length c2664] (c34' ({ p0 with f7:=r2662 }) A0_0 c0_0 A2663 c2664 A0_2 c0_2 A0_3 c0_3) ?_)
  refine DN_done (by kernel_rfl) ?_
  refine inb_normal ?_
  have h_:=oi' H;subst h_
  exact bn' [0,3,2,4,5] ⟨A0_0,c0_0,A2663,c2664,A0_2,c0_2,A0_3,c0_3,rfl,rfl⟩
 replace H:=g_iff h2061 H
 refine SA_condFb rfl h2061 ?_
 refine qr' ?_
 refine s' (il' a1) mv' ?_
 refine s' (.bool (decide (a1 = 2))) (V_eql rfl rfl) ?_
 refine s' (.bool (decide (a1 = 2))) as' ?_
 refine na' ?_
 by_cases h2903 : a1 = 2
 ·replace H:=g_ift h2903 H
  refine SA_condT rfl h2903 ?_
  refine SA_region ?_
  refine s' (pt' b6) (fa' b6 0 0) ?_
  refine l' (ld' b6 0 5) ?_
  refine s' (pt' b0_) nc' ?_
  refine s' (pa' b0_ 18) (fa' b0_ 0 18) ?_
  refine o' (st' b0_ 18 0 [.slice none 0 0] (c34' ({ p0 with f7:=([] : (List Int)) }) A0_0 c0_0 none 0 A0_2 c0_2 A0_3 c0_3) ?_)
  refine RA_nil (inb_normal ?_)
  have h_:=oi' H;subst h_
  exact BQ_n0 [Blk b0_ 34 (c34' ({ p0 with f7:=([] : (List Int)) }) A0_0 c0_0 none 0 A0_2 c0_2 A0_3 c0_3),Buf k55 55 A0_0 c0_0 p0.f0.f2,bl' 3 none 0 ([] : (List Int)),Buf k55 55 A0_2 c0_2 p0.f16.f2,bw' 21 A0_3 c0_3 p0.f17] rfl ((Gh.nilBuf (Kd.int .i64) 3).trans (gs' [0,1,6,3,4])) ⟨A0_0,c0_0,none,0,A0_2,c0_2,A0_3,c0_3,rfl,rfl⟩
 replace H:=g_iff h2903 H
 refine SA_condF rfl h2903 ?_
 refine SA_skip (inb_normal ?_)
 have h_:=oi' H;subst h_
 exact bn' [0,1,2,3,4] ⟨A0_0,c0_0,A0_1,c0_1,A0_2,c0_2,A0_3,c0_3,rfl,rfl⟩


def F92Lb_0_.f (k : Nat) (p0 : S34) (p1 : Int) : Option (S34):=(F93Lb_0_.f k p0 p1).bind (fun r13=>some (r13))
theorem F92Lb_0_.ok {p0 : S34} {p1 : Int} {r : S34} (H : F92Lb_0_.f k p0 p1 = some r) : SCA Tryz.prog 92 #[.agg #[.pointer (some ⟨b0_,0,none⟩)],.pointer (some ⟨b1_,0,none⟩)] [Blk b0_ 34 (c34' p0 A0_0 c0_0 A0_1 c0_1 A0_2 c0_2 A0_3 c0_3),Buf k55 55 A0_0 c0_0 p0.f0.f2,bl' 3 A0_1 c0_1 p0.f7,Buf k55 55 A0_2 c0_2 p0.f16.f2,bw' 21 A0_3 c0_3 p0.f17,Blk b1_ 3 [il' p1]] (fun v B=>∃ P0_0_ q0_0_ P0_1_ q0_1_ P0_2_ q0_2_ P0_3_ q0_3_,v = .tuple #[]∧B = [Blk b0_ 34 (c34' r P0_0_ q0_0_ P0_1_ q0_1_ P0_2_ q0_2_ P0_3_ q0_3_),Buf k55 55 P0_0_ q0_0_ r.f0.f2,bl' 3 P0_1_ q0_1_ r.f7,Buf k55 55 P0_2_ q0_2_ r.f16.f2,bw' 21 P0_3_ q0_3_ r.f17,Blk b1_ 3 [il' p1]]):=by
 refine SCA_of_body Tryz.func92 rfl rfl ?_
 unfold F92Lb_0_.f at H
 refine qr' ?_
 refine o' (bx' fun b7=>?_)
 refine na' ?_
 refine fc' 1 fun hc9=>?_
 refine fc' 2 fun hc10=>?_
 refine fc' 3 fun hc11=>?_
 refine fc' 4 fun hc12=>?_
 refine SA_region ?_
 refine l' (lA' b7 0 6 [pt' b0_]) ?_
 refine l' (ld' b1_ 0 5) ?_
 obtain⟨r13,C26,H⟩:=g_bind H
 refine o' (ca' [0,1,2,3,4] [5,6] (xf' [.agg #[pt' b0_],il' p1]) (F93Lb_0_.ok (b0_:=b0_) (p0:=p0) (a1:=p1) C26) ?_)
 rintro _ _⟨A14,c15,A17,c18,A20,c21,A23,c24,rfl,rfl⟩
 refine RA_nil ?_
 have h_:=oi' H;subst h_
 exact bn' [0,1,2,3,4,5] ⟨A14,c15,A17,c18,A20,c21,A23,c24,rfl,rfl⟩


def F62f92x_1_.f (k : Nat) (a0 : S34) (p2000 : Int) : Option (S34 × Int):=(F16b0.f k a0).bind (fun r10=>if (!r10) = true then (some (((S34.mk (S26.mk 0 0 ([] : (List S55))) 0 0 false (S28.mk 0 0 false false false false false false false false) 0 0 ([] : (List Int)) false false false false false false (S31.mk 0 0 false false (S28.mk 0 0 false false false false false false false false)) false (S26.mk 0 0 ([] : (List S55))) ([] : (List Int))),2))) else ((F97.f a0).bind (fun r16=>(F92Lb_0_.f k r16 p2000).bind (fun r29=>some ((r29,0))))))
theorem F62f92x_1_.ok {a0 : S34} {p2000 : Int} {r : S34 × Int} (H : F62f92x_1_.f k a0 p2000 = some r) : SCA Tryz.prog 62 #[.agg (c34' a0 A0_0 c0_0 A0_1 c0_1 A0_2 c0_2 A0_3 c0_3).toArray,.func (.func 92) #[] #[.pointer (some ⟨b2000_,0,none⟩)]] [Ro k55 A0_0 c0_0 a0.f0.f2,rl' A0_1 c0_1 a0.f7,Ro k55 A0_2 c0_2 a0.f16.f2,rw' A0_3 c0_3 a0.f17,Blk b2000_ 3 [il' p2000]] (fun v B=>∃ A0_0_ c0_0_ A0_1_ c0_1_ A0_2_ c0_2_ A0_3_ c0_3_,v = .tuple #[.agg (c34' r.1 A0_0_ c0_0_ A0_1_ c0_1_ A0_2_ c0_2_ A0_3_ c0_3_).toArray,il' r.2]∧B = [Buf k55 55 A0_0_ c0_0_ r.1.f0.f2,bl' 3 A0_1_ c0_1_ r.1.f7,Buf k55 55 A0_2_ c0_2_ r.1.f16.f2,bw' 21 A0_3_ c0_3_ r.1.f17,Blk b2000_ 3 [il' p2000]]):=by
 refine SCA_of_body Tryz.func62 rfl rfl ?_
 unfold F62f92x_1_.f at H
 refine qr' ?_
 refine o' (bx' fun b6=>?_)
 refine o' (al' fun b8=>?_)
 refine s' (il' 0) as' ?_
 refine nq' ?_
 refine l' (lA' b6 0 5 (c34' a0 A0_0 c0_0 A0_1 c0_1 A0_2 c0_2 A0_3 c0_3)) ?_
 obtain⟨r10,C44,H⟩:=g_bind H
 refine o' (ca' [0,1,2,3] [0,1,2,3,4,5,6] (xf' [.agg (c34' a0 A0_0 c0_0 A0_1 c0_1 A0_2 c0_2 A0_3 c0_3).toArray]) (F16.ok (a0:=a0) C44) ?_)
 rintro _ _⟨rfl,rfl⟩
 refine s' (.bool (!r10)) (V_not rfl) ?_
 refine na' ?_
 by_cases h11 : (!r10) = true
 ·replace H:=g_ift h11 H
  refine SA_condTb rfl h11 ?_
  refine qr' ?_
  refine s' (.agg (c34' z34' none 0 none 0 none 0 none 0).toArray) bd' ?_
  refine o' (su' b8 0 6 (c34' z34' none 0 none 0 none 0 none 0) ?_)
  refine s' (il' 2) as' ?_
  refine ntt' ?_
  have h_:=oi' H;subst h_
  exact BQ_RL (rs:=[.cell 4 34,.tmp 5]) (vs:=[.agg (c34' z34' none 0 none 0 none 0 none 0).toArray,il' 2]) [Buf k55 55 none 0 ([] : (List S55)),bl' 3 none 0 ([] : (List Int)),Buf k55 55 none 0 ([] : (List S55)),bw' 21 none 0 ([] : (List Int)),Blk b2000_ 3 [il' p2000]] rfl ⟨RV.cell (k:=6) rfl rfl Tryz.underlying34 rfl sz34,RV.tmp rfl,trivial⟩ rfl ((Gh.nilBuf k55 55).trans ((Gh.nilBuf (Kd.int .i64) 3).trans ((Gh.nilBuf k55 55).trans ((Gh.nilBuf (Kd.int .i32) 21).trans (gs' [7,8,9,10,4]))))) ⟨none,0,none,0,none,0,none,0,rfl,rfl⟩
 replace H:=g_iff h11 H
 refine SA_condFb rfl h11 ?_
 refine SA_skip (at_normal (qr' ?_))
 refine l' (lA' b6 0 5 (c34' a0 A0_0 c0_0 A0_1 c0_1 A0_2 c0_2 A0_3 c0_3)) ?_
 obtain⟨r16,C43,H⟩:=g_bind H
 refine o' (ca' [0,1,2,3] [0,1,2,3,4,5,6] (xf' [.agg (c34' a0 A0_0 c0_0 A0_1 c0_1 A0_2 c0_2 A0_3 c0_3).toArray]) (F97.ok (a0:=a0) C43) ?_)
 rintro _ _⟨A17,c18,A20,c21,A23,c24,A26,c27,rfl,rfl⟩
 refine o' (su' b6 0 9 (c34' r16 A17 c18 A20 c21 A23 c24 A26 c27) ?_)
 refine nr' ?_
 refine s' (.func (.func 92) #[] #[pt' b2000_]) mv' ?_
 refine s' (.agg #[pt' b6]) bd' ?_
 obtain⟨r29,C42,H⟩:=g_bind H
 refine o' (ca' [9,0,1,2,3,8] [4,5,6,7,10] (X_fnV (vs:=[.agg #[pt' b6]]) (cap:=[pt' b2000_]) rfl Tryz.func92 nm92 rfl rfl) (F92Lb_0_.ok (b0_:=b6) (p0:=r16) (b1_:=b2000_) (p1:=p2000) C42) ?_)
 rintro _ _⟨A30,c31,A33,c34,A36,c37,A39,c40,rfl,rfl⟩
 refine nr' ?_
 refine l' (lA' b6 0 0 (c34' r29 A30 c31 A33 c34 A36 c37 A39 c40)) ?_
 refine o' (su' b8 0 10 (c34' r29 A30 c31 A33 c34 A36 c37 A39 c40) ?_)
 refine s' (il' 0) as' ?_
 refine nt' ?_
 have h_:=oi' H;subst h_
 exact b2' [.cell 4 34,.tmp 5] [1,2,3,4,5] ⟨A30,c31,A33,c34,A36,c37,A39,c40,rfl,rfl⟩ ⟨RV.cell (k:=10) rfl rfl Tryz.underlying34 rfl sz34,RV.tmp rfl,trivial⟩


def F37.f (k : Nat) (a0 : S34) (a1 : Int) : Option (S34 × Int):=(F62f92x_1_.f k a0 a1).bind (fun r11=>some ((r11.1,r11.2)))
theorem F37.ok {a0 : S34} {a1 : Int} {r : S34 × Int} (H : F37.f k a0 a1 = some r) : SCA Tryz.prog 37 #[.agg (c34' a0 A0_0 c0_0 A0_1 c0_1 A0_2 c0_2 A0_3 c0_3).toArray,il' a1] [Ro k55 A0_0 c0_0 a0.f0.f2,rl' A0_1 c0_1 a0.f7,Ro k55 A0_2 c0_2 a0.f16.f2,rw' A0_3 c0_3 a0.f17] (fun v B=>∃ A0_0_ c0_0_ A0_1_ c0_1_ A0_2_ c0_2_ A0_3_ c0_3_,v = .tuple #[.agg (c34' r.1 A0_0_ c0_0_ A0_1_ c0_1_ A0_2_ c0_2_ A0_3_ c0_3_).toArray,il' r.2]∧B = [Buf k55 55 A0_0_ c0_0_ r.1.f0.f2,bl' 3 A0_1_ c0_1_ r.1.f7,Buf k55 55 A0_2_ c0_2_ r.1.f16.f2,bw' 21 A0_3_ c0_3_ r.1.f17]):=by
 refine SCA_of_body Tryz.func37 rfl rfl ?_
 unfold F37.f at H
 refine qr' ?_
 refine o' (bx' fun b5=>?_)
 refine o' (bx' fun b7=>?_)
 refine o' (al' fun b9=>?_)
 refine s' (il' 0) as' ?_
 refine nr' ?_
 refine l' (lA' b5 0 4 (c34' a0 A0_0 c0_0 A0_1 c0_1 A0_2 c0_2 A0_3 c0_3)) ?_
 refine s' (.func (.func 92) #[] #[pt' b7]) (V_makeFuncL (us:=[pt' b7]) rfl) ?_
 obtain⟨r11,C24,H⟩:=g_bind H
 refine o' (ca' [0,1,2,3,5] [0,1,2,3,4,6] (xf' [.agg (c34' a0 A0_0 c0_0 A0_1 c0_1 A0_2 c0_2 A0_3 c0_3).toArray,.func (.func 92) #[] #[pt' b7]]) (F62f92x_1_.ok (a0:=a0) (b2000_:=b7) (p2000:=a1) C24) ?_)
 rintro _ _⟨A12,c13,A15,c16,A18,c19,A21,c22,rfl,rfl⟩
 refine s' (.agg (c34' r11.1 A12 c13 A15 c16 A18 c19 A21 c22).toArray) ex' ?_
 refine s' (il' r11.2) ex' ?_
 refine o' (su' b9 0 10 (c34' r11.1 A12 c13 A15 c16 A18 c19 A21 c22) ?_)
 refine s' (il' r11.2) as' ?_
 refine nt' ?_
 have h_:=oi' H;subst h_
 exact b2' [.cell 4 34,.tmp 5] [0,1,2,3] ⟨A12,c13,A15,c16,A18,c19,A21,c22,rfl,rfl⟩ ⟨RV.cell (k:=10) rfl rfl Tryz.underlying34 rfl sz34,RV.tmp rfl,trivial⟩


def F95Lb_0_.f (k : Nat) (p0 : S34) (a1 : Int) : Option (S34):=(F121Lb_0_.f p0).bind (fun r72=>if (0 ≤ r72.1∧0 ≤ r72.2∧r72.1 + r72.2 ≤ (p0.f0.f2.length : Int)) then ((F128.f a1).bind (fun r792=>(F127.f (IntKind.i64.wrap (p0.f2 + r792)) p0.f2 p0.f0.f0).bind (fun r1572=>(F129w0.f k p0.f0.f2 r72.1 r72.2 p0.f2 r1572 p0.f4).bind (fun r1932=>if r1932.length = p0.f0.f2.length then (some (({ p0 with f0:=(S26.mk p0.f0.f0 p0.f0.f1 r1932),f3:=false }))) else none)))) else none)
theorem F95Lb_0_.ok {p0 : S34} {a1 : Int} {r : S34} (H : F95Lb_0_.f k p0 a1 = some r) : SCA Tryz.prog 95 #[.agg #[.pointer (some ⟨b0_,0,none⟩)],il' a1] [Blk b0_ 34 (c34' p0 A0_0 c0_0 A0_1 c0_1 A0_2 c0_2 A0_3 c0_3),Buf k55 55 A0_0 c0_0 p0.f0.f2,bl' 3 A0_1 c0_1 p0.f7,Buf k55 55 A0_2 c0_2 p0.f16.f2,bw' 21 A0_3 c0_3 p0.f17] (fun v B=>∃ P0_0_ q0_0_ P0_1_ q0_1_ P0_2_ q0_2_ P0_3_ q0_3_,v = .tuple #[]∧B = [Blk b0_ 34 (c34' r P0_0_ q0_0_ P0_1_ q0_1_ P0_2_ q0_2_ P0_3_ q0_3_),Buf k55 55 P0_0_ q0_0_ r.f0.f2,bl' 3 P0_1_ q0_1_ r.f7,Buf k55 55 P0_2_ q0_2_ r.f16.f2,bw' 21 P0_3_ q0_3_ r.f17]):=by
 refine SCA_of_body Tryz.func95 rfl rfl ?_
 unfold F95Lb_0_.f at H
 refine qr' ?_
 refine o' (bx' fun b6=>?_)
 refine na' (SA_seq ?_)
 refine fc' 1 fun hc8=>?_
 refine fc' 2 fun hc9=>?_
 refine fc' 3 fun hc10=>?_
 refine fc' 4 fun hc11=>?_
 refine SA_drawMq (0::2::3::4::5::6::7::8::9::10::11::12::14::15::16::17::18::19::20::21::22::23::24::25::27::28::29::30::31::[]) (List.toArray ([]::[0]::[]::[2]::[2,3]::[2,3,4]::(rg' 2 4)::[]::[7]::[7,8]::[7,8,9]::(rg' 7 4)::[]::[0,12]::[0,7,8,9,10,11,12]::[]::[15]::[15,16]::[15,16,17]::(rg' 15 4)::[]::[20]::[20,21]::[20,21,22]::(rg' 20 4)::(rg' 20 5)::(0::7::8::9::10::11::12::14::15::16::17::18::19::20::21::22::23::24::25::[])::[]::[27]::[27,28]::[27,28,29]::(rg' 27 4)::(0::2::3::4::5::6::7::8::9::10::11::12::14::15::16::17::18::19::20::21::22::23::24::25::27::28::29::30::31::[])::[])) [Blk b0_ 34 (c34' p0 A0_0 c0_0 A0_1 c0_1 A0_2 c0_2 A0_3 c0_3),Blk b6 84 [pt' b0_]] mixed (PanOk.thn PanOk.body) fun I0 hh0 w0 pk=>?_
 refine mr' 0 [0,5] rfl (lA' b6 0 1 [pt' b0_]) ?_
 refine mt' (pt' b6) 2 [0,5] rfl (fa' b6 0 0) ?_
 refine mr' 3 [0,5] rfl (ld' b6 0 1) ?_
 refine mt' (pt' b0_) 4 [0,5] rfl nc' ?_
 refine mt' (pa' b0_ 4) 5 [0,5] rfl (fa' b0_ 0 4) ?_
 refine mr' 6 [0,5] rfl (ld' b0_ 4 0) ?_
 refine mt' (pt' b6) 7 [0,5] rfl (fa' b6 0 0) ?_
 refine mr' 8 [0,5] rfl (ld' b6 0 1) ?_
 refine mt' (pt' b0_) 9 [0,5] rfl nc' ?_
 refine mt' (pa' b0_ 4) 10 [0,5] rfl (fa' b0_ 0 4) ?_
 refine mr' 11 [0,5] rfl (ld' b0_ 4 0) ?_
 refine mt' (il' a1) 12 [0,5] rfl mv' ?_
 refine mt' (pt' b6) 15 [0,5] rfl (fa' b6 0 0) ?_
 refine mr' 16 [0,5] rfl (ld' b6 0 1) ?_
 refine mt' (pt' b0_) 17 [0,5] rfl nc' ?_
 refine mt' (pa' b0_ 4) 18 [0,5] rfl (fa' b0_ 0 4) ?_
 refine mr' 19 [0,5] rfl (ld' b0_ 4 0) ?_
 refine mt' (pt' b6) 20 [0,5] rfl (fa' b6 0 0) ?_
 refine mr' 21 [0,5] rfl (ld' b6 0 1) ?_
 refine mt' (pt' b0_) 22 [0,5] rfl nc' ?_
 refine mt' (pt' b0_) 23 [0,5] rfl (fa' b0_ 0 0) ?_
 refine mt' (pt' b0_) 24 [0,5] rfl (fa' b0_ 0 0) ?_
 refine mr' 25 [0,5] rfl (ld' b0_ 0 0) ?_
 refine mt' (pt' b6) 27 [0,5] rfl (fa' b6 0 0) ?_
 refine mr' 28 [0,5] rfl (ld' b6 0 1) ?_
 refine mt' (pt' b0_) 29 [0,5] rfl nc' ?_
 refine mt' (pa' b0_ 6) 30 [0,5] rfl (fa' b0_ 0 6) ?_
 refine mr' 31 [0,5] rfl (lA' b0_ 6 0 (c28' p0.f4)) ?_
 obtain⟨r72,C77,H⟩:=g_bind H
 obtain⟨⟨hl76a,hl76b,hl76c⟩,H⟩:=g_pos H
 refine DM_one 1 (by kernel_rfl) rfl (.no rfl) (ca' [0,1,2,3,4] [5] (xf' [.agg #[pt' b0_]]) (F121Lb_0_.ok (b0_:=b0_) (p0:=p0) C77) ?_)
 rintro _ _⟨V73,v74,hW75,rfl,rfl⟩
 refine ⟨fun _=>⟨[0,5],rfl,rfl⟩,?_⟩
 obtain⟨r792,C793,H⟩:=g_bind H
 refine DM_one 13 (by kernel_rfl) rfl (.no rfl) (ca' [] [0,1,2,3,4,5] (xf' [il' a1]) (F128.ok (a0:=a1) C793) ?_)
 rintro _ _⟨rfl,rfl⟩
 refine ⟨fun _=>⟨[0,5],rfl,rfl⟩,?_⟩
 refine mt' (il' (IntKind.i64.wrap (p0.f2 + r792))) 14 [0,5] rfl (V_add rfl rfl) ?_
 obtain⟨r1572,C1573,H⟩:=g_bind H
 refine DM_one 26 (by kernel_rfl) rfl (.no rfl) (ca' [] [0,1,2,3,4,5] (xf' [il' (IntKind.i64.wrap (p0.f2 + r792)),il' p0.f2,il' p0.f0.f0]) (F127.ok (a0:=IntKind.i64.wrap (p0.f2 + r792)) (a1:=p0.f2) (a2:=p0.f0.f0) C1573) ?_)
 rintro _ _⟨rfl,rfl⟩
 refine ⟨fun _=>⟨[0,5],rfl,rfl⟩,?_⟩
 obtain⟨r1932,C1934,H⟩:=g_bind H
 obtain⟨hl1933,H⟩:=g_pos H
 refine DM_one 32 (by kernel_rfl) rfl (.no rfl) (ca' [1] [0,2,3,4,5] (xf' [.slice V73 r72.2.toNat v74,il' p0.f2,il' r1572,.agg (c28' p0.f4).toArray]) (F129w0.ok (l0:=p0.f0.f2) (o0:=r72.1) (n0:=r72.2) (A0:=A0_0) (c0:=c0_0) (V0:=V73) (v0:=v74) (hw0:=hW75) (a1:=p0.f2) (a2:=r1572) (a3:=p0.f4) C1934) ?_)
 rintro _ _⟨rfl,rfl⟩
 try unfold c34'
 try rewrite [← hl1933]
 refine ⟨fun h_=>absurd h_ (by decide),?_⟩
 refine DN_done (by kernel_rfl) ?_
 refine at_normal ?_
 refine SA.of_St (l:=[(2,pt' b6)]) (B:=[Blk b0_ 34 (c34' ({ p0 with f0:=(S26.mk p0.f0.f0 p0.f0.f1 r1932) }) A0_0 c0_0 A0_1 c0_1 A0_2 c0_2 A0_3 c0_3),Buf k55 55 A0_0 c0_0 r1932,bl' 3 A0_1 c0_1 p0.f7,Buf k55 55 A0_2 c0_2 p0.f16.f2,bw' 21 A0_3 c0_3 p0.f17,Blk b6 84 [pt' b0_]]) (St.mk1 (aeq rfl aeq0) (Gh.sel [1,0,2,3,4,5] (by kernel_rfl) (by kernel_rfl))) fun junk=>?_
 refine SA_region ?_
 refine s' (pt' b6) (fa' b6 0 0) ?_
 refine l' (ld' b6 0 5) ?_
 refine s' (pt' b0_) nc' ?_
 refine s' (pa' b0_ 5) (fa' b0_ 0 5) ?_
 refine o' (st' b0_ 5 0 [.bool false] (c34' ({ p0 with f0:=(S26.mk p0.f0.f0 p0.f0.f1 r1932),f3:=false }) A0_0 c0_0 A0_1 c0_1 A0_2 c0_2 A0_3 c0_3) ?_)
 refine RA_nil ?_
 have h_:=oi' H;subst h_
 exact bn' [0,1,2,3,4] ⟨A0_0,c0_0,A0_1,c0_1,A0_2,c0_2,A0_3,c0_3,rfl,rfl⟩


def F94Lb_0_.f (k : Nat) (p0 : S34) (p1 : Int) : Option (S34):=(F95Lb_0_.f k p0 p1).bind (fun r13=>some (r13))
theorem F94Lb_0_.ok {p0 : S34} {p1 : Int} {r : S34} (H : F94Lb_0_.f k p0 p1 = some r) : SCA Tryz.prog 94 #[.agg #[.pointer (some ⟨b0_,0,none⟩)],.pointer (some ⟨b1_,0,none⟩)] [Blk b0_ 34 (c34' p0 A0_0 c0_0 A0_1 c0_1 A0_2 c0_2 A0_3 c0_3),Buf k55 55 A0_0 c0_0 p0.f0.f2,bl' 3 A0_1 c0_1 p0.f7,Buf k55 55 A0_2 c0_2 p0.f16.f2,bw' 21 A0_3 c0_3 p0.f17,Blk b1_ 3 [il' p1]] (fun v B=>∃ P0_0_ q0_0_ P0_1_ q0_1_ P0_2_ q0_2_ P0_3_ q0_3_,v = .tuple #[]∧B = [Blk b0_ 34 (c34' r P0_0_ q0_0_ P0_1_ q0_1_ P0_2_ q0_2_ P0_3_ q0_3_),Buf k55 55 P0_0_ q0_0_ r.f0.f2,bl' 3 P0_1_ q0_1_ r.f7,Buf k55 55 P0_2_ q0_2_ r.f16.f2,bw' 21 P0_3_ q0_3_ r.f17,Blk b1_ 3 [il' p1]]):=by
 refine SCA_of_body Tryz.func94 rfl rfl ?_
 unfold F94Lb_0_.f at H
 refine qr' ?_
 refine o' (bx' fun b7=>?_)
 refine na' ?_
 refine fc' 1 fun hc9=>?_
 refine fc' 2 fun hc10=>?_
 refine fc' 3 fun hc11=>?_
 refine fc' 4 fun hc12=>?_
 refine SA_region ?_
 refine l' (lA' b7 0 6 [pt' b0_]) ?_
 refine l' (ld' b1_ 0 5) ?_
 obtain⟨r13,C26,H⟩:=g_bind H
 refine o' (ca' [0,1,2,3,4] [5,6] (xf' [.agg #[pt' b0_],il' p1]) (F95Lb_0_.ok (b0_:=b0_) (p0:=p0) (a1:=p1) C26) ?_)
 rintro _ _⟨A14,c15,A17,c18,A20,c21,A23,c24,rfl,rfl⟩
 refine RA_nil ?_
 have h_:=oi' H;subst h_
 exact bn' [0,1,2,3,4,5] ⟨A14,c15,A17,c18,A20,c21,A23,c24,rfl,rfl⟩

end Go.Proofs.YtckilbegmbaeeaaGreat.Z5

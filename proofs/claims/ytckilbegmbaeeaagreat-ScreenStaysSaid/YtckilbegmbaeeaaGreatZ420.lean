/- What functions compute, and that they do: 133m0b2, 134m0, 36, 62f90xxx_1_. -/
import Derived.Test.YtckilbegmbaeeaaGreatZ40
import Derived.Test.YtckilbegmbaeeaaGreatZ45
import Derived.Test.YtckilbegmbaeeaaGreatZ46
import Derived.Test.YtckilbegmbaeeaaGreatZ411
import Derived.Test.YtckilbegmbaeeaaGreatZ419
namespace Go.Proofs.YtckilbegmbaeeaaGreat.Z4
open Go Go.RowKit Go.Proofs.YtckilbegmbaeeaaGreat.SL
set_option linter.unusedVariables false
set_option maxHeartbeats 20000000
set_option maxRecDepth 100000
set_option linter.unusedSimpArgs false
attribute [local irreducible] IntKind.wrap minI maxI shrI shlI andI orI xorI andNotI cplI rd sub bytesOf strOf slA
variable {b2000_ b2001_ b2002_ c0_0 c0_1 c0_2 c0_3 k : Nat}
variable {A0_0 A0_1 A0_2 A0_3 : Option Addr}
def F62f90xxx_1_.f (k : Nat) (a0 : S34) (p2000 : Bool) (p2001 : Int) (p2002 : Bool) : Option (S34 × Int):=(F16b0.f k a0).bind (fun r12=>if (!r12) = true then (some (((S34.mk (S26.mk 0 0 ([] : (List S55))) 0 0 false (S28.mk 0 0 false false false false false false false false) 0 0 ([] : (List Int)) false false false false false false (S31.mk 0 0 false false (S28.mk 0 0 false false false false false false false false)) false (S26.mk 0 0 ([] : (List S55))) ([] : (List Int))),2))) else ((F97.f a0).bind (fun r18=>(F90Lb_0_.f k r18 p2000 p2001 p2002).bind (fun r31=>some ((r31,0))))))
theorem F62f90xxx_1_.ok {a0 : S34} {p2000 : Bool} {p2001 : Int} {p2002 : Bool} {r : S34 × Int} (H : F62f90xxx_1_.f k a0 p2000 p2001 p2002 = some r) : SCA Tryz.prog 62 #[.agg (c34' a0 A0_0 c0_0 A0_1 c0_1 A0_2 c0_2 A0_3 c0_3).toArray,.func (.func 90) #[] #[.pointer (some ⟨b2000_,0,none⟩),.pointer (some ⟨b2001_,0,none⟩),.pointer (some ⟨b2002_,0,none⟩)]] [Ro k55 A0_0 c0_0 a0.f0.f2,rl' A0_1 c0_1 a0.f7,Ro k55 A0_2 c0_2 a0.f16.f2,rw' A0_3 c0_3 a0.f17,Blk b2000_ 4 [.bool p2000],Blk b2001_ 3 [il' p2001],Blk b2002_ 4 [.bool p2002]] (fun v B=>∃ A0_0_ c0_0_ A0_1_ c0_1_ A0_2_ c0_2_ A0_3_ c0_3_,v = .tuple #[.agg (c34' r.1 A0_0_ c0_0_ A0_1_ c0_1_ A0_2_ c0_2_ A0_3_ c0_3_).toArray,il' r.2]∧B = [Buf k55 55 A0_0_ c0_0_ r.1.f0.f2,bl' 3 A0_1_ c0_1_ r.1.f7,Buf k55 55 A0_2_ c0_2_ r.1.f16.f2,bw' 21 A0_3_ c0_3_ r.1.f17,Blk b2000_ 4 [.bool p2000],Blk b2001_ 3 [il' p2001],Blk b2002_ 4 [.bool p2002]]):=by
 refine SCA_of_body Tryz.func62 rfl rfl ?_
 unfold F62f90xxx_1_.f at H
 refine qr' ?_
 refine o' (bx' fun b8=>?_)
 refine o' (al' fun b10=>?_)
 refine s' (il' 0) as' ?_
 refine nq' ?_
 refine l' (lA' b8 0 7 (c34' a0 A0_0 c0_0 A0_1 c0_1 A0_2 c0_2 A0_3 c0_3)) ?_
 obtain⟨r12,C46,H⟩:=g_bind H
 refine o' (ca' [0,1,2,3] [0,1,2,3,4,5,6,7,8] (xf' [.agg (c34' a0 A0_0 c0_0 A0_1 c0_1 A0_2 c0_2 A0_3 c0_3).toArray]) (F16.ok (a0:=a0) C46) ?_)
 rintro _ _⟨rfl,rfl⟩
 refine s' (.bool (!r12)) (V_not rfl) ?_
 refine na' ?_
 by_cases h13 : (!r12) = true
 ·replace H:=g_ift h13 H
  refine SA_condTb rfl h13 ?_
  refine qr' ?_
  refine s' (.agg (c34' z34' none 0 none 0 none 0 none 0).toArray) bd' ?_
  refine o' (su' b10 0 8 (c34' z34' none 0 none 0 none 0 none 0) ?_)
  refine s' (il' 2) as' ?_
  refine ntt' ?_
  have h_:=oi' H;subst h_
  exact BQ_RL (rs:=[.cell 4 34,.tmp 5]) (vs:=[.agg (c34' z34' none 0 none 0 none 0 none 0).toArray,il' 2]) [Buf k55 55 none 0 ([] : (List S55)),bl' 3 none 0 ([] : (List Int)),Buf k55 55 none 0 ([] : (List S55)),bw' 21 none 0 ([] : (List Int)),Blk b2000_ 4 [.bool p2000],Blk b2001_ 3 [il' p2001],Blk b2002_ 4 [.bool p2002]] rfl ⟨RV.cell (k:=8) rfl rfl Tryz.underlying34 rfl sz34,RV.tmp rfl,trivial⟩ rfl ((Gh.nilBuf k55 55).trans ((Gh.nilBuf (Kd.int .i64) 3).trans ((Gh.nilBuf k55 55).trans ((Gh.nilBuf (Kd.int .i32) 21).trans (gs' [9,10,11,12,4,5,6]))))) ⟨none,0,none,0,none,0,none,0,rfl,rfl⟩
 replace H:=g_iff h13 H
 refine SA_condFb rfl h13 ?_
 refine SA_skip (at_normal (qr' ?_))
 refine l' (lA' b8 0 7 (c34' a0 A0_0 c0_0 A0_1 c0_1 A0_2 c0_2 A0_3 c0_3)) ?_
 obtain⟨r18,C45,H⟩:=g_bind H
 refine o' (ca' [0,1,2,3] [0,1,2,3,4,5,6,7,8] (xf' [.agg (c34' a0 A0_0 c0_0 A0_1 c0_1 A0_2 c0_2 A0_3 c0_3).toArray]) (F97.ok (a0:=a0) C45) ?_)
 rintro _ _⟨A19,c20,A22,c23,A25,c26,A28,c29,rfl,rfl⟩
 refine o' (su' b8 0 11 (c34' r18 A19 c20 A22 c23 A25 c26 A28 c29) ?_)
 refine na' ?_
 refine SA.of_St (l:=[(1,.func (.func 90) #[] #[pt' b2000_,pt' b2001_,pt' b2002_]),(2,pt' b8),(4,pt' b10)]) (B:=[Blk b2002_ 4 [.bool p2002],Blk b2001_ 3 [il' p2001],Blk b2000_ 4 [.bool p2000],Blk b8 34 (c34' r18 A19 c20 A22 c23 A25 c26 A28 c29),Buf k55 55 A19 c20 r18.f0.f2,bl' 3 A22 c23 r18.f7,Buf k55 55 A25 c26 r18.f16.f2,bw' 21 A28 c29 r18.f17,Blk b10 34 (c34' z34' none 0 none 0 none 0 none 0)]) (St.mk1 (aeq rfl (aeq rfl (aeq rfl aeq0))) (Gh.sel [10,9,8,11,0,1,2,3,12] (by kernel_rfl) (by kernel_rfl))) fun junk=>?_
 refine qr' ?_
 refine s' (.func (.func 90) #[] #[pt' b2000_,pt' b2001_,pt' b2002_]) mv' ?_
 refine s' (.agg #[pt' b8]) bd' ?_
 obtain⟨r31,C44,H⟩:=g_bind H
 refine o' (ca' [3,4,5,6,7,2,1,0] [8] (X_fnV (vs:=[.agg #[pt' b8]]) (cap:=[pt' b2000_,pt' b2001_,pt' b2002_]) rfl Tryz.func90 nm90 rfl rfl) (F90Lb_0_.ok (b0_:=b8) (p0:=r18) (b1_:=b2000_) (p1:=p2000) (b2_:=b2001_) (p2:=p2001) (b3_:=b2002_) (p3:=p2002) C44) ?_)
 rintro _ _⟨A32,c33,A35,c36,A38,c39,A41,c42,rfl,rfl⟩
 refine nr' ?_
 refine l' (lA' b8 0 0 (c34' r31 A32 c33 A35 c36 A38 c39 A41 c42)) ?_
 refine o' (su' b10 0 8 (c34' r31 A32 c33 A35 c36 A38 c39 A41 c42) ?_)
 refine s' (il' 0) as' ?_
 refine nt' ?_
 have h_:=oi' H;subst h_
 exact b2' [.cell 4 34,.tmp 5] [1,2,3,4,5,6,7] ⟨A32,c33,A35,c36,A38,c39,A41,c42,rfl,rfl⟩ ⟨RV.cell (k:=8) rfl rfl Tryz.underlying34 rfl sz34,RV.tmp rfl,trivial⟩


def F36.f (k : Nat) (a0 : S34) (a1 : Bool) (a2 : Int) (a3 : Bool) : Option (S34 × Int):=(F62f90xxx_1_.f k a0 a1 a2 a3).bind (fun r15=>some ((r15.1,r15.2)))
theorem F36.ok {a0 : S34} {a1 : Bool} {a2 : Int} {a3 : Bool} {r : S34 × Int} (H : F36.f k a0 a1 a2 a3 = some r) : SCA Tryz.prog 36 #[.agg (c34' a0 A0_0 c0_0 A0_1 c0_1 A0_2 c0_2 A0_3 c0_3).toArray,.bool a1,il' a2,.bool a3] [Ro k55 A0_0 c0_0 a0.f0.f2,rl' A0_1 c0_1 a0.f7,Ro k55 A0_2 c0_2 a0.f16.f2,rw' A0_3 c0_3 a0.f17] (fun v B=>∃ A0_0_ c0_0_ A0_1_ c0_1_ A0_2_ c0_2_ A0_3_ c0_3_,v = .tuple #[.agg (c34' r.1 A0_0_ c0_0_ A0_1_ c0_1_ A0_2_ c0_2_ A0_3_ c0_3_).toArray,il' r.2]∧B = [Buf k55 55 A0_0_ c0_0_ r.1.f0.f2,bl' 3 A0_1_ c0_1_ r.1.f7,Buf k55 55 A0_2_ c0_2_ r.1.f16.f2,bw' 21 A0_3_ c0_3_ r.1.f17]):=by
 refine SCA_of_body Tryz.func36 rfl rfl ?_
 unfold F36.f at H
 refine qr' ?_
 refine o' (bx' fun b5=>?_)
 refine o' (bx' fun b7=>?_)
 refine o' (bx' fun b9=>?_)
 refine o' (bx' fun b11=>?_)
 refine o' (al' fun b13=>?_)
 refine s' (il' 0) as' ?_
 refine nr' ?_
 refine l' (lA' b5 0 4 (c34' a0 A0_0 c0_0 A0_1 c0_1 A0_2 c0_2 A0_3 c0_3)) ?_
 refine s' (.func (.func 90) #[] #[pt' b7,pt' b9,pt' b11]) (V_makeFuncL (us:=[pt' b7,pt' b9,pt' b11]) rfl) ?_
 obtain⟨r15,C28,H⟩:=g_bind H
 refine o' (ca' [0,1,2,3,5,6,7] [0,1,2,3,4,8] (xf' [.agg (c34' a0 A0_0 c0_0 A0_1 c0_1 A0_2 c0_2 A0_3 c0_3).toArray,.func (.func 90) #[] #[pt' b7,pt' b9,pt' b11]]) (F62f90xxx_1_.ok (a0:=a0) (b2000_:=b7) (p2000:=a1) (b2001_:=b9) (p2001:=a2) (b2002_:=b11) (p2002:=a3) C28) ?_)
 rintro _ _⟨A16,c17,A19,c20,A22,c23,A25,c26,rfl,rfl⟩
 refine s' (.agg (c34' r15.1 A16 c17 A19 c20 A22 c23 A25 c26).toArray) ex' ?_
 refine s' (il' r15.2) ex' ?_
 refine o' (su' b13 0 12 (c34' r15.1 A16 c17 A19 c20 A22 c23 A25 c26) ?_)
 refine s' (il' r15.2) as' ?_
 refine nt' ?_
 have h_:=oi' H;subst h_
 exact b2' [.cell 8 34,.tmp 9] [0,1,2,3] ⟨A16,c17,A19,c20,A22,c23,A25,c26,rfl,rfl⟩ ⟨RV.cell (k:=12) rfl rfl Tryz.underlying34 rfl sz34,RV.tmp rfl,trivial⟩


def F133m0b2.f (l0 : (List Int)) (a1 : Int) (l2 : (List Int)) : Option ((List Int)):=if 0 ≤ a1∧a1 ≤ (l0.length : Int)∧(l0.length : Int) ≤ (l0.length : Int) then (lt ((l2.length : Int)) fun n11=>if n11 = 0 then (some (l0)) else (lt ((l0.length : Int)) fun n13=>if a1 = n13 then (if l0.length + l2.length ≤ 17592186044416 then lt (l0 ++ l2) fun n19=>(some (n19)) else none) else (if l0.length + l2.length ≤ 17592186044416 then some (l0.take a1.toNat ++ l2 ++ l0.drop a1.toNat) else none))) else none
theorem F133m0b2.ok {l0 : (List Int)} {a1 : Int} {l2 : (List Int)} {A0 : Option Addr} {c0 : Nat} {A2 : Option Addr} {c2 : Nat} {r : (List Int)} (H : F133m0b2.f l0 a1 l2 = some r) : SCA Tryz.prog 133 #[.slice A0 l0.length c0,il' a1,.slice A2 l2.length c2] [bl' 3 A0 c0 l0,bl' 3 A2 c2 l2] (fun v B=>∃ A0_0_ c0_0_,v = .slice A0_0_ r.length c0_0_∧B = [bl' 3 A0_0_ c0_0_ r,bl' 3 A2 c2 l2]):=by
 refine SCA_of_body Tryz.func133 rfl rfl ?_
 unfold F133m0b2.f at H
 refine qr' ?_
 refine s' (.slice none 0 0) as' ?_
 refine na' (SA_seq ?_)
 refine fc' 0 fun hc3=>?_
 refine fc' 1 fun hc4=>?_
 refine SA_region ?_
 refine s' (.slice A0 l0.length c0) mv' ?_
 refine s' (il' a1) mv' ?_
 obtain⟨⟨g5,g6,g7⟩,H⟩:=g_pos H
 refine s' (.slice (slA A0 a1 ((c0 : Nat) : Int) 1) ((l0.length : Int) - a1).toNat (((c0 : Nat) : Int).toNat - a1.toNat)) (V_sliceW (l:=0) (m:=(l0.length : Int)) (a:=a1) (b:=(l0.length : Int)) (q:=((c0 : Nat) : Int)) (Win.whole (A:=A0) (sz:=1) (xs:=l0) (c:=c0) (by omega)) Tryz.underlying29 sz3 rfl rfl rfl rfl (.inr ⟨_,rfl⟩) (.inl ⟨rfl,rfl,rfl⟩) (.inl ⟨rfl,rfl⟩) g5 g6 g7) ?_
 have hW10 : Win A0 (slA A0 a1 ((c0 : Nat) : Int) 1) 1 (0 + a1) ((l0.length : Int) - a1) (((c0 : Nat) : Int).toNat - a1.toNat):=Win.sub (Win.whole (A:=A0) (sz:=1) (xs:=l0) (c:=c0) (by omega)) g5 g6 g7 (.inl rfl) (Int.le_refl _)
 refine nr' ?_
 refine s' (.slice A2 l2.length c2) mv' ?_
 refine s' (il' (l2.length : Int)) (V_len Tryz.underlying29 rfl) ?_
 obtain⟨n11,hn11,H⟩:=g_lt H
 refine s' (il' n11) (V_assign (v:=il' n11) (congrArg (Value.int .i64) hn11.symm)) ?_
 refine nq' ?_
 refine s' (il' n11) mv' ?_
 refine s' (.bool (decide (n11 = 0))) (V_eql rfl rfl) ?_
 refine na' ?_
 by_cases h12 : n11 = 0
 ·replace H:=g_ift h12 H
  refine SA_condT rfl h12 ?_
  refine qr' ?_
  refine s' (.slice A0 l0.length c0) mv' ?_
  refine s' (.slice A0 l0.length c0) as' ?_
  refine ntt' ?_
  have h_:=oi' H;subst h_
  exact b1' [0,1] ⟨A0,c0,rfl,rfl⟩
 replace H:=g_iff h12 H
 refine SA_condF rfl h12 ?_
 refine SA_skip (at_normal (qr' ?_))
 refine s' (.slice A0 l0.length c0) mv' ?_
 refine s' (il' (l0.length : Int)) (V_len Tryz.underlying29 rfl) ?_
 obtain⟨n13,hn13,H⟩:=g_lt H
 refine s' (il' n13) (V_assign (v:=il' n13) (congrArg (Value.int .i64) hn13.symm)) ?_
 refine nq' ?_
 refine s' (il' a1) mv' ?_
 refine s' (il' n13) mv' ?_
 refine s' (.bool (decide (a1 = n13))) (V_eql rfl rfl) ?_
 refine na' ?_
 by_cases h14 : a1 = n13
 ·replace H:=g_ift h14 H
  refine SA_condT rfl h14 ?_
  refine qr' ?_
  refine s' (.slice A0 l0.length c0) mv' ?_
  refine s' (.slice A2 l2.length c2) mv' ?_
  obtain⟨g16,H⟩:=g_pos H
  obtain⟨n19,hn19,H⟩:=g_lt H
  refine o' (OA_app (k:=0) (A:=A0) (c:=c0) (xs:=l0) (ys:=l2) n19 hn19 rfl Tryz.underlying29 inf3 rfl rfl rfl rfl rfl (Yld.slice Tryz.underlying29 (Src.buf (k:=1) rfl)) (by omega) (by omega) fun A17 c18=>?_)
  refine s' (.slice A17 n19.length c18) as' ?_
  refine ntt' ?_
  have h_:=oi' H;subst h_
  exact b1' [0,1] ⟨A17,c18,rfl,rfl⟩
 replace H:=g_iff h14 H
 refine SA_condF rfl h14 ?_
 refine SA_skip (at_normal (SA_seq (qr' ?_)))
 refine s' (il' n13) mv' ?_
 refine s' (il' n11) mv' ?_
 refine s' (il' (IntKind.i64.wrap (n13 + n11))) (V_add rfl rfl) ?_
 refine s' (.slice A0 l0.length c0) mv' ?_
 refine s' (il' (c0 : Int)) (V_cap Tryz.underlying29 rfl) ?_
 refine s' (.bool (decide ((IntKind.i64.wrap (n13 + n11)) > (c0 : Int)))) (V_gtr rfl rfl) ?_
 refine na' ?_
 obtain⟨g583,H⟩:=g_pos H
 by_cases h20 : (IntKind.i64.wrap (n13 + n11)) > (c0 : Int)
 ·replace H:=g_nil (x:=if 0 ≤ (0 : Int)∧(0 : Int) ≤ a1∧a1 ≤ (l0.length : Int) then (if 0 < (IntKind.i64.wrap ((IntKind.i64.wrap (n13 + n11)) - a1))∧(sub l0 (0 + (0 : Int)) ((0 + (0 : Int)) + (a1 - (0 : Int)))).length + (IntKind.i64.wrap ((IntKind.i64.wrap (n13 + n11)) - a1)).toNat ≤ 17592186044416 then lt ((sub l0 (0 + (0 : Int)) ((0 + (0 : Int)) + (a1 - (0 : Int)))) ++ List.replicate (IntKind.i64.wrap ((IntKind.i64.wrap (n13 + n11)) - a1)).toNat 0) fun n33=>(if 0 ≤ a1∧a1 ≤ (n33.length : Int)∧(n33.length : Int) ≤ (n33.length : Int) then (lt (over n33 (0 + a1).toNat (l2.take ((n33.length : Int) - a1).toNat)) fun n41=>(if 0 ≤ (IntKind.i64.wrap (a1 + n11))∧(IntKind.i64.wrap (a1 + n11)) ≤ (n41.length : Int)∧(n41.length : Int) ≤ (n41.length : Int) then (if 0 ≤ a1∧a1 ≤ (l0.length : Int)∧(l0.length : Int) ≤ (l0.length : Int) then (lt (over n41 (0 + (IntKind.i64.wrap (a1 + n11))).toNat ((sub l0 (0 + a1) ((0 + a1) + ((l0.length : Int) - a1))).take ((n41.length : Int) - (IntKind.i64.wrap (a1 + n11))).toNat)) fun n522=>(some (n522))) else none) else none)) else none) else none) else none) H (ins_grow (z0:=0) (lim:=17592186044416) hn11 hn13 (by omega) (by omega) (by omega) (by omega) g583 (by omega))
  refine SA_condT rfl h20 ?_
  have hwG : IntKind.i64.wrap (n13 + n11) = n13 + n11:=by rw [IntKind.wrap_i64]; omega
  have hwG2 : IntKind.i64.wrap (IntKind.i64.wrap (n13 + n11) - a1) = n13 + n11 - a1:=by rw [hwG,IntKind.wrap_i64]; omega
  refine qr' ?_
  refine s' (.slice A0 l0.length c0) mv' ?_
  refine s' (il' a1) mv' ?_
  obtain⟨⟨g21,g22,g23⟩,H⟩:=g_pos H
  refine s' (.slice (slA A0 (0 : Int) ((c0 : Nat) : Int) 1) (a1 - (0 : Int)).toNat (((c0 : Nat) : Int).toNat - (0 : Int).toNat)) (V_sliceW (l:=0) (m:=(l0.length : Int)) (a:=(0 : Int)) (b:=a1) (q:=((c0 : Nat) : Int)) (Win.whole (A:=A0) (sz:=1) (xs:=l0) (c:=c0) (by omega)) Tryz.underlying29 sz3 rfl rfl rfl rfl (.inl ⟨rfl,rfl⟩) (.inr ⟨_,rfl⟩) (.inl ⟨rfl,rfl⟩) g21 g22 g23) ?_
  have hW26 : Win A0 (slA A0 (0 : Int) ((c0 : Nat) : Int) 1) 1 (0 + (0 : Int)) (a1 - (0 : Int)) (((c0 : Nat) : Int).toNat - (0 : Int).toNat):=Win.sub (Win.whole (A:=A0) (sz:=1) (xs:=l0) (c:=c0) (by omega)) g21 g22 g23 (.inl rfl) (Int.le_refl _)
  refine s' (il' n13) mv' ?_
  refine s' (il' n11) mv' ?_
  refine s' (il' (IntKind.i64.wrap (n13 + n11))) (V_add rfl rfl) ?_
  refine s' (il' a1) mv' ?_
  refine s' (il' (IntKind.i64.wrap ((IntKind.i64.wrap (n13 + n11)) - a1))) (V_sub rfl rfl) ?_
  obtain⟨g28,H⟩:=g_pos H
  obtain⟨n33,hn33,H⟩:=g_lt H
  have hq29:=win_len (xs:=l0) hW26.lo hW26.no (by omega)
  have hy30 : (Value.int .i64 (IntKind.i64.wrap ((IntKind.i64.wrap (n13 + n11)) - a1))) = il' (((IntKind.i64.wrap ((IntKind.i64.wrap (n13 + n11)) - a1)).toNat : Nat) : Int):=by congr 1; omega
  refine o' (OA.ghost (Gh.nilBuf (Kd.int .i64) 3) (OA_appZ (k:=2) (V:=slA A0 (0 : Int) ((c0 : Nat) : Int) 1) (m:=(a1 - (0 : Int)).toNat) (vc:=(((c0 : Nat) : Int).toNat - (0 : Int).toNat)) (xs:=sub l0 (0 + (0 : Int)) ((0 + (0 : Int)) + (a1 - (0 : Int)))) (cnt:=(IntKind.i64.wrap ((IntKind.i64.wrap (n13 + n11)) - a1)).toNat) (z0:=0) n33 hn33 rfl Tryz.underlying29 Tryz.underlying3 inf3 rfl rfl (by decide) rfl rfl (Src.win (Src.buf (k:=0) rfl) hW26 rfl (by omega)) hq29.symm hy30 (fun _=>rfl) (by omega) (by rw [hq29]; omega) (by omega) (by omega) fun A31 c32=>?_))
  refine s' (.slice A31 n33.length c32) as' ?_
  refine na' ?_
  refine SA.of_St (l:=[(0,.slice A0 l0.length c0),(1,il' a1),(2,.slice A2 l2.length c2),(7,il' n11),(9,.slice A31 n33.length c32)]) (B:=[bl' 3 A2 c2 l2,bl' 3 A0 c0 l0,bl' 3 A31 c32 n33]) (St.mk1 (aeq rfl (aeq rfl (aeq rfl (aeq rfl (aeq rfl aeq0))))) (Gh.sel [1,0,2] (by kernel_rfl) (by kernel_rfl))) fun junk=>?_
  refine SA_seq ?_
  refine fc' 2 fun hc34=>?_
  refine SA_region ?_
  refine s' (.slice A31 n33.length c32) mv' ?_
  refine s' (il' a1) mv' ?_
  obtain⟨⟨g35,g36,g37⟩,H⟩:=g_pos H
  refine s' (.slice (slA A31 a1 ((c32 : Nat) : Int) 1) ((n33.length : Int) - a1).toNat (((c32 : Nat) : Int).toNat - a1.toNat)) (V_sliceW (l:=0) (m:=(n33.length : Int)) (a:=a1) (b:=(n33.length : Int)) (q:=((c32 : Nat) : Int)) (Win.whole (A:=A31) (sz:=1) (xs:=n33) (c:=c32) (by omega)) Tryz.underlying29 sz3 rfl rfl rfl rfl (.inr ⟨_,rfl⟩) (.inl ⟨rfl,rfl,rfl⟩) (.inl ⟨rfl,rfl⟩) g35 g36 g37) ?_
  have hW40 : Win A31 (slA A31 a1 ((c32 : Nat) : Int) 1) 1 (0 + a1) ((n33.length : Int) - a1) (((c32 : Nat) : Int).toNat - a1.toNat):=Win.sub (Win.whole (A:=A31) (sz:=1) (xs:=n33) (c:=c32) (by omega)) g35 g36 g37 (.inl rfl) (Int.le_refl _)
  refine s' (.slice A2 l2.length c2) mv' ?_
  obtain⟨n41,hn41,H⟩:=g_lt H
  have hl_n41 : n41.length = n33.length:=by rw [hn41]; exact over_len (by rw [List.length_take]; omega)
  refine o' (OA_copyV (k:=2) (l:=0 + a1) (m:=(n33.length : Int) - a1) (xs:=n33) (ys:=l2) n41 hn41 hW40 rfl Tryz.underlying29 sz3 rfl rfl rfl (by omega) rfl (Cpy.slice (Src.buf (k:=0) rfl)) ?_)
  try rewrite [← hl_n41]
  refine na' (SA_seq ?_)
  refine SA_drawNq mixed (PanOk.thn (PanOk.thn PanOk.body)) fun I0 hh0 w0 pk=>?_
  refine DN_take (v:=.slice A31 n41.length c32) 0 (by kernel_rfl) rfl rfl (.no rfl) pk rfl mv' ?_
  refine DN_take (v:=il' a1) 1 (by kernel_rfl) rfl rfl (.no rfl) pk rfl mv' ?_
  refine DN_take (v:=il' n11) 2 (by kernel_rfl) rfl rfl (.no rfl) pk rfl mv' ?_
  refine DN_take (v:=il' (IntKind.i64.wrap (a1 + n11))) 3 (by kernel_rfl) rfl rfl (.no rfl) pk rfl (V_add rfl rfl) ?_
  obtain⟨⟨g282,g283,g284⟩,H⟩:=g_pos H
  refine DN_take (v:=.slice (slA A31 (IntKind.i64.wrap (a1 + n11)) ((c32 : Nat) : Int) 1) ((n41.length : Int) - (IntKind.i64.wrap (a1 + n11))).toNat (((c32 : Nat) : Int).toNat - (IntKind.i64.wrap (a1 + n11)).toNat)) 4 (by kernel_rfl) rfl rfl (.no rfl) pk rfl (V_sliceW (l:=0) (m:=(n41.length : Int)) (a:=IntKind.i64.wrap (a1 + n11)) (b:=(n41.length : Int)) (q:=((c32 : Nat) : Int)) (Win.whole (A:=A31) (sz:=1) (xs:=n41) (c:=c32) (by omega)) Tryz.underlying29 sz3 rfl rfl rfl rfl (.inr ⟨_,rfl⟩) (.inl ⟨rfl,rfl,rfl⟩) (.inl ⟨rfl,rfl⟩) g282 g283 g284) ?_
  have hW287 : Win A31 (slA A31 (IntKind.i64.wrap (a1 + n11)) ((c32 : Nat) : Int) 1) 1 (0 + (IntKind.i64.wrap (a1 + n11))) ((n41.length : Int) - (IntKind.i64.wrap (a1 + n11))) (((c32 : Nat) : Int).toNat - (IntKind.i64.wrap (a1 + n11)).toNat):=Win.sub (Win.whole (A:=A31) (sz:=1) (xs:=n41) (c:=c32) (by omega)) g282 g283 g284 (.inl rfl) (Int.le_refl _)
  refine DN_take (v:=.slice A0 l0.length c0) 5 (by kernel_rfl) rfl rfl (.no rfl) pk rfl mv' ?_
  refine DN_take (v:=il' a1) 6 (by kernel_rfl) rfl rfl (.no rfl) pk rfl mv' ?_
  obtain⟨⟨g462,g463,g464⟩,H⟩:=g_pos H
  refine DN_take (v:=.slice (slA A0 a1 ((c0 : Nat) : Int) 1) ((l0.length : Int) - a1).toNat (((c0 : Nat) : Int).toNat - a1.toNat)) 7 (by kernel_rfl) rfl rfl (.no rfl) pk rfl (V_sliceW (l:=0) (m:=(l0.length : Int)) (a:=a1) (b:=(l0.length : Int)) (q:=((c0 : Nat) : Int)) (Win.whole (A:=A0) (sz:=1) (xs:=l0) (c:=c0) (by omega)) Tryz.underlying29 sz3 rfl rfl rfl rfl (.inr ⟨_,rfl⟩) (.inl ⟨rfl,rfl,rfl⟩) (.inl ⟨rfl,rfl⟩) g462 g463 g464) ?_
  have hW467 : Win A0 (slA A0 a1 ((c0 : Nat) : Int) 1) 1 (0 + a1) ((l0.length : Int) - a1) (((c0 : Nat) : Int).toNat - a1.toNat):=Win.sub (Win.whole (A:=A0) (sz:=1) (xs:=l0) (c:=c0) (by omega)) g462 g463 g464 (.inl rfl) (Int.le_refl _)
  obtain⟨n522,hn522,H⟩:=g_lt H
  have hl_n522 : n522.length = n41.length:=by rw [hn522]; exact over_len (by rw [List.length_take]; omega)
  refine DN_one 8 (by kernel_rfl) rfl rfl (.no rfl) (OA_copyV (k:=2) (l:=0 + (IntKind.i64.wrap (a1 + n11))) (m:=(n41.length : Int) - (IntKind.i64.wrap (a1 + n11))) (xs:=n41) (ys:=sub l0 (0 + a1) ((0 + a1) + ((l0.length : Int) - a1))) n522 hn522 hW287 rfl Tryz.underlying29 sz3 rfl rfl rfl (by omega) rfl (Cpy.win (Src.buf (k:=1) rfl) hW467 rfl (by omega)) ?_)
  try rewrite [← hl_n522]
  refine DN_done (by kernel_rfl) ?_
  refine at_normal (qr' ?_)
  refine s' (.slice A31 n522.length c32) mv' ?_
  refine s' (.slice A31 n522.length c32) as' ?_
  refine ntt' ?_
  have h_:=oi' H;subst h_
  exact b1' [2,0] ⟨A31,c32,rfl,rfl⟩
 subst hn11
 subst hn13
 obtain⟨i_,rfl⟩ : ∃ i_ : Nat,a1 = (i_ : Int):=⟨a1.toNat,by omega⟩
 have hwN : IntKind.i64.wrap ((l0.length : Int) + (l2.length : Int)) = ((l0.length + l2.length : Nat) : Int):=by rw [IntKind.wrap_i64]; omega
 have hwI : IntKind.i64.wrap ((i_ : Int) + (l2.length : Int)) = ((i_ + l2.length : Nat) : Int):=by rw [IntKind.wrap_i64]; omega
 have hroom : l0.length + l2.length ≤ c0:=by rw [hwN] at h20; omega
 refine SA_open (k:=0) rfl rfl (.inr (by omega)) fun b0_ cs0_ hA0_ hlc0_ hcl0_=>?_
 subst hA0_
 have hcl0_ : cs0_.length = c0 * 1:=hcl0_
 refine SA_open (k:=1) rfl rfl (.inr (by omega)) fun b1_ cs1_ hA1_ hlc1_ hcl1_=>?_
 subst hA1_
 have hcl1_ : cs1_.length = c2 * 1:=hcl1_
 refine SA_condF rfl h20 ?_
 refine SA_skip (at_normal (qr' ?_))
 refine s' (.slice (some ⟨b0_,0 * 1,none⟩) l0.length c0) mv' ?_
 refine s' (il' (l0.length : Int)) mv' ?_
 refine s' (il' (l2.length : Int)) mv' ?_
 refine s' (il' (IntKind.i64.wrap ((l0.length : Int) + (l2.length : Int)))) (V_add rfl rfl) ?_
 refine s' (.slice (some ⟨b0_,0 * 1,none⟩) ((l0.length + l2.length) - 0) (c0 - 0)) (V_sliceRaw (o2:=0) (a:=0) (h:=l0.length + l2.length) Tryz.underlying29 sz3 rfl rfl rfl (.inl ⟨rfl,rfl⟩) (.inr ⟨.i64,congrArg (fun z_=>some (Value.int .i64 z_)) hwN⟩) (by omega) (by omega) (by omega) (by omega)) ?_
 refine s' (.slice (some ⟨b0_,0 * 1,none⟩) ((l0.length + l2.length) - 0) (c0 - 0)) as' ?_
 refine nq' ?_
 refine s' (.slice (some ⟨b1_,0 * 1,none⟩) l2.length c2) mv' ?_
 refine s' (.slice (some ⟨b0_,0 * 1,none⟩) ((l0.length + l2.length) - 0) (c0 - 0)) mv' ?_
 refine s' (il' (i_ : Int)) mv' ?_
 refine s' (il' (l2.length : Int)) mv' ?_
 refine s' (il' (IntKind.i64.wrap ((i_ : Int) + (l2.length : Int)))) (V_add rfl rfl) ?_
 refine s' (.slice (some ⟨b0_,(i_ + l2.length) * 1,none⟩) (((l0.length + l2.length) - 0) - (i_ + l2.length)) ((c0 - 0) - (i_ + l2.length))) (V_sliceRaw (o2:=i_ + l2.length) (a:=i_ + l2.length) (h:=(l0.length + l2.length) - 0) Tryz.underlying29 sz3 rfl rfl rfl (.inr ⟨.i64,congrArg (fun z_=>some (Value.int .i64 z_)) hwI⟩) (.inl ⟨rfl,rfl⟩) (by omega) (by omega) (by omega) (by omega)) ?_
 refine l' (VR_overlaps (k:=1) (k':=0) (tb:=4) rfl rfl (by decide) (by intro q_; rw [q_] at hcl0_; simp only [List.length_nil] at hcl0_; omega) Tryz.func155 nm155 (by kernel_rfl) (by kernel_rfl) (by kernel_rfl) Tryz.underlying29 sz3 rfl rfl) ?_
 refine s' (.bool true) (V_notF rfl) ?_
 refine na' ?_
 refine SA_condTb rfl rfl ?_
 refine SA_seq ?_
 refine SA_drawNq mixed (PanOk.thn (PanOk.thn PanOk.body)) fun I0 hh0 w0 pk=>?_
 refine DN_take (v:=.slice (some ⟨b0_,0 * 1,none⟩) ((l0.length + l2.length) - 0) (c0 - 0)) 0 (by kernel_rfl) rfl rfl (.no rfl) pk rfl mv' ?_
 refine DN_take (v:=il' (i_ : Int)) 1 (by kernel_rfl) rfl rfl (.no rfl) pk rfl mv' ?_
 refine DN_take (v:=il' (l2.length : Int)) 2 (by kernel_rfl) rfl rfl (.no rfl) pk rfl mv' ?_
 refine DN_take (v:=il' (IntKind.i64.wrap ((i_ : Int) + (l2.length : Int)))) 3 (by kernel_rfl) rfl rfl (.no rfl) pk rfl (V_add rfl rfl) ?_
 refine DN_take (v:=.slice (some ⟨b0_,(i_ + l2.length) * 1,none⟩) (((l0.length + l2.length) - 0) - (i_ + l2.length)) ((c0 - 0) - (i_ + l2.length))) 4 (by kernel_rfl) rfl rfl (.no rfl) pk rfl (V_sliceRaw (o2:=i_ + l2.length) (a:=i_ + l2.length) (h:=(l0.length + l2.length) - 0) Tryz.underlying29 sz3 rfl rfl rfl (.inr ⟨.i64,congrArg (fun z_=>some (Value.int .i64 z_)) hwI⟩) (.inl ⟨rfl,rfl⟩) (by omega) (by omega) (by omega) (by omega)) ?_
 refine DN_take (v:=.slice (some ⟨b0_,0 * 1,none⟩) ((l0.length + l2.length) - 0) (c0 - 0)) 5 (by kernel_rfl) rfl rfl (.no rfl) pk rfl mv' ?_
 refine DN_take (v:=il' (i_ : Int)) 6 (by kernel_rfl) rfl rfl (.no rfl) pk rfl mv' ?_
 refine DN_take (v:=.slice (some ⟨b0_,i_ * 1,none⟩) (((l0.length + l2.length) - 0) - i_) ((c0 - 0) - i_)) 7 (by kernel_rfl) rfl rfl (.no rfl) pk rfl (V_sliceRaw (o2:=i_) (a:=i_) (h:=(l0.length + l2.length) - 0) Tryz.underlying29 sz3 rfl rfl rfl (.inr ⟨.i64,rfl⟩) (.inl ⟨rfl,rfl⟩) (by omega) (by omega) (by omega) (by omega)) ?_
 refine DN_one 8 (by kernel_rfl) rfl rfl (.no rfl) (OA_copyRaw (k:=0) (kS:=0) (off:=i_ + l2.length) (so:=i_) (cnt:=l0.length - i_) (es:=(cs0_.drop (i_ * 1)).take ((l0.length - i_) * 1)) rfl Tryz.underlying29 sz3 rfl rfl rfl (by omega) (by omega) rfl rfl rfl (by omega) (fun I_ h_ s_=>one_sub (RLa_at (j:=2) rfl s_) (by show _ ≤ l0.length * 1; omega)) ?_)
 refine DN_done (by kernel_rfl) ?_
 refine at_normal (qr' ?_)
 refine s' (.slice (some ⟨b0_,0 * 1,none⟩) ((l0.length + l2.length) - 0) (c0 - 0)) mv' ?_
 refine s' (il' (i_ : Int)) mv' ?_
 refine s' (.slice (some ⟨b0_,i_ * 1,none⟩) (((l0.length + l2.length) - 0) - i_) ((c0 - 0) - i_)) (V_sliceRaw (o2:=i_) (a:=i_) (h:=(l0.length + l2.length) - 0) Tryz.underlying29 sz3 rfl rfl rfl (.inr ⟨.i64,rfl⟩) (.inl ⟨rfl,rfl⟩) (by omega) (by omega) (by omega) (by omega)) ?_
 refine s' (.slice (some ⟨b1_,0 * 1,none⟩) l2.length c2) mv' ?_
 refine o' (OA_copyRaw (k:=0) (kS:=1) (off:=i_) (so:=0) (cnt:=l2.length) (es:=(cs1_.drop (0 * 1)).take (l2.length * 1)) rfl Tryz.underlying29 sz3 rfl rfl rfl (by omega) (by omega) rfl rfl rfl (by omega) (fun I_ h_ s_=>one_sub (RLa_at (j:=3) rfl s_) (by show _ ≤ l2.length * 1; omega)) ?_)
 refine nr' ?_
 refine s' (.slice (some ⟨b0_,0 * 1,none⟩) ((l0.length + l2.length) - 0) (c0 - 0)) mv' ?_
 refine s' (.slice (some ⟨b0_,0 * 1,none⟩) ((l0.length + l2.length) - 0) (c0 - 0)) as' ?_
 refine ntt' ?_
 have h_:=oi' H;subst h_
 have hln_ : (l0.take (i_ : Int).toNat ++ l2 ++ l0.drop (i_ : Int).toNat).length = l0.length + l2.length:=by simp; omega
 exact BQ_R1 [bl' 3 (some ⟨b0_,0,none⟩) c0 (l0.take (i_ : Int).toNat ++ l2 ++ l0.drop (i_ : Int).toNat),bl' 3 (some ⟨b1_,0,none⟩) c2 l2] rfl rfl ((Gh_close (k:=0) (zs:=l0.take (i_ : Int).toNat ++ l2 ++ l0.drop (i_ : Int).toNat) rfl (by rw [hln_]; omega) (fun I_ h_ s_=>ins_cells (i:=i_) rfl (RLa_at (j:=2) rfl s_) (RLa_at (j:=3) rfl s_) (by omega) (by omega) hcl0_ (by show l2.length * 1 ≤ _; omega))).trans ((Gh_close (k:=1) (zs:=l2) rfl hlc1_ (fun I_ h_ s_=>RLa_at (j:=3) rfl s_)).trans (gs' [0,1]))) ⟨some ⟨b0_,0,none⟩,c0,(by rw [hln_]; rfl),rfl⟩


def F134m0.f (l0 : (List Int)) (a1 : Int) (a2 : Int) : Option ((List Int)):=if 0 ≤ a1∧a1 ≤ a2∧a2 ≤ (l0.length : Int)∧a2 ≤ (l0.length : Int)∧(l0.length : Int) ≤ (l0.length : Int) then (if a1 = a2 then (some (l0)) else (lt ((l0.length : Int)) fun n10=>if 0 ≤ (0 : Int)∧(0 : Int) ≤ a1∧a1 ≤ (l0.length : Int) then (if 0 ≤ a2∧a2 ≤ (l0.length : Int)∧(l0.length : Int) ≤ (l0.length : Int) then (if (0 + (0 : Int)) + (a1 - (0 : Int)) + ((l0.length : Int) - a2) ≤ (l0.length : Int) then lt (over l0 ((0 + (0 : Int)) + (a1 - (0 : Int))).toNat (sub l0 (0 + a2) ((0 + a2) + ((l0.length : Int) - a2)))) fun n371=>(if 0 ≤ ((a1 - (0 : Int)) + ((l0.length : Int) - a2))∧((a1 - (0 : Int)) + ((l0.length : Int) - a2)) ≤ n10∧(0 + (0 : Int)) + n10 ≤ (n371.length : Int) then (if ((0 + (0 : Int)) + ((a1 - (0 : Int)) + ((l0.length : Int) - a2))) + (n10 - ((a1 - (0 : Int)) + ((l0.length : Int) - a2))) ≤ (n371.length : Int) then lt (over n371 ((0 + (0 : Int)) + ((a1 - (0 : Int)) + ((l0.length : Int) - a2))).toNat (List.replicate (n10 - ((a1 - (0 : Int)) + ((l0.length : Int) - a2))).toNat 0)) fun n499=>(some (n499.take ((a1 - (0 : Int)) + ((l0.length : Int) - a2)).toNat)) else none) else none) else none) else none) else none)) else none
theorem F134m0.ok {l0 : (List Int)} {a1 : Int} {a2 : Int} {A0 : Option Addr} {c0 : Nat} {r : (List Int)} (H : F134m0.f l0 a1 a2 = some r) : SCA Tryz.prog 134 #[.slice A0 l0.length c0,il' a1,il' a2] [bl' 3 A0 c0 l0] (fun v B=>∃ A0_0_ c0_0_,v = .slice A0_0_ r.length c0_0_∧B = [bl' 3 A0_0_ c0_0_ r]):=by
 refine SCA_of_body Tryz.func134 rfl rfl ?_
 unfold F134m0.f at H
 refine qr' ?_
 refine s' (.slice none 0 0) as' ?_
 refine na' (SA_seq ?_)
 refine fc' 0 fun hc2=>?_
 refine SA_region ?_
 refine s' (.slice A0 l0.length c0) mv' ?_
 refine s' (il' a1) mv' ?_
 refine s' (il' a2) mv' ?_
 refine s' (.slice A0 l0.length c0) mv' ?_
 refine s' (il' (l0.length : Int)) (V_len Tryz.underlying29 rfl) ?_
 obtain⟨⟨g3,g4,g5,g6,g7⟩,H⟩:=g_pos H
 refine s' (.slice (slA A0 a1 (l0.length : Int) 1) (a2 - a1).toNat ((l0.length : Int).toNat - a1.toNat)) (V_sliceW (l:=0) (m:=(l0.length : Int)) (a:=a1) (b:=a2) (q:=(l0.length : Int)) (Win.whole (A:=A0) (sz:=1) (xs:=l0) (c:=c0) (by omega)) Tryz.underlying29 sz3 rfl rfl rfl rfl (.inr ⟨_,rfl⟩) (.inr ⟨_,rfl⟩) (.inr ⟨⟨_,rfl⟩,⟨_,rfl⟩,g6,g7⟩) g3 g4 g5) ?_
 have hW8 : Win A0 (slA A0 a1 (l0.length : Int) 1) 1 (0 + a1) (a2 - a1) ((l0.length : Int).toNat - a1.toNat):=Win.sub (Win.whole (A:=A0) (sz:=1) (xs:=l0) (c:=c0) (by omega)) g3 g4 g5 (.inr g6) (Int.le_trans g7 ((Win.whole (A:=A0) (sz:=1) (xs:=l0) (c:=c0) (by omega))).cap)
 refine nq' ?_
 refine s' (il' a1) mv' ?_
 refine s' (il' a2) mv' ?_
 refine s' (.bool (decide (a1 = a2))) (V_eql rfl rfl) ?_
 refine na' ?_
 by_cases h9 : a1 = a2
 ·replace H:=g_ift h9 H
  refine SA_condT rfl h9 ?_
  refine qr' ?_
  refine s' (.slice A0 l0.length c0) mv' ?_
  refine s' (.slice A0 l0.length c0) as' ?_
  refine ntt' ?_
  have h_:=oi' H;subst h_
  exact b1' [0] ⟨A0,c0,rfl,rfl⟩
 replace H:=g_iff h9 H
 refine SA_condF rfl h9 ?_
 refine SA_skip (at_normal (qr' ?_))
 refine s' (.slice A0 l0.length c0) mv' ?_
 refine s' (il' (l0.length : Int)) (V_len Tryz.underlying29 rfl) ?_
 obtain⟨n10,hn10,H⟩:=g_lt H
 refine s' (il' n10) (V_assign (v:=il' n10) (congrArg (Value.int .i64) hn10.symm)) ?_
 refine na' (SA_seq ?_)
 refine SA_drawNq mixed (PanOk.thn PanOk.body) fun I0 hh0 w0 pk=>?_
 refine DN_take (v:=.slice A0 l0.length c0) 0 (by kernel_rfl) rfl rfl (.no rfl) pk rfl mv' ?_
 refine DN_take (v:=il' a1) 1 (by kernel_rfl) rfl rfl (.no rfl) pk rfl mv' ?_
 obtain⟨⟨g131,g132,g133⟩,H⟩:=g_pos H
 refine DN_take (v:=.slice (slA A0 (0 : Int) ((c0 : Nat) : Int) 1) (a1 - (0 : Int)).toNat (((c0 : Nat) : Int).toNat - (0 : Int).toNat)) 2 (by kernel_rfl) rfl rfl (.no rfl) pk rfl (V_sliceW (l:=0) (m:=(l0.length : Int)) (a:=(0 : Int)) (b:=a1) (q:=((c0 : Nat) : Int)) (Win.whole (A:=A0) (sz:=1) (xs:=l0) (c:=c0) (by omega)) Tryz.underlying29 sz3 rfl rfl rfl rfl (.inl ⟨rfl,rfl⟩) (.inr ⟨_,rfl⟩) (.inl ⟨rfl,rfl⟩) g131 g132 g133) ?_
 have hW136 : Win A0 (slA A0 (0 : Int) ((c0 : Nat) : Int) 1) 1 (0 + (0 : Int)) (a1 - (0 : Int)) (((c0 : Nat) : Int).toNat - (0 : Int).toNat):=Win.sub (Win.whole (A:=A0) (sz:=1) (xs:=l0) (c:=c0) (by omega)) g131 g132 g133 (.inl rfl) (Int.le_refl _)
 refine DN_take (v:=.slice A0 l0.length c0) 3 (by kernel_rfl) rfl rfl (.no rfl) pk rfl mv' ?_
 refine DN_take (v:=il' a2) 4 (by kernel_rfl) rfl rfl (.no rfl) pk rfl mv' ?_
 obtain⟨⟨g311,g312,g313⟩,H⟩:=g_pos H
 refine DN_take (v:=.slice (slA A0 a2 ((c0 : Nat) : Int) 1) ((l0.length : Int) - a2).toNat (((c0 : Nat) : Int).toNat - a2.toNat)) 5 (by kernel_rfl) rfl rfl (.no rfl) pk rfl (V_sliceW (l:=0) (m:=(l0.length : Int)) (a:=a2) (b:=(l0.length : Int)) (q:=((c0 : Nat) : Int)) (Win.whole (A:=A0) (sz:=1) (xs:=l0) (c:=c0) (by omega)) Tryz.underlying29 sz3 rfl rfl rfl rfl (.inr ⟨_,rfl⟩) (.inl ⟨rfl,rfl,rfl⟩) (.inl ⟨rfl,rfl⟩) g311 g312 g313) ?_
 have hW316 : Win A0 (slA A0 a2 ((c0 : Nat) : Int) 1) 1 (0 + a2) ((l0.length : Int) - a2) (((c0 : Nat) : Int).toNat - a2.toNat):=Win.sub (Win.whole (A:=A0) (sz:=1) (xs:=l0) (c:=c0) (by omega)) g311 g312 g313 (.inl rfl) (Int.le_refl _)
 obtain⟨g374,H⟩:=g_pos H
 obtain⟨n371,hn371,H⟩:=g_lt H
 have hq372l:=win_len (xs:=l0) hW316.lo hW316.no (by omega)
 have hq372 : (a1 - (0 : Int)) + ((sub l0 (0 + a2) ((0 + a2) + ((l0.length : Int) - a2))).length : Int) = (a1 - (0 : Int)) + ((l0.length : Int) - a2):=by omega
 have hl_n371 : n371.length = l0.length:=by rw [hn371]; exact over_len (by omega)
 have hW373 : Win A0 (slA A0 (0 : Int) ((c0 : Nat) : Int) 1) 1 (0 + (0 : Int)) ((a1 - (0 : Int)) + ((l0.length : Int) - a2)) (((c0 : Nat) : Int).toNat - (0 : Int).toNat):=Win.grow hW136 (by omega) (by omega)
 refine DN_one 6 (by kernel_rfl) rfl rfl (.no rfl) (OA_appW (k:=0) (l:=0 + (0 : Int)) (m:=a1 - (0 : Int)) (xs:=l0) (ys:=sub l0 (0 + a2) ((0 + a2) + ((l0.length : Int) - a2))) n371 hn371 hW136 rfl Tryz.underlying29 inf3 rfl rfl rfl rfl (Yld.win Tryz.underlying29 (Src.buf (k:=0) rfl) hW316 rfl (by omega)) (by omega) (by omega) (hq372 ▸ ?_))
 refine DN_take (v:=.slice (slA A0 (0 : Int) ((c0 : Nat) : Int) 1) ((a1 - (0 : Int)) + ((l0.length : Int) - a2)).toNat (((c0 : Nat) : Int).toNat - (0 : Int).toNat)) 7 (by kernel_rfl) rfl rfl (.no rfl) pk rfl as' ?_
 refine DN_done (by kernel_rfl) ?_
 refine at_normal (qr' ?_)
 refine s' (.slice (slA A0 (0 : Int) ((c0 : Nat) : Int) 1) ((a1 - (0 : Int)) + ((l0.length : Int) - a2)).toNat (((c0 : Nat) : Int).toNat - (0 : Int).toNat)) mv' ?_
 refine s' (.slice (slA A0 (0 : Int) ((c0 : Nat) : Int) 1) ((a1 - (0 : Int)) + ((l0.length : Int) - a2)).toNat (((c0 : Nat) : Int).toNat - (0 : Int).toNat)) mv' ?_
 refine s' (il' ((a1 - (0 : Int)) + ((l0.length : Int) - a2))) (V_lenW hW373 Tryz.underlying29 rfl) ?_
 refine s' (il' n10) mv' ?_
 obtain⟨⟨g492,g493,g498⟩,H⟩:=g_pos H
 refine s' (.slice (slA (slA A0 (0 : Int) ((c0 : Nat) : Int) 1) ((a1 - (0 : Int)) + ((l0.length : Int) - a2)) ((((c0 : Nat) : Int).toNat - (0 : Int).toNat : Nat) : Int) 1) (n10 - ((a1 - (0 : Int)) + ((l0.length : Int) - a2))).toNat (((((c0 : Nat) : Int).toNat - (0 : Int).toNat : Nat) : Int).toNat - ((a1 - (0 : Int)) + ((l0.length : Int) - a2)).toNat)) (V_sliceX (l:=0 + (0 : Int)) (m:=(a1 - (0 : Int)) + ((l0.length : Int) - a2)) (a:=(a1 - (0 : Int)) + ((l0.length : Int) - a2)) (b:=n10) (q:=((((c0 : Nat) : Int).toNat - (0 : Int).toNat : Nat) : Int)) hW373 Tryz.underlying29 sz3 rfl rfl rfl rfl (.inr ⟨_,rfl⟩) (.inr ⟨_,rfl⟩) g492 g493 (by omega)) ?_
 have hW497 : Win A0 (slA (slA A0 (0 : Int) ((c0 : Nat) : Int) 1) ((a1 - (0 : Int)) + ((l0.length : Int) - a2)) ((((c0 : Nat) : Int).toNat - (0 : Int).toNat : Nat) : Int) 1) 1 ((0 + (0 : Int)) + ((a1 - (0 : Int)) + ((l0.length : Int) - a2))) (n10 - ((a1 - (0 : Int)) + ((l0.length : Int) - a2))) (((((c0 : Nat) : Int).toNat - (0 : Int).toNat : Nat) : Int).toNat - ((a1 - (0 : Int)) + ((l0.length : Int) - a2)).toNat):=Win.sub (Win.grow hW373 (show 0 ≤ n10 by omega) (by omega)) g492 g493 (Int.le_refl _) (.inl rfl) (Int.le_refl _)
 obtain⟨g500,H⟩:=g_pos H
 obtain⟨n499,hn499,H⟩:=g_lt H
 have hl_n499 : n499.length = n371.length:=by rw [hn499]; exact over_len (by rw [List.length_replicate]; have:=hW497.lo; have:=hW497.no; omega)
 refine o' (OA_clearW (k:=0) (l:=(0 + (0 : Int)) + ((a1 - (0 : Int)) + ((l0.length : Int) - a2))) (m:=n10 - ((a1 - (0 : Int)) + ((l0.length : Int) - a2))) (xs:=n371) (z0:=0) n499 hn499 hW497 rfl Tryz.underlying29 zero3 rfl rfl rfl (fun _=>rfl) (by omega) ?_)
 refine na' ?_
 refine SA.of_St (l:=[(0,.slice (slA A0 (0 : Int) ((c0 : Nat) : Int) 1) ((a1 - (0 : Int)) + ((l0.length : Int) - a2)).toNat (((c0 : Nat) : Int).toNat - (0 : Int).toNat))]) (B:=[bl' 3 A0 c0 n499]) (St.mk1 (aeq rfl aeq0) (Gh.sel [0] (by kernel_rfl) (by kernel_rfl))) fun junk=>?_
 refine qr' ?_
 refine s' (.slice (slA A0 (0 : Int) ((c0 : Nat) : Int) 1) ((a1 - (0 : Int)) + ((l0.length : Int) - a2)).toNat (((c0 : Nat) : Int).toNat - (0 : Int).toNat)) mv' ?_
 refine s' (.slice (slA A0 (0 : Int) ((c0 : Nat) : Int) 1) ((a1 - (0 : Int)) + ((l0.length : Int) - a2)).toNat (((c0 : Nat) : Int).toNat - (0 : Int).toNat)) as' ?_
 refine nt' ?_
 have hln_ : (n499.take ((a1 - (0 : Int)) + ((l0.length : Int) - a2)).toNat).length = ((a1 - (0 : Int)) + ((l0.length : Int) - a2)).toNat:=by rw [List.length_take]; have:=hW373.no; omega
 have hva_ : slA A0 (0 : Int) ((c0 : Nat) : Int) 1 = A0:=by simp only [slA_zero]
 have hvc_ : ((c0 : Nat) : Int).toNat - (0 : Int).toNat = c0:=by omega
 have h_:=oi' H;subst h_
 exact BQ_R1 [bl' 3 A0 c0 (n499.take ((a1 - (0 : Int)) + ((l0.length : Int) - a2)).toNat)] rfl (by show (.slice (slA A0 (0 : Int) ((c0 : Nat) : Int) 1) ((a1 - (0 : Int)) + ((l0.length : Int) - a2)).toNat (((c0 : Nat) : Int).toNat - (0 : Int).toNat) : Value) = _; rw [hln_,hva_,hvc_]) ((Gh_trunc (k:=0) (((a1 - (0 : Int)) + ((l0.length : Int) - a2)).toNat) rfl).trans (gs' [0])) ⟨A0,c0,rfl,rfl⟩

end Go.Proofs.YtckilbegmbaeeaaGreat.Z4

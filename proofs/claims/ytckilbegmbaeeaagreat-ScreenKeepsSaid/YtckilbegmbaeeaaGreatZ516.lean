/- What functions compute, and that they do: 14, 54, 55. -/
import Derived.Test.YtckilbegmbaeeaaGreatZ50
import Derived.Test.YtckilbegmbaeeaaGreatZ51
import Derived.Test.YtckilbegmbaeeaaGreatZ56
import Derived.Test.YtckilbegmbaeeaaGreatZ515
namespace Go.Proofs.YtckilbegmbaeeaaGreat.Z5
open Go Go.RowKit Go.Proofs.YtckilbegmbaeeaaGreat.SL
set_option linter.unusedVariables false
set_option maxHeartbeats 20000000
set_option maxRecDepth 100000
set_option linter.unusedSimpArgs false
attribute [local irreducible] IntKind.wrap minI maxI shrI shlI andI orI xorI andNotI cplI rd sub bytesOf strOf slA
variable {c0_0 k : Nat}
variable {A0_0 : Option Addr}
def F14.l0 : Nat → S34 → Int → Int → Option (S34 × Int)
  | 0,_,_,_=>none
  | k + 1,x1_29,x2_29,x3_29=>lt ((decide (x3_29 ≤ 100)) && (decide (x2_29 = 0))) fun q45=>if q45 = true then ((F27.f k x1_29 x3_29).bind (fun r49=>lt (IntKind.i32.wrap (x3_29 + 1)) fun n62=>F14.l0 k r49.1 r49.2 n62)) else (some (x1_29,x2_29))
def F14.f (k : Nat)  : Option (Bool):=(F8.f k 3 2).bind (fun r1=>(F14.l0 k r1.1 r1.2 97 : Option (S34 × Int)).bind (fun t16=>lt ((decide (t16.2 = 0)) && (decide (t16.1.f1 = 1))) fun q65=>lt (q65 && (decide (t16.1.f2 = 1))) fun q68=>lt (q68 && (decide ((t16.1.f0.f2.length : Int) = 6))) fun q71=>(if q71 = true then (if 0 ≤ (2 : Int)∧(2 : Int) < (t16.1.f0.f2.length : Int) then (some (decide (((rd t16.1.f0.f2 (2 : Int)).f0) = 99))) else none) else (some false) : Option Bool).bind (fun q74=>(if q74 = true then (if 0 ≤ (3 : Int)∧(3 : Int) < (t16.1.f0.f2.length : Int) then (some (decide (((rd t16.1.f0.f2 (3 : Int)).f0) = 100))) else none) else (some false) : Option Bool).bind (fun q79=>lt (q79 && t16.1.f8) fun q84=>lt (q84 && t16.1.f13) fun q87=>some (q87)))))
theorem F14.ok  {r : Bool} (H : F14.f k  = some r) : SCA Tryz.prog 14 #[] [] (fun v B=>v = .bool r∧B = []):=by
 refine SCA_of_body Tryz.func14 rfl rfl ?_
 unfold F14.f at H
 refine qr' ?_
 refine s' (.bool false) as' ?_
 refine nr' ?_
 obtain⟨r1,C90,H⟩:=g_bind H
 refine o' (ca' [] [] (xf' [il' 3,il' 2]) (F8.ok (a0:=3) (a1:=2) C90) ?_)
 rintro _ _⟨A2,c3,A5,c6,A8,c9,A11,c12,rfl,rfl⟩
 refine s' (.tuple #[.agg (c34' r1.1 A2 c3 A5 c6 A8 c9 A11 c12).toArray,il' r1.2]) mv' ?_
 refine s' (.agg (c34' r1.1 A2 c3 A5 c6 A8 c9 A11 c12).toArray) ex' ?_
 refine s' (il' r1.2) ex' ?_
 refine o' (al' fun b14=>?_)
 refine o' (su' b14 0 4 (c34' r1.1 A2 c3 A5 c6 A8 c9 A11 c12) ?_)
 refine s' (il' r1.2) as' ?_
 refine nq' ?_
 refine s' (iw' 97) as' ?_
 refine na' ?_
 obtain⟨t16,H,Bt16⟩:=g_bind H
 refine SA_mid (fun e ds As=>∃ (b17 : Nat),∃ (A18 : Option Addr) (c19 : Nat),∃ (A21 : Option Addr) (c22 : Nat),∃ (A24 : Option Addr) (c25 : Nat),∃ (A27 : Option Addr) (c28 : Nat),St [(1,pt' b17),(2,il' t16.2)] [Blk b17 34 (c34' t16.1 A18 c19 A21 c22 A24 c25 A27 c28),Buf k55 55 A18 c19 t16.1.f0.f2,bl' 3 A21 c22 t16.1.f7,Buf k55 55 A24 c25 t16.1.f16.f2,bw' 21 A27 c28 t16.1.f17] e ds As) ?_ ?_
 ·refine SA_block ?_
  refine SA_loop (fun k_ e ds As=>∃ (x1_29 : S34) (x2_29 : Int) (x3_29 : Int),∃ (b30 : Nat),∃ (A31 : Option Addr) (c32 : Nat),∃ (A34 : Option Addr) (c35 : Nat),∃ (A37 : Option Addr) (c38 : Nat),∃ (A40 : Option Addr) (c41 : Nat),F14.l0 k_ x1_29 x2_29 x3_29 = some t16∧St [(1,pt' b30),(2,il' x2_29),(3,iw' x3_29)] [Blk b30 34 (c34' x1_29 A31 c32 A34 c35 A37 c38 A40 c41),Buf k55 55 A31 c32 x1_29.f0.f2,bl' 3 A34 c35 x1_29.f7,Buf k55 55 A37 c38 x1_29.f16.f2,bw' 21 A40 c41 x1_29.f17] e ds As) (k:=k) ⟨_,_,_,b14,A2,c3,A5,c6,A8,c9,A11,c12,H,sq' [4,0,1,2,3]⟩ ?_
  clear H
  rintro k43 e ds As ⟨x1_29,x2_29,x3_29,b30,A31,c32,A34,c35,A37,c38,A40,c41,H,hst44⟩
  obtain _ | k43:=k43
  ·cases H
  rw [F14.l0] at H
  refine SA.of_St hst44 fun junk=>?_
  refine SA_seq (qr' ?_)
  refine s' (iw' x3_29) mv' ?_
  refine s' (.bool (decide (x3_29 ≤ 100))) (V_leq rfl rfl) ?_
  refine s' (.bool (decide (x3_29 ≤ 100))) mv' ?_
  obtain⟨q45,hq45,H⟩:=g_lt H
  refine RA_cut 3 (fun e ds As=>St [(1,pt' b30),(2,il' x2_29),(3,iw' x3_29),(13,.bool q45)] [Blk b30 34 (c34' x1_29 A31 c32 A34 c35 A37 c38 A40 c41),Buf k55 55 A31 c32 x1_29.f0.f2,bl' 3 A34 c35 x1_29.f7,Buf k55 55 A37 c38 x1_29.f16.f2,bw' 21 A40 c41 x1_29.f17] e ds As) ?_ ?_
  ·by_cases h46 : x3_29 ≤ 100
   ·refine y' (dec_t h46) (il' x2_29) mv' ?_
    refine y' (dec_t h46) (.bool (decide (x2_29 = 0))) (V_eql rfl rfl) ?_
    refine pT' (dec_t h46) ?_
    refine RA_nil ?_
    exact at_normal (St.mk1 (aeq rfl (aeq rfl (aeq rfl (aeq (congrArg Value.bool (and_t hq45 (dec_t h46))) aeq0)))) (gs' [0,1,2,3,4]))
   refine no' 2 (dec_f h46) ?_
   refine pF' (dec_f h46) ?_
   refine RA_nil ?_
   exact at_normal (St.mk1 (aeq rfl (aeq rfl (aeq rfl (aeq (congrArg Value.bool (and_f hq45 (dec_f h46))) aeq0)))) (gs' [0,1,2,3,4]))
  rintro e ds As hst47
  refine na' ?_
  refine SA.of_St hst47 fun junk=>?_
  by_cases h48 : q45 = true
  ·replace H:=g_ift h48 H
   refine SA_condTb rfl h48 ?_
   refine SA_skip (at_normal (SA_seq (SA_block (SA_region ?_))))
   refine l' (lA' b30 0 0 (c34' x1_29 A31 c32 A34 c35 A37 c38 A40 c41)) ?_
   refine s' (iw' x3_29) mv' ?_
   obtain⟨r49,C63,H⟩:=g_bind H
   refine o' (OA.ghost (Gh.freeze (k:=1) rfl) (OA.ghost (Gh.freeze (k:=2) rfl) (OA.ghost (Gh.freeze (k:=3) rfl) (OA.ghost (Gh.freeze (k:=4) rfl) (ca' [1,2,3,4] [0,1,2,3,4] (xf' [.agg (c34' x1_29 A31 c32 A34 c35 A37 c38 A40 c41).toArray,iw' x3_29]) (F27.ok (a0:=x1_29) (a1:=x3_29) C63) ?_)))))
   rintro _ _⟨A50,c51,A53,c54,A56,c57,A59,c60,rfl,rfl⟩
   refine s' (.tuple #[.agg (c34' r49.1 A50 c51 A53 c54 A56 c57 A59 c60).toArray,il' r49.2]) mv' ?_
   refine s' (.agg (c34' r49.1 A50 c51 A53 c54 A56 c57 A59 c60).toArray) ex' ?_
   refine s' (il' r49.2) ex' ?_
   refine o' (su' b30 0 4 (c34' r49.1 A50 c51 A53 c54 A56 c57 A59 c60) ?_)
   refine s' (il' r49.2) as' ?_
   refine RA_nil (inb_normal (at_normal (SA_region ?_)))
   refine s' (iw' x3_29) mv' ?_
   refine s' (iw' (IntKind.i32.wrap (x3_29 + 1))) (V_add rfl rfl) ?_
   obtain⟨n62,hn62,H⟩:=g_lt H
   refine s' (iw' n62) (V_assign (v:=iw' n62) (congrArg (Value.int .i32) hn62.symm)) ?_
   refine RA_nil ?_
   exact at_normal ⟨k43,Nat.lt_succ_self _,_,_,_,b30,A50,c51,A53,c54,A56,c57,A59,c60,H,sq' [4,0,1,2,3]⟩
  replace H:=g_iff h48 H
  refine SA_condFb rfl h48 ?_
  refine SA_exit (thn_exit (thn_exit (inb_hit ?_)))
  have h_:=oi' H;subst h_
  exact at_normal ⟨b30,A31,c32,A34,c35,A37,c38,A40,c41,sq' [0,1,2,3,4]⟩
 rintro e ds As ⟨b17,A18,c19,A21,c22,A24,c25,A27,c28,hst64⟩
 clear H
 have H:=Bt16
 clear Bt16
 refine at_normal ?_
 refine SA.of_St hst64 fun junk=>?_
 refine qr' ?_
 refine s' (il' t16.2) mv' ?_
 refine s' (.bool (decide (t16.2 = 0))) (V_eql rfl rfl) ?_
 refine s' (.bool (decide (t16.2 = 0))) mv' ?_
 obtain⟨q65,hq65,H⟩:=g_lt H
 refine cR' 4 [(1,pt' b17),(28,.bool q65)] [Blk b17 34 (c34' t16.1 A18 c19 A21 c22 A24 c25 A27 c28),Buf k55 55 A18 c19 t16.1.f0.f2,bl' 3 A21 c22 t16.1.f7,Buf k55 55 A24 c25 t16.1.f16.f2,bw' 21 A27 c28 t16.1.f17] ?_ fun junk=>?_
 ·by_cases h66 : t16.2 = 0
  ·refine y' (dec_t h66) (pa' b17 3) (fa' b17 0 3) ?_
   refine z' (dec_t h66) (ld' b17 3 0) ?_
   refine y' (dec_t h66) (.bool (decide (t16.1.f1 = 1))) (V_eql rfl rfl) ?_
   refine pT' (dec_t h66) ?_
   refine RA_nil ?_
   exact at_normal (St.mk1 (aeq rfl (aeq (congrArg Value.bool (and_t hq65 (dec_t h66))) aeq0)) (gs' [0,1,2,3,4]))
  refine no' 3 (dec_f h66) ?_
  refine pF' (dec_f h66) ?_
  refine RA_nil ?_
  exact at_normal (St.mk1 (aeq rfl (aeq (congrArg Value.bool (and_f hq65 (dec_f h66))) aeq0)) (gs' [0,1,2,3,4]))
 refine s' (.bool q65) mv' ?_
 obtain⟨q68,hq68,H⟩:=g_lt H
 refine cR' 4 [(1,pt' b17),(33,.bool q68)] [Blk b17 34 (c34' t16.1 A18 c19 A21 c22 A24 c25 A27 c28),Buf k55 55 A18 c19 t16.1.f0.f2,bl' 3 A21 c22 t16.1.f7,Buf k55 55 A24 c25 t16.1.f16.f2,bw' 21 A27 c28 t16.1.f17] ?_ fun junk=>?_
 ·by_cases h69 : q65 = true
  ·refine y' h69 (pa' b17 4) (fa' b17 0 4) ?_
   refine z' h69 (ld' b17 4 0) ?_
   refine y' h69 (.bool (decide (t16.1.f2 = 1))) (V_eql rfl rfl) ?_
   refine pT' h69 ?_
   refine RA_nil ?_
   exact at_normal (St.mk1 (aeq rfl (aeq (congrArg Value.bool (and_t hq68 (h69))) aeq0)) (gs' [0,1,2,3,4]))
  refine no' 3 (bno h69) ?_
  refine pF' (bno h69) ?_
  refine RA_nil ?_
  exact at_normal (St.mk1 (aeq rfl (aeq (congrArg Value.bool (and_f hq68 (bno h69))) aeq0)) (gs' [0,1,2,3,4]))
 refine s' (.bool q68) mv' ?_
 obtain⟨q71,hq71,H⟩:=g_lt H
 refine cR' 6 [(1,pt' b17),(40,.bool q71)] [Blk b17 34 (c34' t16.1 A18 c19 A21 c22 A24 c25 A27 c28),Buf k55 55 A18 c19 t16.1.f0.f2,bl' 3 A21 c22 t16.1.f7,Buf k55 55 A24 c25 t16.1.f16.f2,bw' 21 A27 c28 t16.1.f17] ?_ fun junk=>?_
 ·by_cases h72 : q68 = true
  ·refine y' h72 (pt' b17) (fa' b17 0 0) ?_
   refine y' h72 (pa' b17 2) (fa' b17 0 2) ?_
   refine z' h72 (ld' b17 2 0) ?_
   refine y' h72 (il' (t16.1.f0.f2.length : Int)) (V_len Tryz.underlying24 rfl) ?_
   refine y' h72 (.bool (decide ((t16.1.f0.f2.length : Int) = 6))) (V_eql rfl rfl) ?_
   refine pT' h72 ?_
   refine RA_nil ?_
   exact at_normal (St.mk1 (aeq rfl (aeq (congrArg Value.bool (and_t hq71 (h72))) aeq0)) (gs' [0,1,2,3,4]))
  refine no' 5 (bno h72) ?_
  refine pF' (bno h72) ?_
  refine RA_nil ?_
  exact at_normal (St.mk1 (aeq rfl (aeq (congrArg Value.bool (and_f hq71 (bno h72))) aeq0)) (gs' [0,1,2,3,4]))
 refine s' (.bool q71) mv' ?_
 obtain⟨q74,H,Bq74⟩:=g_bind H
 refine cR' 8 [(1,pt' b17),(49,.bool q74)] [Blk b17 34 (c34' t16.1 A18 c19 A21 c22 A24 c25 A27 c28),Buf k55 55 A18 c19 t16.1.f0.f2,bl' 3 A21 c22 t16.1.f7,Buf k55 55 A24 c25 t16.1.f16.f2,bw' 21 A27 c28 t16.1.f17] ?_ fun junk=>?_
 ·by_cases h75 : q71 = true
  ·replace H:=g_ift h75 H
   refine y' h75 (pt' b17) (fa' b17 0 0) ?_
   refine y' h75 (pa' b17 2) (fa' b17 0 2) ?_
   refine z' h75 (ld' b17 2 0) ?_
   obtain⟨⟨g76,g77⟩,H⟩:=g_pos H
   refine z' h75 (VR_index (i:=(2 : Int)) Tryz.underlying24 sz55 rfl rfl (Src.buf (k:=1) rfl) g76 g77) ?_
   refine y' h75 (.pointer (some ((el A18 ((2 : Int).toNat * 15)).add 0))) (fB' (el A18 ((2 : Int).toNat * 15)) 0 0) ?_
   refine z' h75 (VR_load_el (enc:=enc55) (i:=(2 : Int)) (j:=(2 : Int).toNat * 15) (m:=0) (sz:=15) Tryz.underlying21 rfl rfl rfl rfl (Src.buf (k:=1) rfl) g76 g77 (fun _ _ h=>h) rfl) ?_
   refine y' h75 (.bool (decide (((rd t16.1.f0.f2 (2 : Int)).f0) = 99))) (V_eql rfl rfl) ?_
   refine pT' h75 ?_
   have h_:=oi' H;subst h_
   exact rm' [0,1,2,3,4]
  replace H:=g_iff h75 H
  refine no' 7 (bno h75) ?_
  refine pF' (bno h75) ?_
  have h_:=oi' H;subst h_
  exact rm' [0,1,2,3,4]
 replace H:=Bq74
 refine s' (.bool q74) mv' ?_
 obtain⟨q79,H,Bq79⟩:=g_bind H
 refine cR' 8 [(1,pt' b17),(58,.bool q79)] [Blk b17 34 (c34' t16.1 A18 c19 A21 c22 A24 c25 A27 c28),Buf k55 55 A18 c19 t16.1.f0.f2,bl' 3 A21 c22 t16.1.f7,Buf k55 55 A24 c25 t16.1.f16.f2,bw' 21 A27 c28 t16.1.f17] ?_ fun junk=>?_
 ·by_cases h80 : q74 = true
  ·replace H:=g_ift h80 H
   refine y' h80 (pt' b17) (fa' b17 0 0) ?_
   refine y' h80 (pa' b17 2) (fa' b17 0 2) ?_
   refine z' h80 (ld' b17 2 0) ?_
   obtain⟨⟨g81,g82⟩,H⟩:=g_pos H
   refine z' h80 (VR_index (i:=(3 : Int)) Tryz.underlying24 sz55 rfl rfl (Src.buf (k:=1) rfl) g81 g82) ?_
   refine y' h80 (.pointer (some ((el A18 ((3 : Int).toNat * 15)).add 0))) (fB' (el A18 ((3 : Int).toNat * 15)) 0 0) ?_
   refine z' h80 (VR_load_el (enc:=enc55) (i:=(3 : Int)) (j:=(3 : Int).toNat * 15) (m:=0) (sz:=15) Tryz.underlying21 rfl rfl rfl rfl (Src.buf (k:=1) rfl) g81 g82 (fun _ _ h=>h) rfl) ?_
   refine y' h80 (.bool (decide (((rd t16.1.f0.f2 (3 : Int)).f0) = 100))) (V_eql rfl rfl) ?_
   refine pT' h80 ?_
   have h_:=oi' H;subst h_
   exact rm' [0,1,2,3,4]
  replace H:=g_iff h80 H
  refine no' 7 (bno h80) ?_
  refine pF' (bno h80) ?_
  have h_:=oi' H;subst h_
  exact rm' [0,1,2,3,4]
 replace H:=Bq79
 refine s' (.bool q79) mv' ?_
 obtain⟨q84,hq84,H⟩:=g_lt H
 refine cR' 3 [(1,pt' b17),(62,.bool q84)] [Blk b17 34 (c34' t16.1 A18 c19 A21 c22 A24 c25 A27 c28),Buf k55 55 A18 c19 t16.1.f0.f2,bl' 3 A21 c22 t16.1.f7,Buf k55 55 A24 c25 t16.1.f16.f2,bw' 21 A27 c28 t16.1.f17] ?_ fun junk=>?_
 ·by_cases h85 : q79 = true
  ·refine y' h85 (pa' b17 19) (fa' b17 0 19) ?_
   refine z' h85 (ld' b17 19 0) ?_
   refine pT' h85 ?_
   refine RA_nil ?_
   exact at_normal (St.mk1 (aeq rfl (aeq (congrArg Value.bool (and_t hq84 (h85))) aeq0)) (gs' [0,1,2,3,4]))
  refine no' 2 (bno h85) ?_
  refine pF' (bno h85) ?_
  refine RA_nil ?_
  exact at_normal (St.mk1 (aeq rfl (aeq (congrArg Value.bool (and_f hq84 (bno h85))) aeq0)) (gs' [0,1,2,3,4]))
 refine s' (.bool q84) mv' ?_
 obtain⟨q87,hq87,H⟩:=g_lt H
 refine cR' 3 [(66,.bool q87)] [] ?_ fun junk=>?_
 ·by_cases h88 : q84 = true
  ·refine y' h88 (pa' b17 24) (fa' b17 0 24) ?_
   refine z' h88 (ld' b17 24 0) ?_
   refine pT' h88 ?_
   refine RA_nil ?_
   exact at_normal (St.mk1 (aeq (congrArg Value.bool (and_t hq87 (h88))) aeq0) (gs' []))
  refine no' 2 (bno h88) ?_
  refine pF' (bno h88) ?_
  refine RA_nil ?_
  exact at_normal (St.mk1 (aeq (congrArg Value.bool (and_f hq87 (bno h88))) aeq0) (gs' []))
 refine s' (.bool q87) as' ?_
 refine nt' ?_
 have h_:=oi' H;subst h_
 exact b1' [] ⟨rfl,rfl⟩


theorem F54.ok {a0 : S26} {r : Bool} (H : F54b0.f k a0 = some r) : SCA Tryz.prog 54 #[.agg #[il' a0.f0,il' a0.f1,.slice A0_0 a0.f2.length c0_0]] [Ro k55 A0_0 c0_0 a0.f2] (fun v B=>v = .bool r∧B = []):=by
 refine SCA_of_body Tryz.func54 rfl rfl ?_
 unfold F54b0.f at H
 refine qr' ?_
 refine o' (bx' fun b2=>?_)
 refine s' (.bool false) as' ?_
 refine nq' ?_
 refine s' (pt' b2) (fa' b2 0 0) ?_
 refine l' (ld' b2 0 1) ?_
 obtain⟨r4,C2743,H⟩:=g_bind H
 refine o' (ca' [] [0,1] (xf' [il' a0.f0]) (F70.ok (a0:=a0.f0) C2743) ?_)
 rintro _ _⟨rfl,rfl⟩
 refine s' (.bool (!r4)) (V_not rfl) ?_
 refine s' (.bool (!r4)) mv' ?_
 obtain⟨q5,H,Bq5⟩:=g_bind H
 refine cR' 5 [(1,pt' b2),(14,.bool q5)] [Blk b2 26 [il' a0.f0,il' a0.f1,.slice A0_0 a0.f2.length c0_0],Ro k55 A0_0 c0_0 a0.f2] ?_ fun junk=>?_
 ·by_cases h6 : (!r4) = true
  ·replace H:=g_ift h6 H
   refine no' 4 h6 ?_
   refine pT' h6 ?_
   have h_:=oi' H;subst h_
   exact rm' [1,0]
  replace H:=g_iff h6 H
  refine y' (bno h6) (pa' b2 1) (fa' b2 0 1) ?_
  refine z' (bno h6) (ld' b2 1 1) ?_
  obtain⟨r7,C8,H⟩:=g_bind H
  refine yo' (bno h6) (ca' [] [0,1] (xf' [il' a0.f1]) (F70.ok (a0:=a0.f1) C8) ?_)
  rintro _ _⟨rfl,rfl⟩
  refine y' (bno h6) (.bool (!r7)) (V_not rfl) ?_
  refine pF' (bno h6) ?_
  have h_:=oi' H;subst h_
  exact rm' [1,0]
 replace H:=Bq5
 refine s' (.bool q5) mv' ?_
 obtain⟨q10,hq10,H⟩:=g_lt H
 refine RA_cut 10 (fun e ds As=>St [(1,pt' b2),(25,.bool q10)] [Blk b2 26 [il' a0.f0,il' a0.f1,.slice A0_0 a0.f2.length c0_0],Ro k55 A0_0 c0_0 a0.f2] e ds As) ?_ ?_
 ·by_cases h11 : q5 = true
  ·refine no' 9 h11 ?_
   refine pT' h11 ?_
   refine RA_nil ?_
   exact at_normal (St.mk1 (aeq rfl (aeq (congrArg Value.bool (or_t hq10 (h11))) aeq0)) (gs' [0,1]))
  refine y' (bno h11) (pa' b2 2) (fa' b2 0 2) ?_
  refine z' (bno h11) (ld' b2 2 0) ?_
  refine y' (bno h11) (il' (a0.f2.length : Int)) (V_len Tryz.underlying24 rfl) ?_
  refine y' (bno h11) (pt' b2) (fa' b2 0 0) ?_
  refine z' (bno h11) (ld' b2 0 0) ?_
  refine y' (bno h11) (pa' b2 1) (fa' b2 0 1) ?_
  refine z' (bno h11) (ld' b2 1 0) ?_
  refine y' (bno h11) (il' (IntKind.i64.wrap (a0.f0 * a0.f1))) (V_mul rfl rfl) ?_
  refine y' (bno h11) (.bool (decide ((a0.f2.length : Int) ≠ (IntKind.i64.wrap (a0.f0 * a0.f1))))) (V_neq rfl rfl) ?_
  refine pF' (bno h11) ?_
  refine RA_nil ?_
  exact at_normal (St.mk1 (aeq rfl (aeq (congrArg Value.bool (or_f hq10 (bno h11))) aeq0)) (gs' [0,1]))
 rintro e ds As hst12
 refine na' ?_
 refine SA.of_St hst12 fun junk=>?_
 by_cases h13 : q10 = true
 ·replace H:=g_ift h13 H
  refine SA_condTb rfl h13 ?_
  refine qr' ?_
  refine s' (.bool false) as' ?_
  refine ntt' ?_
  have h_:=oi' H;subst h_
  exact b1' [] ⟨rfl,rfl⟩
 replace H:=g_iff h13 H
 refine SA_condFb rfl h13 ?_
 refine SA_skip (at_normal (SA_seq (qr' ?_)))
 refine s' (il' 0) as' ?_
 refine na' ?_
 obtain⟨t14,H,Bt14⟩:=g_bind H
 refine SA_mid (fun e ds As=>∃ (s15 : Unit),t14 = Out.go s15∧St [] [] e ds As) ?_ ?_
 ·refine SA_block ?_
  refine SA_loop (fun k_ e ds As=>∃ (x3_15 : Int),F54b0.l0 a0 k_ x3_15 = some t14∧St [(1,pt' b2),(3,il' x3_15)] [Blk b2 26 [il' a0.f0,il' a0.f1,.slice A0_0 a0.f2.length c0_0],Ro k55 A0_0 c0_0 a0.f2] e ds As) (k:=k) ⟨_,H,sq' [0,1]⟩ ?_
  clear H
  rintro k16 e ds As ⟨x3_15,H,hst17⟩
  obtain _ | k16:=k16
  ·cases H
  rw [F54b0.l0] at H
  refine SA.of_St hst17 fun junk=>?_
  refine SA_seq (qr' ?_)
  refine s' (il' x3_15) mv' ?_
  refine s' (pa' b2 2) (fa' b2 0 2) ?_
  refine l' (ld' b2 2 0) ?_
  refine s' (il' (a0.f2.length : Int)) (V_len Tryz.underlying24 rfl) ?_
  refine s' (.bool (decide (x3_15 < (a0.f2.length : Int)))) (V_lss rfl rfl) ?_
  refine na' ?_
  by_cases h18 : x3_15 < (a0.f2.length : Int)
  ·replace H:=g_ift h18 H
   refine SA_condT rfl h18 ?_
   refine SA_skip (at_normal (SA_seq (SA_block (SA_seq (qr' ?_)))))
   refine s' (pa' b2 2) (fa' b2 0 2) ?_
   refine l' (ld' b2 2 0) ?_
   refine s' (il' x3_15) mv' ?_
   obtain⟨⟨g19,g20⟩,H⟩:=g_pos H
   refine l' (VR_index (i:=x3_15) Tryz.underlying24 sz55 rfl rfl (Src.ro (k:=1) rfl) g19 g20) ?_
   refine l' (VR_loadA_el (enc:=enc55) (i:=x3_15) (j:=x3_15.toNat * 15) (m:=0) (sz:=15) (vs:=(c55' (S55.mk ((rd a0.f2 x3_15).f0) ((rd a0.f2 x3_15).f1) ((rd a0.f2 x3_15).f2) ((rd a0.f2 x3_15).f3)))) Tryz.underlying55 rfl sz55 rfl rfl rfl (Src.ro (k:=1) rfl) g19 g20 (fun _ _ h=>h) rfl) ?_
   obtain⟨r21,C2741,H⟩:=g_bind H
   refine o' (ca' [] [0,1] (xf' [.agg (c55' (S55.mk ((rd a0.f2 x3_15).f0) ((rd a0.f2 x3_15).f1) ((rd a0.f2 x3_15).f2) ((rd a0.f2 x3_15).f3))).toArray]) (F110.ok (a0:=rd a0.f2 x3_15) C2741) ?_)
   rintro _ _⟨rfl,rfl⟩
   refine s' (.bool (!r21)) (V_not rfl) ?_
   refine na' ?_
   by_cases h22 : (!r21) = true
   ·replace H:=g_ift h22 H
    refine SA_condTb rfl h22 ?_
    refine qr' ?_
    refine s' (.bool false) as' ?_
    refine ntt' (inb_ret (thn_ret (thn_ret (inb_ret (thn_ret (thn_ret ?_))))))
    have h_:=oi' H;subst h_
    have hb_:=el_ret Bt14
    have hr_:=Option.some.inj hb_
    clear hb_
    subst hr_
    exact b1' [] ⟨rfl,rfl⟩
   replace H:=g_iff h22 H
   refine SA_condFb rfl h22 ?_
   refine SA_skip (at_normal (qr' ?_))
   refine s' (il' x3_15) mv' ?_
   refine s' (pt' b2) (fa' b2 0 0) ?_
   refine l' (ld' b2 0 0) ?_
   obtain⟨g23,H⟩:=g_pos H
   refine s' (il' (x3_15.tmod a0.f0)) (V_rem rfl rfl g23) ?_
   refine s' (.bool (decide ((x3_15.tmod a0.f0) > 0))) (V_gtr rfl rfl) ?_
   refine s' (.bool (decide ((x3_15.tmod a0.f0) > 0))) mv' ?_
   obtain⟨q24,H,Bq24⟩:=g_bind H
   refine cR' 9 [(1,pt' b2),(3,il' x3_15),(54,.bool q24)] [Blk b2 26 [il' a0.f0,il' a0.f1,.slice A0_0 a0.f2.length c0_0],Ro k55 A0_0 c0_0 a0.f2] ?_ fun junk=>?_
   ·by_cases h25 : (x3_15.tmod a0.f0) > 0
    ·replace H:=g_ift h25 H
     refine y' (dec_t h25) (pa' b2 2) (fa' b2 0 2) ?_
     refine z' (dec_t h25) (ld' b2 2 0) ?_
     refine y' (dec_t h25) (il' x3_15) mv' ?_
     refine y' (dec_t h25) (il' (IntKind.i64.wrap (x3_15 - 1))) (V_sub rfl rfl) ?_
     obtain⟨⟨g26,g27⟩,H⟩:=g_pos H
     refine z' (dec_t h25) (VR_index (i:=IntKind.i64.wrap (x3_15 - 1)) Tryz.underlying24 sz55 rfl rfl (Src.ro (k:=1) rfl) g26 g27) ?_
     refine y' (dec_t h25) (.pointer (some ((el A0_0 ((IntKind.i64.wrap (x3_15 - 1)).toNat * 15)).add 4))) (fB' (el A0_0 ((IntKind.i64.wrap (x3_15 - 1)).toNat * 15)) 0 4) ?_
     refine z' (dec_t h25) (VR_load_el (enc:=enc55) (i:=IntKind.i64.wrap (x3_15 - 1)) (j:=(IntKind.i64.wrap (x3_15 - 1)).toNat * 15) (m:=4) (sz:=15) Tryz.underlying5 rfl rfl rfl rfl (Src.ro (k:=1) rfl) g26 g27 (fun _ _ h=>h) rfl) ?_
     refine y' (dec_t h25) (.bool (decide (((rd a0.f2 (IntKind.i64.wrap (x3_15 - 1))).f2) = 2))) (V_eql rfl rfl) ?_
     refine pT' (dec_t h25) ?_
     have h_:=oi' H;subst h_
     exact rm' [0,1]
    replace H:=g_iff h25 H
    refine no' 8 (dec_f h25) ?_
    refine pF' (dec_f h25) ?_
    have h_:=oi' H;subst h_
    exact rm' [0,1]
   replace H:=Bq24
   refine s' (.bool q24) as' ?_
   refine na' (SA_seq (SA_seq ?_))
   obtain⟨t29,H,Bt29⟩:=g_bind H
   refine SA_mid (fun e ds As=>St [(1,pt' b2),(3,il' x3_15),(82,.bool t29)] [Blk b2 26 [il' a0.f0,il' a0.f1,.slice A0_0 a0.f2.length c0_0],Ro k55 A0_0 c0_0 a0.f2] e ds As) ?_ ?_
   ·refine SA_drawHq (rg' 0 28) (List.toArray ([]::[0]::[]::[0,1,2]::(rg' 0 4)::(rg' 0 5)::(rg' 0 6)::[]::(rg' 0 8)::(rg' 0 9)::(rg' 0 10)::(rg' 0 11)::(rg' 0 12)::(rg' 0 13)::(rg' 0 12)::(rg' 0 15)::(rg' 0 16)::(rg' 0 17)::(rg' 0 12)::(0::1::2::3::4::5::6::7::8::9::10::11::18::[])::(rg' 0 12)::(0::1::2::3::4::5::6::7::8::9::10::11::20::[])::(0::1::2::3::4::5::6::7::8::9::10::11::18::19::20::21::[])::(0::1::2::3::4::5::6::7::8::9::10::11::18::19::20::21::22::[])::(0::1::2::3::4::5::6::7::8::9::10::11::18::19::20::21::22::23::[])::(rg' 0 25)::(rg' 0 26)::(rg' 0 27)::[])) [0,1] [1] mixed rfl rfl rfl (PanOk.thn (PanOk.thn (PanOk.thn (PanOk.inb (PanOk.thn (PanOk.thn (PanOk.inb (PanOk.thn (PanOk.thn PanOk.body))))))))) fun I0 hS h0 hh0 w0 sH dd pk=>?_
    refine t' (pa' b2 2) 0 rfl sH (fa' b2 0 2) ?_
    refine r' 1 rfl sH (ld' b2 2 0) ?_
    refine t' (il' x3_15) 2 rfl sH mv' ?_
    obtain⟨⟨g210,g211⟩,H⟩:=g_pos H
    refine r' 3 rfl sH (VR_index (i:=x3_15) Tryz.underlying24 sz55 rfl rfl (Src.ro (k:=1) rfl) g210 g211) ?_
    refine t' (.pointer (some ((el A0_0 (x3_15.toNat * 15)).add 4))) 4 rfl sH (fB' (el A0_0 (x3_15.toNat * 15)) 0 4) ?_
    refine r' 5 rfl sH (VR_load_el (enc:=enc55) (i:=x3_15) (j:=x3_15.toNat * 15) (m:=4) (sz:=15) Tryz.underlying5 rfl rfl rfl rfl (Src.ro (k:=1) rfl) g210 g211 (fun _ _ h=>h) rfl) ?_
    refine t' (.bool (decide (((rd a0.f2 x3_15).f2) = 0))) 6 rfl sH (V_eql rfl rfl) ?_
    refine t' (.bool q24) 7 rfl sH mv' ?_
    refine t' (.bool (decide ((decide (((rd a0.f2 x3_15).f2) = 0)) ≠ q24))) 8 rfl sH (V_neqB Tryz.underlying4 rfl rfl) ?_
    refine t' (.bool (decide ((decide (((rd a0.f2 x3_15).f2) = 0)) ≠ q24))) 9 rfl sH mv' ?_
    by_cases h1711 : (decide (((rd a0.f2 x3_15).f2) = 0)) ≠ q24
    ·replace H:=g_ift h1711 H
     refine dn' 10 rfl (dec_t h1711) ?_
     refine dn' 11 rfl (dec_t h1711) ?_
     refine du' 12 rfl ?_
     refine du' 13 rfl ?_
     refine du' 14 rfl ?_
     refine du' 15 rfl ?_
     refine du' 16 rfl ?_
     refine du' 17 rfl ?_
     refine du' 18 rfl ?_
     refine du' 19 rfl ?_
     refine du' 20 rfl ?_
     refine du' 21 rfl ?_
     refine du' 22 rfl ?_
     refine du' 23 rfl ?_
     refine du' 24 rfl ?_
     refine du' 25 rfl ?_
     refine dn' 26 rfl (dec_t h1711) ?_
     refine r' 27 rfl sH (VR.ofV (V_pickT rfl (dec_t h1711) rfl)) ?_
     refine DH_open dd sH ?_
     refine DN_done (by kernel_rfl) ?_
     have h_:=oi' H;subst h_
     exact sm' [0,1]
    replace H:=g_iff h1711 H
    refine ty' (.bool q24) 10 rfl (dec_f h1711) sH mv' ?_
    refine ty' (.bool q24) 11 rfl (dec_f h1711) sH mv' ?_
    by_cases h1712 : q24 = true
    ·replace H:=g_ift h1712 H
     refine ty' (pa' b2 2) 12 rfl h1712 sH (fa' b2 0 2) ?_
     refine ry' 13 rfl h1712 sH (ld' b2 2 0) ?_
     refine ty' (il' x3_15) 14 rfl h1712 sH mv' ?_
     obtain⟨⟨g930,g931⟩,H⟩:=g_pos H
     refine ry' 15 rfl h1712 sH (VR_index (i:=x3_15) Tryz.underlying24 sz55 rfl rfl (Src.ro (k:=1) rfl) g930 g931) ?_
     refine ty' (.pointer (some ((el A0_0 (x3_15.toNat * 15)).add 5))) 16 rfl h1712 sH (fB' (el A0_0 (x3_15.toNat * 15)) 0 5) ?_
     refine ry' 17 rfl h1712 sH (VR_loadA_el (enc:=enc55) (i:=x3_15) (j:=x3_15.toNat * 15) (m:=5) (sz:=15) (vs:=(c28' ((rd a0.f2 x3_15).f3))) Tryz.underlying28 rfl sz28 rfl rfl rfl (Src.ro (k:=1) rfl) g930 g931 (fun _ _ h=>h) rfl) ?_
     refine ty' (pa' b2 2) 18 rfl h1712 sH (fa' b2 0 2) ?_
     refine ry' 19 rfl h1712 sH (ld' b2 2 0) ?_
     refine ty' (il' x3_15) 20 rfl h1712 sH mv' ?_
     refine ty' (il' (IntKind.i64.wrap (x3_15 - 1))) 21 rfl h1712 sH (V_sub rfl rfl) ?_
     obtain⟨⟨g1350,g1351⟩,H⟩:=g_pos H
     refine ry' 22 rfl h1712 sH (VR_index (i:=IntKind.i64.wrap (x3_15 - 1)) Tryz.underlying24 sz55 rfl rfl (Src.ro (k:=1) rfl) g1350 g1351) ?_
     refine ty' (.pointer (some ((el A0_0 ((IntKind.i64.wrap (x3_15 - 1)).toNat * 15)).add 5))) 23 rfl h1712 sH (fB' (el A0_0 ((IntKind.i64.wrap (x3_15 - 1)).toNat * 15)) 0 5) ?_
     refine ry' 24 rfl h1712 sH (VR_loadA_el (enc:=enc55) (i:=IntKind.i64.wrap (x3_15 - 1)) (j:=(IntKind.i64.wrap (x3_15 - 1)).toNat * 15) (m:=5) (sz:=15) (vs:=(c28' ((rd a0.f2 (IntKind.i64.wrap (x3_15 - 1))).f3))) Tryz.underlying28 rfl sz28 rfl rfl rfl (Src.ro (k:=1) rfl) g1350 g1351 (fun _ _ h=>h) rfl) ?_
     refine ty' (.bool (decide (((rd a0.f2 x3_15).f3) ≠ ((rd a0.f2 (IntKind.i64.wrap (x3_15 - 1))).f3)))) 25 rfl h1712 sH (V_neqD (xs:=(c28' ((rd a0.f2 x3_15).f3))) (ys:=(c28' ((rd a0.f2 (IntKind.i64.wrap (x3_15 - 1))).f3))) (r:=(((((rd a0.f2 x3_15).f3).f0) == (((rd a0.f2 (IntKind.i64.wrap (x3_15 - 1))).f3).f0)) && (((((rd a0.f2 x3_15).f3).f1) == (((rd a0.f2 (IntKind.i64.wrap (x3_15 - 1))).f3).f1)) && (((((rd a0.f2 x3_15).f3).f2) == (((rd a0.f2 (IntKind.i64.wrap (x3_15 - 1))).f3).f2)) && (((((rd a0.f2 x3_15).f3).f3) == (((rd a0.f2 (IntKind.i64.wrap (x3_15 - 1))).f3).f3)) && (((((rd a0.f2 x3_15).f3).f4) == (((rd a0.f2 (IntKind.i64.wrap (x3_15 - 1))).f3).f4)) && (((((rd a0.f2 x3_15).f3).f5) == (((rd a0.f2 (IntKind.i64.wrap (x3_15 - 1))).f3).f5)) && (((((rd a0.f2 x3_15).f3).f6) == (((rd a0.f2 (IntKind.i64.wrap (x3_15 - 1))).f3).f6)) && (((((rd a0.f2 x3_15).f3).f7) == (((rd a0.f2 (IntKind.i64.wrap (x3_15 - 1))).f3).f7)) && (((((rd a0.f2 x3_15).f3).f8) == (((rd a0.f2 (IntKind.i64.wrap (x3_15 - 1))).f3).f8)) && (((((rd a0.f2 x3_15).f3).f9) == (((rd a0.f2 (IntKind.i64.wrap (x3_15 - 1))).f3).f9)) && true))))))))))) (p:=((rd a0.f2 x3_15).f3) = ((rd a0.f2 (IntKind.i64.wrap (x3_15 - 1))).f3)) eqg28 rfl rfl (by kernel_rfl) (eqv28 (x:=((rd a0.f2 x3_15).f3)) (y:=((rd a0.f2 (IntKind.i64.wrap (x3_15 - 1))).f3)))) ?_
     refine ry' 26 rfl (dec_f h1711) sH (VR.ofV (V_pickT rfl (h1712) rfl)) ?_
     refine r' 27 rfl sH (VR.ofV (V_pickF rfl (dec_f h1711) rfl)) ?_
     refine DH_open dd sH ?_
     refine DN_done (by kernel_rfl) ?_
     have h_:=oi' H;subst h_
     exact sm' [0,1]
    replace H:=g_iff h1712 H
    refine dn' 12 rfl (bno h1712) ?_
    refine dn' 13 rfl (bno h1712) ?_
    refine dn' 14 rfl (bno h1712) ?_
    refine dn' 15 rfl (bno h1712) ?_
    refine dn' 16 rfl (bno h1712) ?_
    refine dn' 17 rfl (bno h1712) ?_
    refine dn' 18 rfl (bno h1712) ?_
    refine dn' 19 rfl (bno h1712) ?_
    refine dn' 20 rfl (bno h1712) ?_
    refine dn' 21 rfl (bno h1712) ?_
    refine dn' 22 rfl (bno h1712) ?_
    refine dn' 23 rfl (bno h1712) ?_
    refine dn' 24 rfl (bno h1712) ?_
    refine dn' 25 rfl (bno h1712) ?_
    refine ry' 26 rfl (dec_f h1711) sH (VR.ofV (V_pickF rfl (bno h1712) rfl)) ?_
    refine r' 27 rfl sH (VR.ofV (V_pickF rfl (dec_f h1711) rfl)) ?_
    refine DH_open dd sH ?_
    refine DN_done (by kernel_rfl) ?_
    have h_:=oi' H;subst h_
    exact sm' [0,1]
   rintro e ds As hst1713
   clear H
   have H:=Bt29
   clear Bt29
   refine at_normal ?_
   refine SA.of_St hst1713 fun junk=>?_
   by_cases h1714 : t29 = true
   ·replace H:=g_ift h1714 H
    refine SA_condTb rfl h1714 ?_
    refine qr' ?_
    refine s' (.bool false) as' ?_
    refine ntt' (inb_ret (thn_ret (thn_ret (inb_ret (thn_ret (thn_ret ?_))))))
    have h_:=oi' H;subst h_
    have hb_:=el_ret Bt14
    have hr_:=Option.some.inj hb_
    clear hb_
    subst hr_
    exact b1' [] ⟨rfl,rfl⟩
   replace H:=g_iff h1714 H
   refine SA_condFb rfl h1714 ?_
   refine SA_skip (at_normal (SA_seq ?_))
   obtain⟨t1715,H,Bt1715⟩:=g_bind H
   refine SA_mid (fun e ds As=>St [(1,pt' b2),(3,il' x3_15),(99,.bool t1715)] [Blk b2 26 [il' a0.f0,il' a0.f1,.slice A0_0 a0.f2.length c0_0],Ro k55 A0_0 c0_0 a0.f2] e ds As) ?_ ?_
   ·refine SA_drawHq (rg' 0 17) (List.toArray ([]::[0]::[]::[0,1,2]::(rg' 0 4)::(rg' 0 5)::(rg' 0 6)::(rg' 0 7)::(rg' 0 8)::(rg' 0 8)::[0,1,2,3,4,5,6,7,9]::(rg' 0 11)::(rg' 0 8)::[0,1,2,3,4,5,6,7,12]::[0,1,2,3,4,5,6,7,12,13]::(rg' 0 15)::(rg' 0 16)::[])) [0,1] [1] mixed rfl rfl rfl (PanOk.thn (PanOk.thn (PanOk.inb (PanOk.thn (PanOk.thn (PanOk.inb (PanOk.thn (PanOk.thn PanOk.body)))))))) fun I0 hS h0 hh0 w0 sH dd pk=>?_
    refine t' (pa' b2 2) 0 rfl sH (fa' b2 0 2) ?_
    refine r' 1 rfl sH (ld' b2 2 0) ?_
    refine t' (il' x3_15) 2 rfl sH mv' ?_
    obtain⟨⟨g1896,g1897⟩,H⟩:=g_pos H
    refine r' 3 rfl sH (VR_index (i:=x3_15) Tryz.underlying24 sz55 rfl rfl (Src.ro (k:=1) rfl) g1896 g1897) ?_
    refine t' (.pointer (some ((el A0_0 (x3_15.toNat * 15)).add 4))) 4 rfl sH (fB' (el A0_0 (x3_15.toNat * 15)) 0 4) ?_
    refine r' 5 rfl sH (VR_load_el (enc:=enc55) (i:=x3_15) (j:=x3_15.toNat * 15) (m:=4) (sz:=15) Tryz.underlying5 rfl rfl rfl rfl (Src.ro (k:=1) rfl) g1896 g1897 (fun _ _ h=>h) rfl) ?_
    refine t' (.bool (decide (((rd a0.f2 x3_15).f2) = 2))) 6 rfl sH (V_eql rfl rfl) ?_
    refine t' (.bool (decide (((rd a0.f2 x3_15).f2) = 2))) 7 rfl sH mv' ?_
    by_cases h2737 : ((rd a0.f2 x3_15).f2) = 2
    ·replace H:=g_ift h2737 H
     refine ty' (il' x3_15) 8 rfl (dec_t h2737) sH mv' ?_
     refine ty' (pt' b2) 9 rfl (dec_t h2737) sH (fa' b2 0 0) ?_
     refine ry' 10 rfl (dec_t h2737) sH (ld' b2 0 0) ?_
     obtain⟨g2376,H⟩:=g_pos H
     refine ty' (il' (x3_15.tmod a0.f0)) 11 rfl (dec_t h2737) sH (V_rem rfl rfl g2376) ?_
     refine ty' (pt' b2) 12 rfl (dec_t h2737) sH (fa' b2 0 0) ?_
     refine ry' 13 rfl (dec_t h2737) sH (ld' b2 0 0) ?_
     refine ty' (il' (IntKind.i64.wrap (a0.f0 - 1))) 14 rfl (dec_t h2737) sH (V_sub rfl rfl) ?_
     refine ty' (.bool (decide ((x3_15.tmod a0.f0) = (IntKind.i64.wrap (a0.f0 - 1))))) 15 rfl (dec_t h2737) sH (V_eql rfl rfl) ?_
     refine r' 16 rfl sH (VR.ofV (V_pickT rfl (dec_t h2737) rfl)) ?_
     refine DH_open dd sH ?_
     refine DN_done (by kernel_rfl) ?_
     have h_:=oi' H;subst h_
     exact sm' [0,1]
    replace H:=g_iff h2737 H
    refine dn' 8 rfl (dec_f h2737) ?_
    refine dn' 9 rfl (dec_f h2737) ?_
    refine dn' 10 rfl (dec_f h2737) ?_
    refine dn' 11 rfl (dec_f h2737) ?_
    refine dn' 12 rfl (dec_f h2737) ?_
    refine dn' 13 rfl (dec_f h2737) ?_
    refine dn' 14 rfl (dec_f h2737) ?_
    refine dn' 15 rfl (dec_f h2737) ?_
    refine r' 16 rfl sH (VR.ofV (V_pickF rfl (dec_f h2737) rfl)) ?_
    refine DH_open dd sH ?_
    refine DN_done (by kernel_rfl) ?_
    have h_:=oi' H;subst h_
    exact sm' [0,1]
   rintro e ds As hst2738
   clear H
   have H:=Bt1715
   clear Bt1715
   refine at_normal ?_
   refine SA.of_St hst2738 fun junk=>?_
   by_cases h2739 : t1715 = true
   ·replace H:=g_ift h2739 H
    refine SA_condTb rfl h2739 ?_
    refine qr' ?_
    refine s' (.bool false) as' ?_
    refine nt' (inb_ret (thn_ret (thn_ret (inb_ret (thn_ret (thn_ret ?_))))))
    have h_:=oi' H;subst h_
    have hb_:=el_ret Bt14
    have hr_:=Option.some.inj hb_
    clear hb_
    subst hr_
    exact b1' [] ⟨rfl,rfl⟩
   replace H:=g_iff h2739 H
   refine SA_condFb rfl h2739 ?_
   refine SA_skip (inb_normal (at_normal (SA_region ?_)))
   refine s' (il' x3_15) mv' ?_
   refine s' (il' (IntKind.i64.wrap (x3_15 + 1))) (V_add rfl rfl) ?_
   obtain⟨n2740,hn2740,H⟩:=g_lt H
   refine s' (il' n2740) (V_assign (v:=il' n2740) (congrArg (Value.int .i64) hn2740.symm)) ?_
   refine RA_nil ?_
   exact at_normal ⟨k16,Nat.lt_succ_self _,_,H,sq' [0,1]⟩
  replace H:=g_iff h18 H
  refine SA_condF rfl h18 ?_
  refine SA_exit (thn_exit (thn_exit (inb_hit ?_)))
  have h_:=oi' H;subst h_
  exact at_normal ⟨(),rfl,sq' []⟩
 rintro e ds As ⟨s15,ht,hst2742⟩
 clear H
 subst ht
 replace Bt14:=el_go Bt14
 have H:=Bt14
 clear Bt14
 refine at_normal ?_
 refine SA.of_St hst2742 fun junk=>?_
 refine qr' ?_
 refine s' (.bool true) as' ?_
 refine nt' ?_
 have h_:=oi' H;subst h_
 exact b1' [] ⟨rfl,rfl⟩


theorem F55.ok {a0 : S26} {a1 : Int} {a2 : Int} {a3 : Bool} {r : Bool} (H : F55b0.f a0 a1 a2 a3 = some r) : SCA Tryz.prog 55 #[.agg #[il' a0.f0,il' a0.f1,.slice A0_0 a0.f2.length c0_0],il' a1,il' a2,.bool a3] [Ro k55 A0_0 c0_0 a0.f2] (fun v B=>v = .bool r∧B = []):=by
 refine SCA_of_body Tryz.func55 rfl rfl ?_
 unfold F55b0.f at H
 refine qr' ?_
 refine o' (bx' fun b2=>?_)
 refine s' (.bool false) as' ?_
 refine nr' ?_
 refine s' (il' a1) mv' ?_
 refine s' (.bool (decide (a1 ≥ 0))) (V_geq rfl rfl) ?_
 refine s' (.bool (decide (a1 ≥ 0))) mv' ?_
 obtain⟨q4,hq4,H⟩:=g_lt H
 refine cR' 5 [(2,il' a2),(3,.bool a3),(4,pt' b2),(16,.bool q4)] [Blk b2 26 [il' a0.f0,il' a0.f1,.slice A0_0 a0.f2.length c0_0],Ro k55 A0_0 c0_0 a0.f2] ?_ fun junk=>?_
 ·by_cases h5 : a1 ≥ 0
  ·refine y' (dec_t h5) (il' a1) mv' ?_
   refine y' (dec_t h5) (pa' b2 1) (fa' b2 0 1) ?_
   refine z' (dec_t h5) (ld' b2 1 1) ?_
   refine y' (dec_t h5) (.bool (decide (a1 < a0.f1))) (V_lss rfl rfl) ?_
   refine pT' (dec_t h5) ?_
   refine RA_nil ?_
   exact at_normal (St.mk1 (aeq rfl (aeq rfl (aeq rfl (aeq (congrArg Value.bool (and_t hq4 (dec_t h5))) aeq0)))) (gs' [1,0]))
  refine no' 4 (dec_f h5) ?_
  refine pF' (dec_f h5) ?_
  refine RA_nil ?_
  exact at_normal (St.mk1 (aeq rfl (aeq rfl (aeq rfl (aeq (congrArg Value.bool (and_f hq4 (dec_f h5))) aeq0)))) (gs' [1,0]))
 refine s' (.bool q4) mv' ?_
 obtain⟨q7,hq7,H⟩:=g_lt H
 refine cR' 3 [(2,il' a2),(3,.bool a3),(4,pt' b2),(20,.bool q7)] [Blk b2 26 [il' a0.f0,il' a0.f1,.slice A0_0 a0.f2.length c0_0],Ro k55 A0_0 c0_0 a0.f2] ?_ fun junk=>?_
 ·by_cases h8 : q4 = true
  ·refine y' h8 (il' a2) mv' ?_
   refine y' h8 (.bool (decide (a2 ≥ 0))) (V_geq rfl rfl) ?_
   refine pT' h8 ?_
   refine RA_nil ?_
   exact at_normal (St.mk1 (aeq rfl (aeq rfl (aeq rfl (aeq (congrArg Value.bool (and_t hq7 (h8))) aeq0)))) (gs' [0,1]))
  refine no' 2 (bno h8) ?_
  refine pF' (bno h8) ?_
  refine RA_nil ?_
  exact at_normal (St.mk1 (aeq rfl (aeq rfl (aeq rfl (aeq (congrArg Value.bool (and_f hq7 (bno h8))) aeq0)))) (gs' [0,1]))
 refine s' (.bool q7) mv' ?_
 obtain⟨q10,hq10,H⟩:=g_lt H
 refine cR' 5 [(2,il' a2),(3,.bool a3),(4,pt' b2),(26,.bool q10)] [Blk b2 26 [il' a0.f0,il' a0.f1,.slice A0_0 a0.f2.length c0_0],Ro k55 A0_0 c0_0 a0.f2] ?_ fun junk=>?_
 ·by_cases h11 : q7 = true
  ·refine y' h11 (il' a2) mv' ?_
   refine y' h11 (pt' b2) (fa' b2 0 0) ?_
   refine z' h11 (ld' b2 0 0) ?_
   refine y' h11 (.bool (decide (a2 < a0.f0))) (V_lss rfl rfl) ?_
   refine pT' h11 ?_
   refine RA_nil ?_
   exact at_normal (St.mk1 (aeq rfl (aeq rfl (aeq rfl (aeq (congrArg Value.bool (and_t hq10 (h11))) aeq0)))) (gs' [0,1]))
  refine no' 4 (bno h11) ?_
  refine pF' (bno h11) ?_
  refine RA_nil ?_
  exact at_normal (St.mk1 (aeq rfl (aeq rfl (aeq rfl (aeq (congrArg Value.bool (and_f hq10 (bno h11))) aeq0)))) (gs' [0,1]))
 refine s' (.bool q10) mv' ?_
 obtain⟨q13,H,Bq13⟩:=g_bind H
 refine cR' 10 [(37,.bool q13)] [] ?_ fun junk=>?_
 ·by_cases h14 : q10 = true
  ·replace H:=g_ift h14 H
   refine y' h14 (.bool a3) mv' ?_
   refine y' h14 (.bool (!a3)) (V_not rfl) ?_
   refine y' h14 (.bool (!a3)) mv' ?_
   by_cases h15 : (!a3) = true
   ·replace H:=g_ift h15 H
    refine no' 5 h15 ?_
    refine yo' h14 (OA_v rfl (V_pickT rfl (h15) rfl) ?_)
    refine pT' h14 ?_
    have h_:=oi' H;subst h_
    exact rm' []
   replace H:=g_iff h15 H
   refine y' (bno h15) (il' a2) mv' ?_
   refine y' (bno h15) (pt' b2) (fa' b2 0 0) ?_
   refine z' (bno h15) (ld' b2 0 0) ?_
   refine y' (bno h15) (il' (IntKind.i64.wrap (a0.f0 - 1))) (V_sub rfl rfl) ?_
   refine y' (bno h15) (.bool (decide (a2 = (IntKind.i64.wrap (a0.f0 - 1))))) (V_eql rfl rfl) ?_
   refine yo' h14 (OA_v rfl (V_pickF rfl (bno h15) rfl) ?_)
   refine pT' h14 ?_
   have h_:=oi' H;subst h_
   exact rm' []
  replace H:=g_iff h14 H
  refine no' 3 (bno h14) ?_
  refine nu' ?_
  refine nu' ?_
  refine nu' ?_
  refine nu' ?_
  refine nu' ?_
  refine no' 1 (bno h14) ?_
  refine pF' (bno h14) ?_
  have h_:=oi' H;subst h_
  exact rm' []
 replace H:=Bq13
 refine s' (.bool q13) as' ?_
 refine nt' ?_
 have h_:=oi' H;subst h_
 exact b1' [] ⟨rfl,rfl⟩

end Go.Proofs.YtckilbegmbaeeaaGreat.Z5

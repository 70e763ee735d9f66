/- What a function computes, and that it does: 5. -/
import Derived.Test.YtckilbegmbaeeaaGreatZ50
import Derived.Test.YtckilbegmbaeeaaGreatZ51
import Derived.Test.YtckilbegmbaeeaaGreatZ510
import Derived.Test.YtckilbegmbaeeaaGreatZ514
import Derived.Test.YtckilbegmbaeeaaGreatZ515
import Derived.Test.YtckilbegmbaeeaaGreatZ516
import Derived.Test.YtckilbegmbaeeaaGreatZ517
namespace Go.Proofs.YtckilbegmbaeeaaGreat.Z5
open Go Go.RowKit Go.Proofs.YtckilbegmbaeeaaGreat.SL
set_option linter.unusedVariables false
set_option maxHeartbeats 20000000
set_option maxRecDepth 100000
set_option linter.unusedSimpArgs false
attribute [local irreducible] IntKind.wrap minI maxI shrI shlI andI orI xorI andNotI cplI rd sub bytesOf strOf slA
variable {c0_0 c0_1 c0_2 c0_3 k : Nat}
variable {A0_0 A0_1 A0_2 A0_3 : Option Addr}
def F5.l0 (l1 : (List S44)) : Nat → S34 → Int → Option (S34)
  | 0,_,_=>none
  | k + 1,x5_88,x9_88=>if x9_88 < (l1.length : Int) then (if 0 ≤ x9_88∧x9_88 < (l1.length : Int) then ((if ((rd l1 x9_88).f0) = 9 then (some true) else (if 0 ≤ x9_88∧x9_88 < (l1.length : Int) then (some (decide (((rd l1 x9_88).f0) ≥ 13))) else none) : Option Bool).bind (fun q107=>(if q107 = true then (some true) else (if 0 ≤ x9_88∧x9_88 < (l1.length : Int) then (some (decide (((rd l1 x9_88).f0) = 10))) else none) : Option Bool).bind (fun q112=>if q112 = true then (lt (IntKind.i64.wrap (x9_88 + 1)) fun n118=>F5.l0 l1 k x5_88 n118) else ((if 0 ≤ x9_88∧x9_88 < (l1.length : Int) then ((F12.f k x5_88 (rd l1 x9_88)).bind (fun r434=>some (r434.1,r434.2))) else none : Option (S34 × Int)).bind (fun t119=>if t119.2 = 0 then (lt (IntKind.i64.wrap (x9_88 + 1)) fun n857=>F5.l0 l1 k t119.1 n857) else (lt (IntKind.i64.wrap (x9_88 + 1)) fun n858=>F5.l0 l1 k x5_88 n858)))))) else none) else (some x5_88)
def F5.f (k : Nat) (a0 : S34) (l1 : (List S44)) : Option (Bool):=(F17.f k a0 false).bind (fun r8=>if r8.2 ≠ 0 then ((F14.f k ).bind (fun r28=>(if r28 = true then ((F15b0.f k a0).bind (fun r31=>some (!r31))) else (some false) : Option Bool).bind (fun q29=>some (q29)))) else ((F17.f k r8.1 true).bind (fun r35=>(if r35.2 ≠ 0 then (some true) else ((F18b0b1.f k r35.1.f0 a0.f0).bind (fun r56=>some (!r56))) : Option Bool).bind (fun q54=>lt (q54 || (decide (r35.1.f1 ≠ a0.f1))) fun q59=>lt (q59 || (decide (r35.1.f2 ≠ a0.f2))) fun q62=>lt (q62 || (decide (r35.1.f4 ≠ a0.f4))) fun q65=>lt (q65 || (decide (r35.1.f3 ≠ a0.f3))) fun q68=>lt (q68 || (decide (r35.1.f9 ≠ a0.f9))) fun q71=>if q71 = true then (some (false)) else ((F5.l0 l1 k r8.1 0 : Option (S34)).bind (fun t75=>(F17.f k t75 true).bind (fun r860=>(F14.f k ).bind (fun r875=>lt (r875 && (decide (r860.2 = 0))) fun q876=>lt (q876 && (decide (r860.1.f1 = a0.f1))) fun q879=>lt (q879 && (decide (r860.1.f2 = a0.f2))) fun q882=>lt (q882 && (decide (r860.1.f4 = a0.f4))) fun q885=>lt (q885 && (decide (r860.1.f3 = a0.f3))) fun q888=>some (q888)))))))))
theorem F5.ok {a0 : S34} {l1 : (List S44)} {A1 : Option Addr} {c1 : Nat} {r : Bool} (H : F5.f k a0 l1 = some r) : SCA Tryz.prog 5 #[.agg (c34' a0 A0_0 c0_0 A0_1 c0_1 A0_2 c0_2 A0_3 c0_3).toArray,.slice A1 l1.length c1] [Ro k55 A0_0 c0_0 a0.f0.f2,rl' A0_1 c0_1 a0.f7,Ro k55 A0_2 c0_2 a0.f16.f2,rw' A0_3 c0_3 a0.f17,Ro k44 A1 c1 l1] (fun v B=>v = .bool r∧B = []):=by
 refine SCA_of_body Tryz.func5 rfl rfl ?_
 unfold F5.f at H
 refine qr' ?_
 refine o' (bx' fun b6=>?_)
 refine s' (.bool false) as' ?_
 refine nr' ?_
 refine l' (lA' b6 0 5 (c34' a0 A0_0 c0_0 A0_1 c0_1 A0_2 c0_2 A0_3 c0_3)) ?_
 obtain⟨r8,C894,H⟩:=g_bind H
 refine o' (ca' [0,1,2,3] [0,1,2,3,4,5] (xf' [.agg (c34' a0 A0_0 c0_0 A0_1 c0_1 A0_2 c0_2 A0_3 c0_3).toArray,.bool false]) (F17.ok (a0:=a0) (a1:=false) C894) ?_)
 rintro _ _⟨A9,c10,A12,c13,A15,c16,A18,c19,rfl,rfl⟩
 refine s' (.tuple #[.agg (c34' r8.1 A9 c10 A12 c13 A15 c16 A18 c19).toArray,il' r8.2]) mv' ?_
 refine s' (.agg (c34' r8.1 A9 c10 A12 c13 A15 c16 A18 c19).toArray) ex' ?_
 refine s' (il' r8.2) ex' ?_
 refine o' (al' fun b21=>?_)
 refine o' (su' b21 0 10 (c34' r8.1 A9 c10 A12 c13 A15 c16 A18 c19) ?_)
 refine s' (il' r8.2) as' ?_
 refine nq' ?_
 refine s' (il' r8.2) mv' ?_
 refine s' (.bool (decide (r8.2 ≠ 0))) (V_neq rfl rfl) ?_
 refine na' ?_
 by_cases h23 : r8.2 ≠ 0
 ·replace H:=g_ift h23 H
  refine SA_condT rfl h23 ?_
  refine SA_seq ?_
  refine fc' 0 fun hc24=>?_
  refine fc' 1 fun hc25=>?_
  refine fc' 2 fun hc26=>?_
  refine fc' 3 fun hc27=>?_
  refine SA_region ?_
  obtain⟨r28,C34,H⟩:=g_bind H
  refine o' (ca' [] [0,1,2,3,4,5,6,7,8,9,10] (xf' []) (F14.ok C34) ?_)
  rintro _ _⟨rfl,rfl⟩
  refine s' (.bool r28) mv' ?_
  obtain⟨q29,H,Bq29⟩:=g_bind H
  refine cR' 4 [(26,.bool q29)] [] ?_ fun junk=>?_
  ·by_cases h30 : r28 = true
   ·replace H:=g_ift h30 H
    refine z' h30 (lA' b6 0 9 (c34' a0 A0_0 c0_0 A0_1 c0_1 A0_2 c0_2 A0_3 c0_3)) ?_
    obtain⟨r31,C32,H⟩:=g_bind H
    refine yo' h30 (ca' [4,5,6,7] [0,1,2,3,4,5,6,7,8,9,10] (xf' [.agg (c34' a0 A0_0 c0_0 A0_1 c0_1 A0_2 c0_2 A0_3 c0_3).toArray]) (F15.ok (a0:=a0) C32) ?_)
    rintro _ _⟨rfl,rfl⟩
    refine y' h30 (.bool (!r31)) (V_not rfl) ?_
    refine pT' h30 ?_
    have h_:=oi' H;subst h_
    exact rm' []
   replace H:=g_iff h30 H
   refine no' 3 (bno h30) ?_
   refine pF' (bno h30) ?_
   have h_:=oi' H;subst h_
   exact rm' []
  replace H:=Bq29
  refine s' (.bool q29) as' ?_
  refine ntt' ?_
  have h_:=oi' H;subst h_
  exact b1' [] ⟨rfl,rfl⟩
 replace H:=g_iff h23 H
 refine SA_condF rfl h23 ?_
 refine SA_skip (at_normal (qr' ?_))
 refine l' (lA' b21 0 10 (c34' r8.1 A9 c10 A12 c13 A15 c16 A18 c19)) ?_
 obtain⟨r35,C893,H⟩:=g_bind H
 refine o' (OA.ghost (Gh.freeze (k:=0) rfl) (OA.ghost (Gh.freeze (k:=1) rfl) (OA.ghost (Gh.freeze (k:=2) rfl) (OA.ghost (Gh.freeze (k:=3) rfl) (ca' [0,1,2,3] [0,1,2,3,4,5,6,7,8,9,10] (xf' [.agg (c34' r8.1 A9 c10 A12 c13 A15 c16 A18 c19).toArray,.bool true]) (F17.ok (a0:=r8.1) (a1:=true) C893) ?_)))))
 rintro _ _⟨A36,c37,A39,c40,A42,c43,A45,c46,rfl,rfl⟩
 refine s' (.tuple #[.agg (c34' r35.1 A36 c37 A39 c40 A42 c43 A45 c46).toArray,il' r35.2]) mv' ?_
 refine s' (.agg (c34' r35.1 A36 c37 A39 c40 A42 c43 A45 c46).toArray) ex' ?_
 refine s' (il' r35.2) ex' ?_
 refine o' (al' fun b48=>?_)
 refine o' (su' b48 0 15 (c34' r35.1 A36 c37 A39 c40 A42 c43 A45 c46) ?_)
 refine s' (il' r35.2) as' ?_
 refine na' (SA_seq (SA_seq ?_))
 refine fc' 0 fun hc50=>?_
 refine fc' 1 fun hc51=>?_
 refine fc' 2 fun hc52=>?_
 refine fc' 3 fun hc53=>?_
 refine SA_region ?_
 refine s' (il' r35.2) mv' ?_
 refine s' (.bool (decide (r35.2 ≠ 0))) (V_neq rfl rfl) ?_
 refine s' (.bool (decide (r35.2 ≠ 0))) mv' ?_
 obtain⟨q54,H,Bq54⟩:=g_bind H
 refine cR' 7 [(1,.slice A1 l1.length c1),(2,pt' b6),(5,pt' b21),(7,pt' b48),(41,.bool q54)] (Ro k44 A1 c1 l1::Blk b6 34 (c34' a0 A0_0 c0_0 A0_1 c0_1 A0_2 c0_2 A0_3 c0_3)::Ro k55 A0_0 c0_0 a0.f0.f2::rl' A0_1 c0_1 a0.f7::Ro k55 A0_2 c0_2 a0.f16.f2::rw' A0_3 c0_3 a0.f17::Blk b21 34 (c34' r8.1 A9 c10 A12 c13 A15 c16 A18 c19)::Ro k55 A9 c10 r8.1.f0.f2::rl' A12 c13 r8.1.f7::Ro k55 A15 c16 r8.1.f16.f2::rw' A18 c19 r8.1.f17::Blk b48 34 (c34' r35.1 A36 c37 A39 c40 A42 c43 A45 c46)::Buf k55 55 A36 c37 r35.1.f0.f2::bl' 3 A39 c40 r35.1.f7::Buf k55 55 A42 c43 r35.1.f16.f2::bw' 21 A45 c46 r35.1.f17::[]) ?_ fun junk=>?_
 ·by_cases h55 : r35.2 ≠ 0
  ·replace H:=g_ift h55 H
   refine no' 6 (dec_t h55) ?_
   refine pT' (dec_t h55) ?_
   have h_:=oi' H;subst h_
   refine RA_nil ?_
   exact at_normal (St.mk1 (aeq rfl (aeq rfl (aeq rfl (aeq rfl (aeq rfl aeq0))))) (gs' (12::13::8::9::10::11::14::4::5::6::7::15::0::1::2::3::[])))
  replace H:=g_iff h55 H
  refine y' (dec_f h55) (pt' b48) (fa' b48 0 0) ?_
  refine z' (dec_f h55) (lA' b48 0 15 [il' r35.1.f0.f0,il' r35.1.f0.f1,.slice A36 r35.1.f0.f2.length c37]) ?_
  refine y' (dec_f h55) (pt' b6) (fa' b6 0 0) ?_
  refine z' (dec_f h55) (lA' b6 0 13 [il' a0.f0.f0,il' a0.f0.f1,.slice A0_0 a0.f0.f2.length c0_0]) ?_
  obtain⟨r56,C57,H⟩:=g_bind H
  refine yo' (dec_f h55) (ca' [0,8] (1::2::3::4::5::6::7::8::9::10::11::12::13::14::15::[]) (xf' [.agg #[il' r35.1.f0.f0,il' r35.1.f0.f1,.slice A36 r35.1.f0.f2.length c37],.agg #[il' a0.f0.f0,il' a0.f0.f1,.slice A0_0 a0.f0.f2.length c0_0]]) (F18b0.ok (a0:=r35.1.f0) (a1:=a0.f0) C57) ?_)
  rintro _ _⟨rfl,rfl⟩
  refine y' (dec_f h55) (.bool (!r56)) (V_not rfl) ?_
  refine pF' (dec_f h55) ?_
  have h_:=oi' H;subst h_
  refine RA_nil ?_
  exact at_normal (St.mk1 (aeq rfl (aeq rfl (aeq rfl (aeq rfl (aeq rfl aeq0))))) (gs' (12::13::8::9::10::11::14::4::5::6::7::15::0::1::2::3::[])))
 replace H:=Bq54
 refine s' (.bool q54) mv' ?_
 obtain⟨q59,hq59,H⟩:=g_lt H
 refine cR' 6 [(1,.slice A1 l1.length c1),(2,pt' b6),(5,pt' b21),(7,pt' b48),(48,.bool q59)] (Ro k44 A1 c1 l1::Blk b6 34 (c34' a0 A0_0 c0_0 A0_1 c0_1 A0_2 c0_2 A0_3 c0_3)::Ro k55 A0_0 c0_0 a0.f0.f2::rl' A0_1 c0_1 a0.f7::Ro k55 A0_2 c0_2 a0.f16.f2::rw' A0_3 c0_3 a0.f17::Blk b21 34 (c34' r8.1 A9 c10 A12 c13 A15 c16 A18 c19)::Ro k55 A9 c10 r8.1.f0.f2::rl' A12 c13 r8.1.f7::Ro k55 A15 c16 r8.1.f16.f2::rw' A18 c19 r8.1.f17::Blk b48 34 (c34' r35.1 A36 c37 A39 c40 A42 c43 A45 c46)::Buf k55 55 A36 c37 r35.1.f0.f2::bl' 3 A39 c40 r35.1.f7::Buf k55 55 A42 c43 r35.1.f16.f2::bw' 21 A45 c46 r35.1.f17::[]) ?_ fun junk=>?_
 ·by_cases h60 : q54 = true
  ·refine no' 5 h60 ?_
   refine pT' h60 ?_
   refine RA_nil ?_
   exact at_normal (St.mk1 (aeq rfl (aeq rfl (aeq rfl (aeq rfl (aeq (congrArg Value.bool (or_t hq59 (h60))) aeq0))))) (gs' (0::1::2::3::4::5::6::7::8::9::10::11::12::13::14::15::[])))
  refine y' (bno h60) (pa' b48 3) (fa' b48 0 3) ?_
  refine z' (bno h60) (ld' b48 3 11) ?_
  refine y' (bno h60) (pa' b6 3) (fa' b6 0 3) ?_
  refine z' (bno h60) (ld' b6 3 1) ?_
  refine y' (bno h60) (.bool (decide (r35.1.f1 ≠ a0.f1))) (V_neq rfl rfl) ?_
  refine pF' (bno h60) ?_
  refine RA_nil ?_
  exact at_normal (St.mk1 (aeq rfl (aeq rfl (aeq rfl (aeq rfl (aeq (congrArg Value.bool (or_f hq59 (bno h60))) aeq0))))) (gs' (0::1::2::3::4::5::6::7::8::9::10::11::12::13::14::15::[])))
 refine s' (.bool q59) mv' ?_
 obtain⟨q62,hq62,H⟩:=g_lt H
 refine cR' 6 [(1,.slice A1 l1.length c1),(2,pt' b6),(5,pt' b21),(7,pt' b48),(55,.bool q62)] (Ro k44 A1 c1 l1::Blk b6 34 (c34' a0 A0_0 c0_0 A0_1 c0_1 A0_2 c0_2 A0_3 c0_3)::Ro k55 A0_0 c0_0 a0.f0.f2::rl' A0_1 c0_1 a0.f7::Ro k55 A0_2 c0_2 a0.f16.f2::rw' A0_3 c0_3 a0.f17::Blk b21 34 (c34' r8.1 A9 c10 A12 c13 A15 c16 A18 c19)::Ro k55 A9 c10 r8.1.f0.f2::rl' A12 c13 r8.1.f7::Ro k55 A15 c16 r8.1.f16.f2::rw' A18 c19 r8.1.f17::Blk b48 34 (c34' r35.1 A36 c37 A39 c40 A42 c43 A45 c46)::Buf k55 55 A36 c37 r35.1.f0.f2::bl' 3 A39 c40 r35.1.f7::Buf k55 55 A42 c43 r35.1.f16.f2::bw' 21 A45 c46 r35.1.f17::[]) ?_ fun junk=>?_
 ·by_cases h63 : q59 = true
  ·refine no' 5 h63 ?_
   refine pT' h63 ?_
   refine RA_nil ?_
   exact at_normal (St.mk1 (aeq rfl (aeq rfl (aeq rfl (aeq rfl (aeq (congrArg Value.bool (or_t hq62 (h63))) aeq0))))) (gs' (0::1::2::3::4::5::6::7::8::9::10::11::12::13::14::15::[])))
  refine y' (bno h63) (pa' b48 4) (fa' b48 0 4) ?_
  refine z' (bno h63) (ld' b48 4 11) ?_
  refine y' (bno h63) (pa' b6 4) (fa' b6 0 4) ?_
  refine z' (bno h63) (ld' b6 4 1) ?_
  refine y' (bno h63) (.bool (decide (r35.1.f2 ≠ a0.f2))) (V_neq rfl rfl) ?_
  refine pF' (bno h63) ?_
  refine RA_nil ?_
  exact at_normal (St.mk1 (aeq rfl (aeq rfl (aeq rfl (aeq rfl (aeq (congrArg Value.bool (or_f hq62 (bno h63))) aeq0))))) (gs' (0::1::2::3::4::5::6::7::8::9::10::11::12::13::14::15::[])))
 refine s' (.bool q62) mv' ?_
 obtain⟨q65,hq65,H⟩:=g_lt H
 refine cR' 6 [(1,.slice A1 l1.length c1),(2,pt' b6),(5,pt' b21),(7,pt' b48),(62,.bool q65)] (Ro k44 A1 c1 l1::Blk b6 34 (c34' a0 A0_0 c0_0 A0_1 c0_1 A0_2 c0_2 A0_3 c0_3)::Ro k55 A0_0 c0_0 a0.f0.f2::rl' A0_1 c0_1 a0.f7::Ro k55 A0_2 c0_2 a0.f16.f2::rw' A0_3 c0_3 a0.f17::Blk b21 34 (c34' r8.1 A9 c10 A12 c13 A15 c16 A18 c19)::Ro k55 A9 c10 r8.1.f0.f2::rl' A12 c13 r8.1.f7::Ro k55 A15 c16 r8.1.f16.f2::rw' A18 c19 r8.1.f17::Blk b48 34 (c34' r35.1 A36 c37 A39 c40 A42 c43 A45 c46)::Buf k55 55 A36 c37 r35.1.f0.f2::bl' 3 A39 c40 r35.1.f7::Buf k55 55 A42 c43 r35.1.f16.f2::bw' 21 A45 c46 r35.1.f17::[]) ?_ fun junk=>?_
 ·by_cases h66 : q62 = true
  ·refine no' 5 h66 ?_
   refine pT' h66 ?_
   refine RA_nil ?_
   exact at_normal (St.mk1 (aeq rfl (aeq rfl (aeq rfl (aeq rfl (aeq (congrArg Value.bool (or_t hq65 (h66))) aeq0))))) (gs' (0::1::2::3::4::5::6::7::8::9::10::11::12::13::14::15::[])))
  refine y' (bno h66) (pa' b48 6) (fa' b48 0 6) ?_
  refine z' (bno h66) (lA' b48 6 11 (c28' r35.1.f4)) ?_
  refine y' (bno h66) (pa' b6 6) (fa' b6 0 6) ?_
  refine z' (bno h66) (lA' b6 6 1 (c28' a0.f4)) ?_
  refine y' (bno h66) (.bool (decide (r35.1.f4 ≠ a0.f4))) (V_neqD (xs:=(c28' r35.1.f4)) (ys:=(c28' a0.f4)) (r:=((r35.1.f4.f0 == a0.f4.f0) && ((r35.1.f4.f1 == a0.f4.f1) && ((r35.1.f4.f2 == a0.f4.f2) && ((r35.1.f4.f3 == a0.f4.f3) && ((r35.1.f4.f4 == a0.f4.f4) && ((r35.1.f4.f5 == a0.f4.f5) && ((r35.1.f4.f6 == a0.f4.f6) && ((r35.1.f4.f7 == a0.f4.f7) && ((r35.1.f4.f8 == a0.f4.f8) && ((r35.1.f4.f9 == a0.f4.f9) && true))))))))))) (p:=r35.1.f4 = a0.f4) eqg28 rfl rfl (by kernel_rfl) (eqv28 (x:=r35.1.f4) (y:=a0.f4))) ?_
  refine pF' (bno h66) ?_
  refine RA_nil ?_
  exact at_normal (St.mk1 (aeq rfl (aeq rfl (aeq rfl (aeq rfl (aeq (congrArg Value.bool (or_f hq65 (bno h66))) aeq0))))) (gs' (0::1::2::3::4::5::6::7::8::9::10::11::12::13::14::15::[])))
 refine s' (.bool q65) mv' ?_
 obtain⟨q68,hq68,H⟩:=g_lt H
 refine cR' 6 [(1,.slice A1 l1.length c1),(2,pt' b6),(5,pt' b21),(7,pt' b48),(69,.bool q68)] (Ro k44 A1 c1 l1::Blk b6 34 (c34' a0 A0_0 c0_0 A0_1 c0_1 A0_2 c0_2 A0_3 c0_3)::Ro k55 A0_0 c0_0 a0.f0.f2::rl' A0_1 c0_1 a0.f7::Ro k55 A0_2 c0_2 a0.f16.f2::rw' A0_3 c0_3 a0.f17::Blk b21 34 (c34' r8.1 A9 c10 A12 c13 A15 c16 A18 c19)::Ro k55 A9 c10 r8.1.f0.f2::rl' A12 c13 r8.1.f7::Ro k55 A15 c16 r8.1.f16.f2::rw' A18 c19 r8.1.f17::Blk b48 34 (c34' r35.1 A36 c37 A39 c40 A42 c43 A45 c46)::Buf k55 55 A36 c37 r35.1.f0.f2::bl' 3 A39 c40 r35.1.f7::Buf k55 55 A42 c43 r35.1.f16.f2::bw' 21 A45 c46 r35.1.f17::[]) ?_ fun junk=>?_
 ·by_cases h69 : q65 = true
  ·refine no' 5 h69 ?_
   refine pT' h69 ?_
   refine RA_nil ?_
   exact at_normal (St.mk1 (aeq rfl (aeq rfl (aeq rfl (aeq rfl (aeq (congrArg Value.bool (or_t hq68 (h69))) aeq0))))) (gs' (0::1::2::3::4::5::6::7::8::9::10::11::12::13::14::15::[])))
  refine y' (bno h69) (pa' b48 5) (fa' b48 0 5) ?_
  refine z' (bno h69) (ld' b48 5 11) ?_
  refine y' (bno h69) (pa' b6 5) (fa' b6 0 5) ?_
  refine z' (bno h69) (ld' b6 5 1) ?_
  refine y' (bno h69) (.bool (decide (r35.1.f3 ≠ a0.f3))) (V_neqB Tryz.underlying4 rfl rfl) ?_
  refine pF' (bno h69) ?_
  refine RA_nil ?_
  exact at_normal (St.mk1 (aeq rfl (aeq rfl (aeq rfl (aeq rfl (aeq (congrArg Value.bool (or_f hq68 (bno h69))) aeq0))))) (gs' (0::1::2::3::4::5::6::7::8::9::10::11::12::13::14::15::[])))
 refine s' (.bool q68) mv' ?_
 obtain⟨q71,hq71,H⟩:=g_lt H
 refine RA_cut 6 (fun e ds As=>St [(1,.slice A1 l1.length c1),(2,pt' b6),(5,pt' b21),(76,.bool q71)] [Ro k44 A1 c1 l1,Blk b6 34 (c34' a0 A0_0 c0_0 A0_1 c0_1 A0_2 c0_2 A0_3 c0_3),Ro k55 A0_0 c0_0 a0.f0.f2,rl' A0_1 c0_1 a0.f7,Ro k55 A0_2 c0_2 a0.f16.f2,rw' A0_3 c0_3 a0.f17,Blk b21 34 (c34' r8.1 A9 c10 A12 c13 A15 c16 A18 c19),Ro k55 A9 c10 r8.1.f0.f2,rl' A12 c13 r8.1.f7,Ro k55 A15 c16 r8.1.f16.f2,rw' A18 c19 r8.1.f17] e ds As) ?_ ?_
 ·by_cases h72 : q68 = true
  ·refine no' 5 h72 ?_
   refine pT' h72 ?_
   refine RA_nil ?_
   exact at_normal (St.mk1 (aeq rfl (aeq rfl (aeq rfl (aeq (congrArg Value.bool (or_t hq71 (h72))) aeq0)))) (gs' [0,1,2,3,4,5,6,7,8,9,10]))
  refine y' (bno h72) (pa' b48 20) (fa' b48 0 20) ?_
  refine z' (bno h72) (ld' b48 20 11) ?_
  refine y' (bno h72) (pa' b6 20) (fa' b6 0 20) ?_
  refine z' (bno h72) (ld' b6 20 1) ?_
  refine y' (bno h72) (.bool (decide (r35.1.f9 ≠ a0.f9))) (V_neqB Tryz.underlying4 rfl rfl) ?_
  refine pF' (bno h72) ?_
  refine RA_nil ?_
  exact at_normal (St.mk1 (aeq rfl (aeq rfl (aeq rfl (aeq (congrArg Value.bool (or_f hq71 (bno h72))) aeq0)))) (gs' [0,1,2,3,4,5,6,7,8,9,10]))
 rintro e ds As hst73
 refine na' ?_
 refine SA.of_St hst73 fun junk=>?_
 by_cases h74 : q71 = true
 ·replace H:=g_ift h74 H
  refine SA_condTb rfl h74 ?_
  refine qr' ?_
  refine s' (.bool false) as' ?_
  refine ntt' ?_
  have h_:=oi' H;subst h_
  exact b1' [] ⟨rfl,rfl⟩
 replace H:=g_iff h74 H
 refine SA_condFb rfl h74 ?_
 refine SA_skip (at_normal (SA_seq (qr' ?_)))
 refine s' (il' 0) as' ?_
 refine na' ?_
 obtain⟨t75,H,Bt75⟩:=g_bind H
 refine SA_mid (fun e ds As=>∃ (b76 : Nat),∃ (A77 : Option Addr) (c78 : Nat),∃ (A80 : Option Addr) (c81 : Nat),∃ (A83 : Option Addr) (c84 : Nat),∃ (A86 : Option Addr) (c87 : Nat),St [(2,pt' b6),(5,pt' b76)] [Blk b76 34 (c34' t75 A77 c78 A80 c81 A83 c84 A86 c87),Ro k55 A77 c78 t75.f0.f2,rl' A80 c81 t75.f7,Ro k55 A83 c84 t75.f16.f2,rw' A86 c87 t75.f17,Blk b6 34 (c34' a0 A0_0 c0_0 A0_1 c0_1 A0_2 c0_2 A0_3 c0_3),Ro k55 A0_0 c0_0 a0.f0.f2,rl' A0_1 c0_1 a0.f7,Ro k55 A0_2 c0_2 a0.f16.f2,rw' A0_3 c0_3 a0.f17] e ds As) ?_ ?_
 ·refine SA_block ?_
  refine SA_loop (fun k_ e ds As=>∃ (x5_88 : S34) (x9_88 : Int),∃ (b89 : Nat),∃ (A90 : Option Addr) (c91 : Nat),∃ (A93 : Option Addr) (c94 : Nat),∃ (A96 : Option Addr) (c97 : Nat),∃ (A99 : Option Addr) (c100 : Nat),F5.l0 l1 k_ x5_88 x9_88 = some t75∧St [(1,.slice A1 l1.length c1),(2,pt' b6),(5,pt' b89),(9,il' x9_88)] [Ro k44 A1 c1 l1,Blk b6 34 (c34' a0 A0_0 c0_0 A0_1 c0_1 A0_2 c0_2 A0_3 c0_3),Ro k55 A0_0 c0_0 a0.f0.f2,rl' A0_1 c0_1 a0.f7,Ro k55 A0_2 c0_2 a0.f16.f2,rw' A0_3 c0_3 a0.f17,Blk b89 34 (c34' x5_88 A90 c91 A93 c94 A96 c97 A99 c100),Ro k55 A90 c91 x5_88.f0.f2,rl' A93 c94 x5_88.f7,Ro k55 A96 c97 x5_88.f16.f2,rw' A99 c100 x5_88.f17] e ds As) (k:=k) ⟨_,_,b21,A9,c10,A12,c13,A15,c16,A18,c19,H,sq' [0,1,2,3,4,5,6,7,8,9,10]⟩ ?_
  clear H
  rintro k102 e ds As ⟨x5_88,x9_88,b89,A90,c91,A93,c94,A96,c97,A99,c100,H,hst103⟩
  obtain _ | k102:=k102
  ·cases H
  rw [F5.l0] at H
  refine SA.of_St hst103 fun junk=>?_
  refine SA_seq (qr' ?_)
  refine s' (il' x9_88) mv' ?_
  refine s' (.slice A1 l1.length c1) mv' ?_
  refine s' (il' (l1.length : Int)) (V_len Tryz.underlying23 rfl) ?_
  refine s' (.bool (decide (x9_88 < (l1.length : Int)))) (V_lss rfl rfl) ?_
  refine na' ?_
  by_cases h104 : x9_88 < (l1.length : Int)
  ·replace H:=g_ift h104 H
   refine SA_condT rfl h104 ?_
   refine SA_skip (at_normal (SA_seq (SA_block (SA_seq (qr' ?_)))))
   refine s' (.slice A1 l1.length c1) mv' ?_
   refine s' (il' x9_88) mv' ?_
   obtain⟨⟨g105,g106⟩,H⟩:=g_pos H
   refine l' (VR_index (i:=x9_88) Tryz.underlying23 sz44 rfl rfl (Src.ro (k:=0) rfl) g105 g106) ?_
   refine s' (.pointer (some ((el A1 (x9_88.toNat * 4)).add 0))) (fB' (el A1 (x9_88.toNat * 4)) 0 0) ?_
   refine l' (VR_load_el (enc:=enc44) (i:=x9_88) (j:=x9_88.toNat * 4) (m:=0) (sz:=4) Tryz.underlying5 rfl rfl rfl rfl (Src.ro (k:=0) rfl) g105 g106 (fun _ _ h=>h) rfl) ?_
   refine s' (.bool (decide (((rd l1 x9_88).f0) = 9))) (V_eql rfl rfl) ?_
   refine s' (.bool (decide (((rd l1 x9_88).f0) = 9))) mv' ?_
   obtain⟨q107,H,Bq107⟩:=g_bind H
   refine cR' 7 [(1,.slice A1 l1.length c1),(2,pt' b6),(5,pt' b89),(9,il' x9_88),(96,.bool q107)] [Ro k44 A1 c1 l1,Blk b6 34 (c34' a0 A0_0 c0_0 A0_1 c0_1 A0_2 c0_2 A0_3 c0_3),Ro k55 A0_0 c0_0 a0.f0.f2,rl' A0_1 c0_1 a0.f7,Ro k55 A0_2 c0_2 a0.f16.f2,rw' A0_3 c0_3 a0.f17,Blk b89 34 (c34' x5_88 A90 c91 A93 c94 A96 c97 A99 c100),Ro k55 A90 c91 x5_88.f0.f2,rl' A93 c94 x5_88.f7,Ro k55 A96 c97 x5_88.f16.f2,rw' A99 c100 x5_88.f17] ?_ fun junk=>?_
   ·by_cases h108 : ((rd l1 x9_88).f0) = 9
    ·replace H:=g_ift h108 H
     refine no' 6 (dec_t h108) ?_
     refine pT' (dec_t h108) ?_
     have h_:=oi' H;subst h_
     exact rm' [0,1,2,3,4,5,6,7,8,9,10]
    replace H:=g_iff h108 H
    refine y' (dec_f h108) (.slice A1 l1.length c1) mv' ?_
    refine y' (dec_f h108) (il' x9_88) mv' ?_
    obtain⟨⟨g109,g110⟩,H⟩:=g_pos H
    refine z' (dec_f h108) (VR_index (i:=x9_88) Tryz.underlying23 sz44 rfl rfl (Src.ro (k:=0) rfl) g109 g110) ?_
    refine y' (dec_f h108) (.pointer (some ((el A1 (x9_88.toNat * 4)).add 0))) (fB' (el A1 (x9_88.toNat * 4)) 0 0) ?_
    refine z' (dec_f h108) (VR_load_el (enc:=enc44) (i:=x9_88) (j:=x9_88.toNat * 4) (m:=0) (sz:=4) Tryz.underlying5 rfl rfl rfl rfl (Src.ro (k:=0) rfl) g109 g110 (fun _ _ h=>h) rfl) ?_
    refine y' (dec_f h108) (.bool (decide (((rd l1 x9_88).f0) ≥ 13))) (V_geq rfl rfl) ?_
    refine pF' (dec_f h108) ?_
    have h_:=oi' H;subst h_
    exact rm' [0,1,2,3,4,5,6,7,8,9,10]
   replace H:=Bq107
   refine s' (.bool q107) mv' ?_
   obtain⟨q112,H,Bq112⟩:=g_bind H
   refine RA_cut 7 (fun e ds As=>St [(1,.slice A1 l1.length c1),(2,pt' b6),(5,pt' b89),(9,il' x9_88),(104,.bool q112)] [Ro k44 A1 c1 l1,Blk b6 34 (c34' a0 A0_0 c0_0 A0_1 c0_1 A0_2 c0_2 A0_3 c0_3),Ro k55 A0_0 c0_0 a0.f0.f2,rl' A0_1 c0_1 a0.f7,Ro k55 A0_2 c0_2 a0.f16.f2,rw' A0_3 c0_3 a0.f17,Blk b89 34 (c34' x5_88 A90 c91 A93 c94 A96 c97 A99 c100),Ro k55 A90 c91 x5_88.f0.f2,rl' A93 c94 x5_88.f7,Ro k55 A96 c97 x5_88.f16.f2,rw' A99 c100 x5_88.f17] e ds As) ?_ ?_
   ·by_cases h113 : q107 = true
    ·replace H:=g_ift h113 H
     refine no' 6 h113 ?_
     refine pT' h113 ?_
     have h_:=oi' H;subst h_
     exact rm' [0,1,2,3,4,5,6,7,8,9,10]
    replace H:=g_iff h113 H
    refine y' (bno h113) (.slice A1 l1.length c1) mv' ?_
    refine y' (bno h113) (il' x9_88) mv' ?_
    obtain⟨⟨g114,g115⟩,H⟩:=g_pos H
    refine z' (bno h113) (VR_index (i:=x9_88) Tryz.underlying23 sz44 rfl rfl (Src.ro (k:=0) rfl) g114 g115) ?_
    refine y' (bno h113) (.pointer (some ((el A1 (x9_88.toNat * 4)).add 0))) (fB' (el A1 (x9_88.toNat * 4)) 0 0) ?_
    refine z' (bno h113) (VR_load_el (enc:=enc44) (i:=x9_88) (j:=x9_88.toNat * 4) (m:=0) (sz:=4) Tryz.underlying5 rfl rfl rfl rfl (Src.ro (k:=0) rfl) g114 g115 (fun _ _ h=>h) rfl) ?_
    refine y' (bno h113) (.bool (decide (((rd l1 x9_88).f0) = 10))) (V_eql rfl rfl) ?_
    refine pF' (bno h113) ?_
    have h_:=oi' H;subst h_
    exact rm' [0,1,2,3,4,5,6,7,8,9,10]
   rintro e ds As hst116
   clear H
   have H:=Bq112
   clear Bq112
   refine na' ?_
   refine SA.of_St hst116 fun junk=>?_
   by_cases h117 : q112 = true
   ·replace H:=g_ift h117 H
    refine SA_condTb rfl h117 ?_
    refine SA_exit (thn_exit (inb_hit (at_normal (SA_region ?_))))
    refine s' (il' x9_88) mv' ?_
    refine s' (il' (IntKind.i64.wrap (x9_88 + 1))) (V_add rfl rfl) ?_
    obtain⟨n118,hn118,H⟩:=g_lt H
    refine s' (il' n118) (V_assign (v:=il' n118) (congrArg (Value.int .i64) hn118.symm)) ?_
    refine RA_nil ?_
    exact at_normal ⟨k102,Nat.lt_succ_self _,_,_,b89,A90,c91,A93,c94,A96,c97,A99,c100,H,sq' [0,1,2,3,4,5,6,7,8,9,10]⟩
   replace H:=g_iff h117 H
   refine SA_condFb rfl h117 ?_
   refine SA_skip (at_normal (SA_seq ?_))
   obtain⟨t119,H,Bt119⟩:=g_bind H
   refine SA_mid (fun e ds As=>∃ (b120 : Nat),∃ (A122 : Option Addr) (c123 : Nat),∃ (A125 : Option Addr) (c126 : Nat),∃ (A128 : Option Addr) (c129 : Nat),∃ (A131 : Option Addr) (c132 : Nat),St [(1,.slice A1 l1.length c1),(2,pt' b6),(5,pt' b89),(9,il' x9_88),(10,pt' b120),(11,il' t119.2)] (Blk b120 34 (c34' t119.1 A122 c123 A125 c126 A128 c129 A131 c132)::Buf k55 55 A122 c123 t119.1.f0.f2::bl' 3 A125 c126 t119.1.f7::Buf k55 55 A128 c129 t119.1.f16.f2::bw' 21 A131 c132 t119.1.f17::Ro k44 A1 c1 l1::Blk b6 34 (c34' a0 A0_0 c0_0 A0_1 c0_1 A0_2 c0_2 A0_3 c0_3)::Ro k55 A0_0 c0_0 a0.f0.f2::rl' A0_1 c0_1 a0.f7::Ro k55 A0_2 c0_2 a0.f16.f2::rw' A0_3 c0_3 a0.f17::Blk b89 34 (c34' x5_88 A90 c91 A93 c94 A96 c97 A99 c100)::Ro k55 A90 c91 x5_88.f0.f2::rl' A93 c94 x5_88.f7::Ro k55 A96 c97 x5_88.f16.f2::rw' A99 c100 x5_88.f17::[]) e ds As) ?_ ?_
   ·refine SA_drawHq [0,1,2,3,4,6,7,8,11] #[[],[],[],[1,2],[1,2,3],(rg' 0 5),(rg' 0 5),[0,1,2,3,4,6],[0,1,2,3,4,6],[],[0,1,2,3,4,6,7],[0,1,2,3,4,6,7,8]] [0,2,3,4,5,6,7,8,9,10] [0,1,2,3,4,5,7,8,9,10] mixed rfl rfl rfl (PanOk.thn (PanOk.thn (PanOk.inb (PanOk.thn (PanOk.thn (PanOk.inb (PanOk.thn (PanOk.thn PanOk.body)))))))) fun I0 hS h0 hh0 w0 sH dd pk=>?_
    refine r' 0 rfl sH (lA' b89 0 5 (c34' x5_88 A90 c91 A93 c94 A96 c97 A99 c100)) ?_
    refine t' (.slice A1 l1.length c1) 1 rfl sH mv' ?_
    refine t' (il' x9_88) 2 rfl sH mv' ?_
    obtain⟨⟨g314,g315⟩,H⟩:=g_pos H
    refine r' 3 rfl sH (VR_index (i:=x9_88) Tryz.underlying23 sz44 rfl rfl (Src.ro (k:=0) rfl) g314 g315) ?_
    refine r' 4 rfl sH (VR_loadA_el (enc:=enc44) (i:=x9_88) (j:=x9_88.toNat * 4) (m:=0) (sz:=4) (vs:=[.int .u8 ((rd l1 x9_88).f0),il' ((rd l1 x9_88).f1),il' ((rd l1 x9_88).f2),.bool ((rd l1 x9_88).f3)]) Tryz.underlying44 rfl sz44 rfl rfl rfl (Src.ro (k:=0) rfl) g314 g315 (fun _ _ h=>h) rfl) ?_
    obtain⟨r434,C447,H⟩:=g_bind H
    refine DH_many (rs:=[5,9]) dd (by kernel_rfl) (by decide) (fal_cons ⟨_,rfl,(.no rfl),?_⟩ (fal_cons ⟨_,rfl,(.no rfl),?_⟩ fal_nil))
    ·refine id (ca' [6,7,8,9] [0,1,2,3,4,5,6,7,8,9] (xf' [.agg (c34' x5_88 A90 c91 A93 c94 A96 c97 A99 c100).toArray,.agg #[.int .u8 ((rd l1 x9_88).f0),il' ((rd l1 x9_88).f1),il' ((rd l1 x9_88).f2),.bool ((rd l1 x9_88).f3)]]) (F12.ok (a0:=x5_88) (a1:=rd l1 x9_88) C447) ?_)
     rintro _ _⟨A435,c436,A438,c439,A441,c442,A444,c445,rfl,rfl⟩
     refine t' (.tuple #[.agg (c34' r434.1 A435 c436 A438 c439 A441 c442 A444 c445).toArray,il' r434.2]) 6 rfl sH mv' ?_
     refine t' (.agg (c34' r434.1 A435 c436 A438 c439 A441 c442 A444 c445).toArray) 7 rfl sH ex' ?_
     refine t' (il' r434.2) 8 rfl sH ex' ?_
     refine DH_one 9 dd (by kernel_rfl) rfl (.no rfl) (OA_alloc rfl zero34 fun b674=>?_)
     refine DH_one 10 dd (by kernel_rfl) rfl (.no rfl) (su' b674 0 14 (c34' r434.1 A435 c436 A438 c439 A441 c442 A444 c445) ?_)
     refine t' (il' r434.2) 11 rfl sH as' ?_
     refine DH_open dd sH ?_
     refine DN_done (by kernel_rfl) ?_
     have h_:=oi' H;subst h_
     exact at_normal ⟨b674,A435,c436,A438,c439,A441,c442,A444,c445,St.mk1 (aeq rfl (aeq rfl (aeq rfl (aeq rfl (aeq rfl (aeq rfl aeq0)))))) (gs' (24::10::11::12::13::0::15::1::2::3::4::5::6::7::8::9::[]))⟩
    refine id (OA_alloc rfl zero34 fun b674=>?_)
    refine DH_one 5 dd (by kernel_rfl) rfl (.no rfl) (ca' [6,7,8,9] [0,1,2,3,4,5,6,7,8,9,10] (xf' [.agg (c34' x5_88 A90 c91 A93 c94 A96 c97 A99 c100).toArray,.agg #[.int .u8 ((rd l1 x9_88).f0),il' ((rd l1 x9_88).f1),il' ((rd l1 x9_88).f2),.bool ((rd l1 x9_88).f3)]]) (F12.ok (a0:=x5_88) (a1:=rd l1 x9_88) C447) ?_)
    rintro _ _⟨A435,c436,A438,c439,A441,c442,A444,c445,rfl,rfl⟩
    refine t' (.tuple #[.agg (c34' r434.1 A435 c436 A438 c439 A441 c442 A444 c445).toArray,il' r434.2]) 6 rfl sH mv' ?_
    refine t' (.agg (c34' r434.1 A435 c436 A438 c439 A441 c442 A444 c445).toArray) 7 rfl sH ex' ?_
    refine t' (il' r434.2) 8 rfl sH ex' ?_
    refine DH_one 10 dd (by kernel_rfl) rfl (.no rfl) (su' b674 0 14 (c34' r434.1 A435 c436 A438 c439 A441 c442 A444 c445) ?_)
    refine t' (il' r434.2) 11 rfl sH as' ?_
    refine DH_open dd sH ?_
    refine DN_done (by kernel_rfl) ?_
    have h_:=oi' H;subst h_
    exact at_normal ⟨b674,A435,c436,A438,c439,A441,c442,A444,c445,St.mk1 (aeq rfl (aeq rfl (aeq rfl (aeq rfl (aeq rfl (aeq rfl aeq0)))))) (gs' (24::10::11::12::13::0::15::1::2::3::4::5::6::7::8::9::[]))⟩
   rintro e ds As ⟨b120,A122,c123,A125,c126,A128,c129,A131,c132,hst855⟩
   clear H
   have H:=Bt119
   clear Bt119
   refine at_normal ?_
   refine SA.of_St hst855 fun junk=>?_
   refine qr' ?_
   refine s' (il' t119.2) mv' ?_
   refine s' (.bool (decide (t119.2 = 0))) (V_eql rfl rfl) ?_
   refine na' ?_
   by_cases h856 : t119.2 = 0
   ·replace H:=g_ift h856 H
    refine SA_condT rfl h856 ?_
    refine SA_region ?_
    refine l' (lA' b120 0 0 (c34' t119.1 A122 c123 A125 c126 A128 c129 A131 c132)) ?_
    refine o' (su' b89 0 11 (c34' t119.1 A122 c123 A125 c126 A128 c129 A131 c132) ?_)
    refine RA_nil (inb_normal (at_normal ?_))
    refine SA.of_St (l:=[(1,.slice A1 l1.length c1),(2,pt' b6),(5,pt' b89),(9,il' x9_88)]) (B:=[Ro k44 A1 c1 l1,Blk b6 34 (c34' a0 A0_0 c0_0 A0_1 c0_1 A0_2 c0_2 A0_3 c0_3),Ro k55 A0_0 c0_0 a0.f0.f2,rl' A0_1 c0_1 a0.f7,Ro k55 A0_2 c0_2 a0.f16.f2,rw' A0_3 c0_3 a0.f17,Blk b89 34 (c34' t119.1 A122 c123 A125 c126 A128 c129 A131 c132),Buf k55 55 A122 c123 t119.1.f0.f2,bl' 3 A125 c126 t119.1.f7,Buf k55 55 A128 c129 t119.1.f16.f2,bw' 21 A131 c132 t119.1.f17]) (St.mk1 (aeq rfl (aeq rfl (aeq rfl (aeq rfl aeq0)))) (Gh.sel [5,6,7,8,9,10,11,1,2,3,4] (by kernel_rfl) (by kernel_rfl))) fun junk=>?_
    refine SA_region ?_
    refine s' (il' x9_88) mv' ?_
    refine s' (il' (IntKind.i64.wrap (x9_88 + 1))) (V_add rfl rfl) ?_
    obtain⟨n857,hn857,H⟩:=g_lt H
    refine s' (il' n857) (V_assign (v:=il' n857) (congrArg (Value.int .i64) hn857.symm)) ?_
    refine RA_nil ?_
    exact at_normal ⟨k102,Nat.lt_succ_self _,_,_,b89,A122,c123,A125,c126,A128,c129,A131,c132,H,St.mk1 (aeq rfl (aeq rfl (aeq rfl (aeq rfl aeq0)))) ((Gh.freeze (k:=7) rfl).trans ((Gh.freeze (k:=8) rfl).trans ((Gh.freeze (k:=9) rfl).trans ((Gh.freeze (k:=10) rfl).trans (gs' [0,1,2,3,4,5,6,7,8,9,10])))))⟩
   replace H:=g_iff h856 H
   refine SA_condF rfl h856 ?_
   refine SA_skip (inb_normal (at_normal ?_))
   refine SA.of_St (l:=[(1,.slice A1 l1.length c1),(2,pt' b6),(5,pt' b89),(9,il' x9_88)]) (B:=[Ro k44 A1 c1 l1,Blk b6 34 (c34' a0 A0_0 c0_0 A0_1 c0_1 A0_2 c0_2 A0_3 c0_3),Ro k55 A0_0 c0_0 a0.f0.f2,rl' A0_1 c0_1 a0.f7,Ro k55 A0_2 c0_2 a0.f16.f2,rw' A0_3 c0_3 a0.f17,Blk b89 34 (c34' x5_88 A90 c91 A93 c94 A96 c97 A99 c100),Ro k55 A90 c91 x5_88.f0.f2,rl' A93 c94 x5_88.f7,Ro k55 A96 c97 x5_88.f16.f2,rw' A99 c100 x5_88.f17]) (St.mk1 (aeq rfl (aeq rfl (aeq rfl (aeq rfl aeq0)))) (Gh.sel [5,6,7,8,9,10,11,12,13,14,15] (by kernel_rfl) (by kernel_rfl))) fun junk=>?_
   refine SA_region ?_
   refine s' (il' x9_88) mv' ?_
   refine s' (il' (IntKind.i64.wrap (x9_88 + 1))) (V_add rfl rfl) ?_
   obtain⟨n858,hn858,H⟩:=g_lt H
   refine s' (il' n858) (V_assign (v:=il' n858) (congrArg (Value.int .i64) hn858.symm)) ?_
   refine RA_nil ?_
   exact at_normal ⟨k102,Nat.lt_succ_self _,_,_,b89,A90,c91,A93,c94,A96,c97,A99,c100,H,sq' [0,1,2,3,4,5,6,7,8,9,10]⟩
  replace H:=g_iff h104 H
  refine SA_condF rfl h104 ?_
  refine SA_exit (thn_exit (thn_exit (inb_hit ?_)))
  have h_:=oi' H;subst h_
  exact at_normal ⟨b89,A90,c91,A93,c94,A96,c97,A99,c100,sq' [6,7,8,9,10,1,2,3,4,5]⟩
 rintro e ds As ⟨b76,A77,c78,A80,c81,A83,c84,A86,c87,hst859⟩
 clear H
 have H:=Bt75
 clear Bt75
 refine at_normal ?_
 refine SA.of_St hst859 fun junk=>?_
 refine qr' ?_
 refine l' (lA' b76 0 0 (c34' t75 A77 c78 A80 c81 A83 c84 A86 c87)) ?_
 obtain⟨r860,C892,H⟩:=g_bind H
 refine o' (ca' [1,2,3,4] [0,1,2,3,4,5,6,7,8,9] (xf' [.agg (c34' t75 A77 c78 A80 c81 A83 c84 A86 c87).toArray,.bool true]) (F17.ok (a0:=t75) (a1:=true) C892) ?_)
 rintro _ _⟨A861,c862,A864,c865,A867,c868,A870,c871,rfl,rfl⟩
 refine s' (.tuple #[.agg (c34' r860.1 A861 c862 A864 c865 A867 c868 A870 c871).toArray,il' r860.2]) mv' ?_
 refine s' (.agg (c34' r860.1 A861 c862 A864 c865 A867 c868 A870 c871).toArray) ex' ?_
 refine s' (il' r860.2) ex' ?_
 refine o' (al' fun b873=>?_)
 refine o' (su' b873 0 14 (c34' r860.1 A861 c862 A864 c865 A867 c868 A870 c871) ?_)
 refine s' (il' r860.2) as' ?_
 refine na' ?_
 refine SA.of_St (l:=[(2,pt' b6),(12,pt' b873),(13,il' r860.2)]) (B:=[Blk b6 34 (c34' a0 A0_0 c0_0 A0_1 c0_1 A0_2 c0_2 A0_3 c0_3),Ro k55 A0_0 c0_0 a0.f0.f2,rl' A0_1 c0_1 a0.f7,Ro k55 A0_2 c0_2 a0.f16.f2,rw' A0_3 c0_3 a0.f17,Blk b873 34 (c34' r860.1 A861 c862 A864 c865 A867 c868 A870 c871),Buf k55 55 A861 c862 r860.1.f0.f2,bl' 3 A864 c865 r860.1.f7,Buf k55 55 A867 c868 r860.1.f16.f2,bw' 21 A870 c871 r860.1.f17]) (St.mk1 (aeq rfl (aeq rfl (aeq rfl aeq0))) (Gh.sel [9,10,11,12,13,14,0,1,2,3] (by kernel_rfl) (by kernel_rfl))) fun junk=>?_
 refine qr' ?_
 obtain⟨r875,C891,H⟩:=g_bind H
 refine o' (ca' [] [0,1,2,3,4,5,6,7,8,9] (xf' []) (F14.ok C891) ?_)
 rintro _ _⟨rfl,rfl⟩
 refine s' (.bool r875) mv' ?_
 obtain⟨q876,hq876,H⟩:=g_lt H
 refine cR' 3 [(2,pt' b6),(12,pt' b873),(126,.bool q876)] [Blk b6 34 (c34' a0 A0_0 c0_0 A0_1 c0_1 A0_2 c0_2 A0_3 c0_3),Ro k55 A0_0 c0_0 a0.f0.f2,rl' A0_1 c0_1 a0.f7,Ro k55 A0_2 c0_2 a0.f16.f2,rw' A0_3 c0_3 a0.f17,Blk b873 34 (c34' r860.1 A861 c862 A864 c865 A867 c868 A870 c871),Buf k55 55 A861 c862 r860.1.f0.f2,bl' 3 A864 c865 r860.1.f7,Buf k55 55 A867 c868 r860.1.f16.f2,bw' 21 A870 c871 r860.1.f17] ?_ fun junk=>?_
 ·by_cases h877 : r875 = true
  ·refine y' h877 (il' r860.2) mv' ?_
   refine y' h877 (.bool (decide (r860.2 = 0))) (V_eql rfl rfl) ?_
   refine pT' h877 ?_
   refine RA_nil ?_
   exact at_normal (St.mk1 (aeq rfl (aeq rfl (aeq (congrArg Value.bool (and_t hq876 (h877))) aeq0))) (gs' [0,1,2,3,4,5,6,7,8,9]))
  refine no' 2 (bno h877) ?_
  refine pF' (bno h877) ?_
  refine RA_nil ?_
  exact at_normal (St.mk1 (aeq rfl (aeq rfl (aeq (congrArg Value.bool (and_f hq876 (bno h877))) aeq0))) (gs' [0,1,2,3,4,5,6,7,8,9]))
 refine s' (.bool q876) mv' ?_
 obtain⟨q879,hq879,H⟩:=g_lt H
 refine cR' 6 [(2,pt' b6),(12,pt' b873),(133,.bool q879)] [Blk b6 34 (c34' a0 A0_0 c0_0 A0_1 c0_1 A0_2 c0_2 A0_3 c0_3),Ro k55 A0_0 c0_0 a0.f0.f2,rl' A0_1 c0_1 a0.f7,Ro k55 A0_2 c0_2 a0.f16.f2,rw' A0_3 c0_3 a0.f17,Blk b873 34 (c34' r860.1 A861 c862 A864 c865 A867 c868 A870 c871),Buf k55 55 A861 c862 r860.1.f0.f2,bl' 3 A864 c865 r860.1.f7,Buf k55 55 A867 c868 r860.1.f16.f2,bw' 21 A870 c871 r860.1.f17] ?_ fun junk=>?_
 ·by_cases h880 : q876 = true
  ·refine y' h880 (pa' b873 3) (fa' b873 0 3) ?_
   refine z' h880 (ld' b873 3 5) ?_
   refine y' h880 (pa' b6 3) (fa' b6 0 3) ?_
   refine z' h880 (ld' b6 3 0) ?_
   refine y' h880 (.bool (decide (r860.1.f1 = a0.f1))) (V_eql rfl rfl) ?_
   refine pT' h880 ?_
   refine RA_nil ?_
   exact at_normal (St.mk1 (aeq rfl (aeq rfl (aeq (congrArg Value.bool (and_t hq879 (h880))) aeq0))) (gs' [0,1,2,3,4,5,6,7,8,9]))
  refine no' 5 (bno h880) ?_
  refine pF' (bno h880) ?_
  refine RA_nil ?_
  exact at_normal (St.mk1 (aeq rfl (aeq rfl (aeq (congrArg Value.bool (and_f hq879 (bno h880))) aeq0))) (gs' [0,1,2,3,4,5,6,7,8,9]))
 refine s' (.bool q879) mv' ?_
 obtain⟨q882,hq882,H⟩:=g_lt H
 refine cR' 6 [(2,pt' b6),(12,pt' b873),(140,.bool q882)] [Blk b6 34 (c34' a0 A0_0 c0_0 A0_1 c0_1 A0_2 c0_2 A0_3 c0_3),Ro k55 A0_0 c0_0 a0.f0.f2,rl' A0_1 c0_1 a0.f7,Ro k55 A0_2 c0_2 a0.f16.f2,rw' A0_3 c0_3 a0.f17,Blk b873 34 (c34' r860.1 A861 c862 A864 c865 A867 c868 A870 c871),Buf k55 55 A861 c862 r860.1.f0.f2,bl' 3 A864 c865 r860.1.f7,Buf k55 55 A867 c868 r860.1.f16.f2,bw' 21 A870 c871 r860.1.f17] ?_ fun junk=>?_
 ·by_cases h883 : q879 = true
  ·refine y' h883 (pa' b873 4) (fa' b873 0 4) ?_
   refine z' h883 (ld' b873 4 5) ?_
   refine y' h883 (pa' b6 4) (fa' b6 0 4) ?_
   refine z' h883 (ld' b6 4 0) ?_
   refine y' h883 (.bool (decide (r860.1.f2 = a0.f2))) (V_eql rfl rfl) ?_
   refine pT' h883 ?_
   refine RA_nil ?_
   exact at_normal (St.mk1 (aeq rfl (aeq rfl (aeq (congrArg Value.bool (and_t hq882 (h883))) aeq0))) (gs' [0,1,2,3,4,5,6,7,8,9]))
  refine no' 5 (bno h883) ?_
  refine pF' (bno h883) ?_
  refine RA_nil ?_
  exact at_normal (St.mk1 (aeq rfl (aeq rfl (aeq (congrArg Value.bool (and_f hq882 (bno h883))) aeq0))) (gs' [0,1,2,3,4,5,6,7,8,9]))
 refine s' (.bool q882) mv' ?_
 obtain⟨q885,hq885,H⟩:=g_lt H
 refine cR' 6 [(2,pt' b6),(12,pt' b873),(147,.bool q885)] [Blk b6 34 (c34' a0 A0_0 c0_0 A0_1 c0_1 A0_2 c0_2 A0_3 c0_3),Ro k55 A0_0 c0_0 a0.f0.f2,rl' A0_1 c0_1 a0.f7,Ro k55 A0_2 c0_2 a0.f16.f2,rw' A0_3 c0_3 a0.f17,Blk b873 34 (c34' r860.1 A861 c862 A864 c865 A867 c868 A870 c871),Buf k55 55 A861 c862 r860.1.f0.f2,bl' 3 A864 c865 r860.1.f7,Buf k55 55 A867 c868 r860.1.f16.f2,bw' 21 A870 c871 r860.1.f17] ?_ fun junk=>?_
 ·by_cases h886 : q882 = true
  ·refine y' h886 (pa' b873 6) (fa' b873 0 6) ?_
   refine z' h886 (lA' b873 6 5 (c28' r860.1.f4)) ?_
   refine y' h886 (pa' b6 6) (fa' b6 0 6) ?_
   refine z' h886 (lA' b6 6 0 (c28' a0.f4)) ?_
   refine y' h886 (.bool (decide (r860.1.f4 = a0.f4))) (V_eqlD (xs:=(c28' r860.1.f4)) (ys:=(c28' a0.f4)) (r:=((r860.1.f4.f0 == a0.f4.f0) && ((r860.1.f4.f1 == a0.f4.f1) && ((r860.1.f4.f2 == a0.f4.f2) && ((r860.1.f4.f3 == a0.f4.f3) && ((r860.1.f4.f4 == a0.f4.f4) && ((r860.1.f4.f5 == a0.f4.f5) && ((r860.1.f4.f6 == a0.f4.f6) && ((r860.1.f4.f7 == a0.f4.f7) && ((r860.1.f4.f8 == a0.f4.f8) && ((r860.1.f4.f9 == a0.f4.f9) && true))))))))))) (p:=r860.1.f4 = a0.f4) eqg28 rfl rfl (by kernel_rfl) (eqv28 (x:=r860.1.f4) (y:=a0.f4))) ?_
   refine pT' h886 ?_
   refine RA_nil ?_
   exact at_normal (St.mk1 (aeq rfl (aeq rfl (aeq (congrArg Value.bool (and_t hq885 (h886))) aeq0))) (gs' [0,1,2,3,4,5,6,7,8,9]))
  refine no' 5 (bno h886) ?_
  refine pF' (bno h886) ?_
  refine RA_nil ?_
  exact at_normal (St.mk1 (aeq rfl (aeq rfl (aeq (congrArg Value.bool (and_f hq885 (bno h886))) aeq0))) (gs' [0,1,2,3,4,5,6,7,8,9]))
 refine s' (.bool q885) mv' ?_
 obtain⟨q888,hq888,H⟩:=g_lt H
 refine cR' 6 [(154,.bool q888)] [] ?_ fun junk=>?_
 ·by_cases h889 : q885 = true
  ·refine y' h889 (pa' b873 5) (fa' b873 0 5) ?_
   refine z' h889 (ld' b873 5 5) ?_
   refine y' h889 (pa' b6 5) (fa' b6 0 5) ?_
   refine z' h889 (ld' b6 5 0) ?_
   refine y' h889 (.bool (decide (r860.1.f3 = a0.f3))) (V_eqlB Tryz.underlying4 rfl rfl) ?_
   refine pT' h889 ?_
   refine RA_nil ?_
   exact at_normal (St.mk1 (aeq (congrArg Value.bool (and_t hq888 (h889))) aeq0) (gs' []))
  refine no' 5 (bno h889) ?_
  refine pF' (bno h889) ?_
  refine RA_nil ?_
  exact at_normal (St.mk1 (aeq (congrArg Value.bool (and_f hq888 (bno h889))) aeq0) (gs' []))
 refine s' (.bool q888) as' ?_
 refine nt' ?_
 have h_:=oi' H;subst h_
 exact b1' [] ⟨rfl,rfl⟩

end Go.Proofs.YtckilbegmbaeeaaGreat.Z5

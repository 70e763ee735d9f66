/- What functions compute, and that they do: 12, 140b0, 141. -/
import Derived.Test.YtckilbegmbaeeaaGreatZ40
import Derived.Test.YtckilbegmbaeeaaGreatZ412
import Derived.Test.YtckilbegmbaeeaaGreatZ413
import Derived.Test.YtckilbegmbaeeaaGreatZ414
import Derived.Test.YtckilbegmbaeeaaGreatZ415
import Derived.Test.YtckilbegmbaeeaaGreatZ416
import Derived.Test.YtckilbegmbaeeaaGreatZ417
import Derived.Test.YtckilbegmbaeeaaGreatZ418
import Derived.Test.YtckilbegmbaeeaaGreatZ420
import Derived.Test.YtckilbegmbaeeaaGreatZ421
import Derived.Test.YtckilbegmbaeeaaGreatZ422
import Derived.Test.YtckilbegmbaeeaaGreatZ423
namespace Go.Proofs.YtckilbegmbaeeaaGreat.Z4
open Go Go.RowKit Go.Proofs.YtckilbegmbaeeaaGreat.SL
set_option linter.unusedVariables false
set_option maxHeartbeats 20000000
set_option maxRecDepth 100000
set_option linter.unusedSimpArgs false
attribute [local irreducible] IntKind.wrap minI maxI shrI shlI andI orI xorI andNotI cplI rd sub bytesOf strOf slA
variable {c0_0 c0_1 c0_2 c0_3 k : Nat}
variable {A0_0 A0_1 A0_2 A0_3 : Option Addr}
def F12.f (k : Nat) (a0 : S34) (a1 : S44) : Option (S34 × Int):=if a1.f0 = 0 then ((F27.f k a0 (IntKind.i32.wrap (a1.f1))).bind (fun r12=>some ((r12.1,r12.2)))) else (if a1.f0 = 1 then ((F28.f k a0 (IntKind.i32.wrap (a1.f1))).bind (fun r27=>some ((r27.1,r27.2)))) else (if a1.f0 = 2 then ((F29.f k a0 a1.f1 a1.f2).bind (fun r42=>some ((r42.1,r42.2)))) else (if a1.f0 = 3 then ((F30.f k a0 a1.f1 a1.f2).bind (fun r57=>some ((r57.1,r57.2)))) else (if a1.f0 = 4 then ((F31.f k a0 a1.f3 a1.f1).bind (fun r72=>some ((r72.1,r72.2)))) else (if a1.f0 = 5 then ((F32.f k a0 a1.f1).bind (fun r87=>some ((r87.1,r87.2)))) else (if a1.f0 = 6 then ((F33.f k a0 a1.f1).bind (fun r102=>some ((r102.1,r102.2)))) else (if a1.f0 = 7 then ((F34.f k a0 a1.f1).bind (fun r117=>some ((r117.1,r117.2)))) else (if a1.f0 = 8 then ((F35.f k a0 a1.f1 a1.f2).bind (fun r132=>some ((r132.1,r132.2)))) else (if a1.f0 = 9 then ((F17.f k a0 a1.f3).bind (fun r147=>some ((r147.1,r147.2)))) else (if a1.f0 = 10 then ((F36.f k a0 a1.f3 a1.f1 (decide (a1.f2 > 0))).bind (fun r162=>some ((r162.1,r162.2)))) else (if a1.f0 = 11 then ((F37.f k a0 a1.f1).bind (fun r177=>some ((r177.1,r177.2)))) else (if a1.f0 = 12 then ((F38.f k a0 a1.f1).bind (fun r192=>some ((r192.1,r192.2)))) else ((F39.f k a0 a1.f1 a1.f2).bind (fun r206=>some ((r206.1,r206.2))))))))))))))))
theorem F12.ok {a0 : S34} {a1 : S44} {r : S34 × Int} (H : F12.f k a0 a1 = some r) : SCA Tryz.prog 12 #[.agg (c34' a0 A0_0 c0_0 A0_1 c0_1 A0_2 c0_2 A0_3 c0_3).toArray,.agg #[.int .u8 a1.f0,il' a1.f1,il' a1.f2,.bool a1.f3]] [Ro k55 A0_0 c0_0 a0.f0.f2,rl' A0_1 c0_1 a0.f7,Ro k55 A0_2 c0_2 a0.f16.f2,rw' A0_3 c0_3 a0.f17] (fun v B=>∃ A0_0_ c0_0_ A0_1_ c0_1_ A0_2_ c0_2_ A0_3_ c0_3_,v = .tuple #[.agg (c34' r.1 A0_0_ c0_0_ A0_1_ c0_1_ A0_2_ c0_2_ A0_3_ c0_3_).toArray,il' r.2]∧B = [Buf k55 55 A0_0_ c0_0_ r.1.f0.f2,bl' 3 A0_1_ c0_1_ r.1.f7,Buf k55 55 A0_2_ c0_2_ r.1.f16.f2,bw' 21 A0_3_ c0_3_ r.1.f17]):=by
 refine SCA_of_body Tryz.func12 rfl rfl ?_
 unfold F12.f at H
 refine qr' ?_
 refine o' (bx' fun b5=>?_)
 refine o' (bx' fun b7=>?_)
 refine o' (al' fun b9=>?_)
 refine s' (il' 0) as' ?_
 refine nq' ?_
 refine s' (pt' b7) (fa' b7 0 0) ?_
 refine l' (ld' b7 0 5) ?_
 refine na' (SA_block (qr' ?_))
 refine s' (.bool (decide (a1.f0 = 0))) (V_eql rfl rfl) ?_
 refine s' (.bool (decide (a1.f0 = 0))) as' ?_
 refine na' ?_
 by_cases h11 : a1.f0 = 0
 ·replace H:=g_ift h11 H
  refine SA_condT rfl h11 ?_
  refine qr' ?_
  refine l' (lA' b5 0 4 (c34' a0 A0_0 c0_0 A0_1 c0_1 A0_2 c0_2 A0_3 c0_3)) ?_
  refine s' (pa' b7 1) (fa' b7 0 1) ?_
  refine l' (ld' b7 1 5) ?_
  refine s' (iw' (IntKind.i32.wrap (a1.f1))) (V_conv (T:=3) (by kernel_rfl) Tryz.underlying21 rfl) ?_
  obtain⟨r12,C25,H⟩:=g_bind H
  refine o' (ca' [0,1,2,3] [0,1,2,3,4,5,6] (xf' [.agg (c34' a0 A0_0 c0_0 A0_1 c0_1 A0_2 c0_2 A0_3 c0_3).toArray,iw' (IntKind.i32.wrap (a1.f1))]) (F27.ok (a0:=a0) (a1:=IntKind.i32.wrap (a1.f1)) C25) ?_)
  rintro _ _⟨A13,c14,A16,c17,A19,c20,A22,c23,rfl,rfl⟩
  refine s' (.agg (c34' r12.1 A13 c14 A16 c17 A19 c20 A22 c23).toArray) ex' ?_
  refine s' (il' r12.2) ex' ?_
  refine o' (su' b9 0 10 (c34' r12.1 A13 c14 A16 c17 A19 c20 A22 c23) ?_)
  refine s' (il' r12.2) as' ?_
  refine nt' (inb_ret (thn_ret ?_))
  have h_:=oi' H;subst h_
  exact b2' [.cell 4 34,.tmp 5] [0,1,2,3] ⟨A13,c14,A16,c17,A19,c20,A22,c23,rfl,rfl⟩ ⟨RV.cell (k:=10) rfl rfl Tryz.underlying34 rfl sz34,RV.tmp rfl,trivial⟩
 replace H:=g_iff h11 H
 refine SA_condF rfl h11 ?_
 refine qr' ?_
 refine s' (.bool (decide (a1.f0 = 1))) (V_eql rfl rfl) ?_
 refine s' (.bool (decide (a1.f0 = 1))) as' ?_
 refine na' ?_
 by_cases h26 : a1.f0 = 1
 ·replace H:=g_ift h26 H
  refine SA_condT rfl h26 ?_
  refine qr' ?_
  refine l' (lA' b5 0 4 (c34' a0 A0_0 c0_0 A0_1 c0_1 A0_2 c0_2 A0_3 c0_3)) ?_
  refine s' (pa' b7 1) (fa' b7 0 1) ?_
  refine l' (ld' b7 1 5) ?_
  refine s' (iw' (IntKind.i32.wrap (a1.f1))) (V_conv (T:=3) (by kernel_rfl) Tryz.underlying21 rfl) ?_
  obtain⟨r27,C40,H⟩:=g_bind H
  refine o' (ca' [0,1,2,3] [0,1,2,3,4,5,6] (xf' [.agg (c34' a0 A0_0 c0_0 A0_1 c0_1 A0_2 c0_2 A0_3 c0_3).toArray,iw' (IntKind.i32.wrap (a1.f1))]) (F28.ok (a0:=a0) (a1:=IntKind.i32.wrap (a1.f1)) C40) ?_)
  rintro _ _⟨A28,c29,A31,c32,A34,c35,A37,c38,rfl,rfl⟩
  refine s' (.agg (c34' r27.1 A28 c29 A31 c32 A34 c35 A37 c38).toArray) ex' ?_
  refine s' (il' r27.2) ex' ?_
  refine o' (su' b9 0 10 (c34' r27.1 A28 c29 A31 c32 A34 c35 A37 c38) ?_)
  refine s' (il' r27.2) as' ?_
  refine nt' (inb_ret (thn_ret ?_))
  have h_:=oi' H;subst h_
  exact b2' [.cell 4 34,.tmp 5] [0,1,2,3] ⟨A28,c29,A31,c32,A34,c35,A37,c38,rfl,rfl⟩ ⟨RV.cell (k:=10) rfl rfl Tryz.underlying34 rfl sz34,RV.tmp rfl,trivial⟩
 replace H:=g_iff h26 H
 refine SA_condF rfl h26 ?_
 refine qr' ?_
 refine s' (.bool (decide (a1.f0 = 2))) (V_eql rfl rfl) ?_
 refine s' (.bool (decide (a1.f0 = 2))) as' ?_
 refine na' ?_
 by_cases h41 : a1.f0 = 2
 ·replace H:=g_ift h41 H
  refine SA_condT rfl h41 ?_
  refine qr' ?_
  refine l' (lA' b5 0 4 (c34' a0 A0_0 c0_0 A0_1 c0_1 A0_2 c0_2 A0_3 c0_3)) ?_
  refine s' (pa' b7 1) (fa' b7 0 1) ?_
  refine l' (ld' b7 1 5) ?_
  refine s' (pa' b7 2) (fa' b7 0 2) ?_
  refine l' (ld' b7 2 5) ?_
  obtain⟨r42,C55,H⟩:=g_bind H
  refine o' (ca' [0,1,2,3] [0,1,2,3,4,5,6] (xf' [.agg (c34' a0 A0_0 c0_0 A0_1 c0_1 A0_2 c0_2 A0_3 c0_3).toArray,il' a1.f1,il' a1.f2]) (F29.ok (a0:=a0) (a1:=a1.f1) (a2:=a1.f2) C55) ?_)
  rintro _ _⟨A43,c44,A46,c47,A49,c50,A52,c53,rfl,rfl⟩
  refine s' (.agg (c34' r42.1 A43 c44 A46 c47 A49 c50 A52 c53).toArray) ex' ?_
  refine s' (il' r42.2) ex' ?_
  refine o' (su' b9 0 10 (c34' r42.1 A43 c44 A46 c47 A49 c50 A52 c53) ?_)
  refine s' (il' r42.2) as' ?_
  refine nt' (inb_ret (thn_ret ?_))
  have h_:=oi' H;subst h_
  exact b2' [.cell 4 34,.tmp 5] [0,1,2,3] ⟨A43,c44,A46,c47,A49,c50,A52,c53,rfl,rfl⟩ ⟨RV.cell (k:=10) rfl rfl Tryz.underlying34 rfl sz34,RV.tmp rfl,trivial⟩
 replace H:=g_iff h41 H
 refine SA_condF rfl h41 ?_
 refine qr' ?_
 refine s' (.bool (decide (a1.f0 = 3))) (V_eql rfl rfl) ?_
 refine s' (.bool (decide (a1.f0 = 3))) as' ?_
 refine na' ?_
 by_cases h56 : a1.f0 = 3
 ·replace H:=g_ift h56 H
  refine SA_condT rfl h56 ?_
  refine qr' ?_
  refine l' (lA' b5 0 4 (c34' a0 A0_0 c0_0 A0_1 c0_1 A0_2 c0_2 A0_3 c0_3)) ?_
  refine s' (pa' b7 1) (fa' b7 0 1) ?_
  refine l' (ld' b7 1 5) ?_
  refine s' (pa' b7 2) (fa' b7 0 2) ?_
  refine l' (ld' b7 2 5) ?_
  obtain⟨r57,C70,H⟩:=g_bind H
  refine o' (ca' [0,1,2,3] [0,1,2,3,4,5,6] (xf' [.agg (c34' a0 A0_0 c0_0 A0_1 c0_1 A0_2 c0_2 A0_3 c0_3).toArray,il' a1.f1,il' a1.f2]) (F30.ok (a0:=a0) (a1:=a1.f1) (a2:=a1.f2) C70) ?_)
  rintro _ _⟨A58,c59,A61,c62,A64,c65,A67,c68,rfl,rfl⟩
  refine s' (.agg (c34' r57.1 A58 c59 A61 c62 A64 c65 A67 c68).toArray) ex' ?_
  refine s' (il' r57.2) ex' ?_
  refine o' (su' b9 0 10 (c34' r57.1 A58 c59 A61 c62 A64 c65 A67 c68) ?_)
  refine s' (il' r57.2) as' ?_
  refine nt' (inb_ret (thn_ret ?_))
  have h_:=oi' H;subst h_
  exact b2' [.cell 4 34,.tmp 5] [0,1,2,3] ⟨A58,c59,A61,c62,A64,c65,A67,c68,rfl,rfl⟩ ⟨RV.cell (k:=10) rfl rfl Tryz.underlying34 rfl sz34,RV.tmp rfl,trivial⟩
 replace H:=g_iff h56 H
 refine SA_condF rfl h56 ?_
 refine qr' ?_
 refine s' (.bool (decide (a1.f0 = 4))) (V_eql rfl rfl) ?_
 refine s' (.bool (decide (a1.f0 = 4))) as' ?_
 refine na' ?_
 by_cases h71 : a1.f0 = 4
 ·replace H:=g_ift h71 H
  refine SA_condT rfl h71 ?_
  refine qr' ?_
  refine l' (lA' b5 0 4 (c34' a0 A0_0 c0_0 A0_1 c0_1 A0_2 c0_2 A0_3 c0_3)) ?_
  refine s' (pa' b7 3) (fa' b7 0 3) ?_
  refine l' (ld' b7 3 5) ?_
  refine s' (pa' b7 1) (fa' b7 0 1) ?_
  refine l' (ld' b7 1 5) ?_
  obtain⟨r72,C85,H⟩:=g_bind H
  refine o' (ca' [0,1,2,3] [0,1,2,3,4,5,6] (xf' [.agg (c34' a0 A0_0 c0_0 A0_1 c0_1 A0_2 c0_2 A0_3 c0_3).toArray,.bool a1.f3,il' a1.f1]) (F31.ok (a0:=a0) (a1:=a1.f3) (a2:=a1.f1) C85) ?_)
  rintro _ _⟨A73,c74,A76,c77,A79,c80,A82,c83,rfl,rfl⟩
  refine s' (.agg (c34' r72.1 A73 c74 A76 c77 A79 c80 A82 c83).toArray) ex' ?_
  refine s' (il' r72.2) ex' ?_
  refine o' (su' b9 0 10 (c34' r72.1 A73 c74 A76 c77 A79 c80 A82 c83) ?_)
  refine s' (il' r72.2) as' ?_
  refine nt' (inb_ret (thn_ret ?_))
  have h_:=oi' H;subst h_
  exact b2' [.cell 4 34,.tmp 5] [0,1,2,3] ⟨A73,c74,A76,c77,A79,c80,A82,c83,rfl,rfl⟩ ⟨RV.cell (k:=10) rfl rfl Tryz.underlying34 rfl sz34,RV.tmp rfl,trivial⟩
 replace H:=g_iff h71 H
 refine SA_condF rfl h71 ?_
 refine qr' ?_
 refine s' (.bool (decide (a1.f0 = 5))) (V_eql rfl rfl) ?_
 refine s' (.bool (decide (a1.f0 = 5))) as' ?_
 refine na' ?_
 by_cases h86 : a1.f0 = 5
 ·replace H:=g_ift h86 H
  refine SA_condT rfl h86 ?_
  refine qr' ?_
  refine l' (lA' b5 0 4 (c34' a0 A0_0 c0_0 A0_1 c0_1 A0_2 c0_2 A0_3 c0_3)) ?_
  refine s' (pa' b7 1) (fa' b7 0 1) ?_
  refine l' (ld' b7 1 5) ?_
  obtain⟨r87,C100,H⟩:=g_bind H
  refine o' (ca' [0,1,2,3] [0,1,2,3,4,5,6] (xf' [.agg (c34' a0 A0_0 c0_0 A0_1 c0_1 A0_2 c0_2 A0_3 c0_3).toArray,il' a1.f1]) (F32.ok (a0:=a0) (a1:=a1.f1) C100) ?_)
  rintro _ _⟨A88,c89,A91,c92,A94,c95,A97,c98,rfl,rfl⟩
  refine s' (.agg (c34' r87.1 A88 c89 A91 c92 A94 c95 A97 c98).toArray) ex' ?_
  refine s' (il' r87.2) ex' ?_
  refine o' (su' b9 0 10 (c34' r87.1 A88 c89 A91 c92 A94 c95 A97 c98) ?_)
  refine s' (il' r87.2) as' ?_
  refine nt' (inb_ret (thn_ret ?_))
  have h_:=oi' H;subst h_
  exact b2' [.cell 4 34,.tmp 5] [0,1,2,3] ⟨A88,c89,A91,c92,A94,c95,A97,c98,rfl,rfl⟩ ⟨RV.cell (k:=10) rfl rfl Tryz.underlying34 rfl sz34,RV.tmp rfl,trivial⟩
 replace H:=g_iff h86 H
 refine SA_condF rfl h86 ?_
 refine qr' ?_
 refine s' (.bool (decide (a1.f0 = 6))) (V_eql rfl rfl) ?_
 refine s' (.bool (decide (a1.f0 = 6))) as' ?_
 refine na' ?_
 by_cases h101 : a1.f0 = 6
 ·replace H:=g_ift h101 H
  refine SA_condT rfl h101 ?_
  refine qr' ?_
  refine l' (lA' b5 0 4 (c34' a0 A0_0 c0_0 A0_1 c0_1 A0_2 c0_2 A0_3 c0_3)) ?_
  refine s' (pa' b7 1) (fa' b7 0 1) ?_
  refine l' (ld' b7 1 5) ?_
  obtain⟨r102,C115,H⟩:=g_bind H
  refine o' (ca' [0,1,2,3] [0,1,2,3,4,5,6] (xf' [.agg (c34' a0 A0_0 c0_0 A0_1 c0_1 A0_2 c0_2 A0_3 c0_3).toArray,il' a1.f1]) (F33.ok (a0:=a0) (a1:=a1.f1) C115) ?_)
  rintro _ _⟨A103,c104,A106,c107,A109,c110,A112,c113,rfl,rfl⟩
  refine s' (.agg (c34' r102.1 A103 c104 A106 c107 A109 c110 A112 c113).toArray) ex' ?_
  refine s' (il' r102.2) ex' ?_
  refine o' (su' b9 0 10 (c34' r102.1 A103 c104 A106 c107 A109 c110 A112 c113) ?_)
  refine s' (il' r102.2) as' ?_
  refine nt' (inb_ret (thn_ret ?_))
  have h_:=oi' H;subst h_
  exact b2' [.cell 4 34,.tmp 5] [0,1,2,3] ⟨A103,c104,A106,c107,A109,c110,A112,c113,rfl,rfl⟩ ⟨RV.cell (k:=10) rfl rfl Tryz.underlying34 rfl sz34,RV.tmp rfl,trivial⟩
 replace H:=g_iff h101 H
 refine SA_condF rfl h101 ?_
 refine qr' ?_
 refine s' (.bool (decide (a1.f0 = 7))) (V_eql rfl rfl) ?_
 refine s' (.bool (decide (a1.f0 = 7))) as' ?_
 refine na' ?_
 by_cases h116 : a1.f0 = 7
 ·replace H:=g_ift h116 H
  refine SA_condT rfl h116 ?_
  refine qr' ?_
  refine l' (lA' b5 0 4 (c34' a0 A0_0 c0_0 A0_1 c0_1 A0_2 c0_2 A0_3 c0_3)) ?_
  refine s' (pa' b7 1) (fa' b7 0 1) ?_
  refine l' (ld' b7 1 5) ?_
  obtain⟨r117,C130,H⟩:=g_bind H
  refine o' (ca' [0,1,2,3] [0,1,2,3,4,5,6] (xf' [.agg (c34' a0 A0_0 c0_0 A0_1 c0_1 A0_2 c0_2 A0_3 c0_3).toArray,il' a1.f1]) (F34.ok (a0:=a0) (a1:=a1.f1) C130) ?_)
  rintro _ _⟨A118,c119,A121,c122,A124,c125,A127,c128,rfl,rfl⟩
  refine s' (.agg (c34' r117.1 A118 c119 A121 c122 A124 c125 A127 c128).toArray) ex' ?_
  refine s' (il' r117.2) ex' ?_
  refine o' (su' b9 0 10 (c34' r117.1 A118 c119 A121 c122 A124 c125 A127 c128) ?_)
  refine s' (il' r117.2) as' ?_
  refine nt' (inb_ret (thn_ret ?_))
  have h_:=oi' H;subst h_
  exact b2' [.cell 4 34,.tmp 5] [0,1,2,3] ⟨A118,c119,A121,c122,A124,c125,A127,c128,rfl,rfl⟩ ⟨RV.cell (k:=10) rfl rfl Tryz.underlying34 rfl sz34,RV.tmp rfl,trivial⟩
 replace H:=g_iff h116 H
 refine SA_condF rfl h116 ?_
 refine qr' ?_
 refine s' (.bool (decide (a1.f0 = 8))) (V_eql rfl rfl) ?_
 refine s' (.bool (decide (a1.f0 = 8))) as' ?_
 refine na' ?_
 by_cases h131 : a1.f0 = 8
 ·replace H:=g_ift h131 H
  refine SA_condT rfl h131 ?_
  refine qr' ?_
  refine l' (lA' b5 0 4 (c34' a0 A0_0 c0_0 A0_1 c0_1 A0_2 c0_2 A0_3 c0_3)) ?_
  refine s' (pa' b7 1) (fa' b7 0 1) ?_
  refine l' (ld' b7 1 5) ?_
  refine s' (pa' b7 2) (fa' b7 0 2) ?_
  refine l' (ld' b7 2 5) ?_
  obtain⟨r132,C145,H⟩:=g_bind H
  refine o' (ca' [0,1,2,3] [0,1,2,3,4,5,6] (xf' [.agg (c34' a0 A0_0 c0_0 A0_1 c0_1 A0_2 c0_2 A0_3 c0_3).toArray,il' a1.f1,il' a1.f2]) (F35.ok (a0:=a0) (a1:=a1.f1) (a2:=a1.f2) C145) ?_)
  rintro _ _⟨A133,c134,A136,c137,A139,c140,A142,c143,rfl,rfl⟩
  refine s' (.agg (c34' r132.1 A133 c134 A136 c137 A139 c140 A142 c143).toArray) ex' ?_
  refine s' (il' r132.2) ex' ?_
  refine o' (su' b9 0 10 (c34' r132.1 A133 c134 A136 c137 A139 c140 A142 c143) ?_)
  refine s' (il' r132.2) as' ?_
  refine nt' (inb_ret (thn_ret ?_))
  have h_:=oi' H;subst h_
  exact b2' [.cell 4 34,.tmp 5] [0,1,2,3] ⟨A133,c134,A136,c137,A139,c140,A142,c143,rfl,rfl⟩ ⟨RV.cell (k:=10) rfl rfl Tryz.underlying34 rfl sz34,RV.tmp rfl,trivial⟩
 replace H:=g_iff h131 H
 refine SA_condF rfl h131 ?_
 refine qr' ?_
 refine s' (.bool (decide (a1.f0 = 9))) (V_eql rfl rfl) ?_
 refine s' (.bool (decide (a1.f0 = 9))) as' ?_
 refine na' ?_
 refine SA.of_St (l:=[(2,pt' b5),(3,pt' b7),(4,pt' b9),(7,.int .u8 a1.f0),(90,.bool (decide (a1.f0 = 9)))]) (B:=[Blk b5 34 (c34' a0 A0_0 c0_0 A0_1 c0_1 A0_2 c0_2 A0_3 c0_3),Ro k55 A0_0 c0_0 a0.f0.f2,rl' A0_1 c0_1 a0.f7,Ro k55 A0_2 c0_2 a0.f16.f2,rw' A0_3 c0_3 a0.f17,Blk b7 44 [.int .u8 a1.f0,il' a1.f1,il' a1.f2,.bool a1.f3],Blk b9 34 (c34' z34' none 0 none 0 none 0 none 0)]) (St.mk1 (aeq rfl (aeq rfl (aeq rfl (aeq rfl (aeq rfl aeq0))))) (Gh.sel [4,0,1,2,3,5,6] (by kernel_rfl) (by kernel_rfl))) fun junk=>?_
 by_cases h146 : a1.f0 = 9
 ·replace H:=g_ift h146 H
  refine SA_condT rfl h146 ?_
  refine qr' ?_
  refine l' (lA' b5 0 0 (c34' a0 A0_0 c0_0 A0_1 c0_1 A0_2 c0_2 A0_3 c0_3)) ?_
  refine s' (pa' b7 3) (fa' b7 0 3) ?_
  refine l' (ld' b7 3 5) ?_
  obtain⟨r147,C160,H⟩:=g_bind H
  refine o' (ca' [1,2,3,4] [0,1,2,3,4,5,6] (xf' [.agg (c34' a0 A0_0 c0_0 A0_1 c0_1 A0_2 c0_2 A0_3 c0_3).toArray,.bool a1.f3]) (F17.ok (a0:=a0) (a1:=a1.f3) C160) ?_)
  rintro _ _⟨A148,c149,A151,c152,A154,c155,A157,c158,rfl,rfl⟩
  refine s' (.agg (c34' r147.1 A148 c149 A151 c152 A154 c155 A157 c158).toArray) ex' ?_
  refine s' (il' r147.2) ex' ?_
  refine o' (su' b9 0 10 (c34' r147.1 A148 c149 A151 c152 A154 c155 A157 c158) ?_)
  refine s' (il' r147.2) as' ?_
  refine nt' (inb_ret (thn_ret ?_))
  have h_:=oi' H;subst h_
  exact b2' [.cell 4 34,.tmp 5] [0,1,2,3] ⟨A148,c149,A151,c152,A154,c155,A157,c158,rfl,rfl⟩ ⟨RV.cell (k:=10) rfl rfl Tryz.underlying34 rfl sz34,RV.tmp rfl,trivial⟩
 replace H:=g_iff h146 H
 refine SA_condF rfl h146 ?_
 refine qr' ?_
 refine s' (.bool (decide (a1.f0 = 10))) (V_eql rfl rfl) ?_
 refine s' (.bool (decide (a1.f0 = 10))) as' ?_
 refine na' ?_
 by_cases h161 : a1.f0 = 10
 ·replace H:=g_ift h161 H
  refine SA_condT rfl h161 ?_
  refine qr' ?_
  refine l' (lA' b5 0 0 (c34' a0 A0_0 c0_0 A0_1 c0_1 A0_2 c0_2 A0_3 c0_3)) ?_
  refine s' (pa' b7 3) (fa' b7 0 3) ?_
  refine l' (ld' b7 3 5) ?_
  refine s' (pa' b7 1) (fa' b7 0 1) ?_
  refine l' (ld' b7 1 5) ?_
  refine s' (pa' b7 2) (fa' b7 0 2) ?_
  refine l' (ld' b7 2 5) ?_
  refine s' (.bool (decide (a1.f2 > 0))) (V_gtr rfl rfl) ?_
  obtain⟨r162,C175,H⟩:=g_bind H
  refine o' (ca' [1,2,3,4] [0,1,2,3,4,5,6] (xf' [.agg (c34' a0 A0_0 c0_0 A0_1 c0_1 A0_2 c0_2 A0_3 c0_3).toArray,.bool a1.f3,il' a1.f1,.bool (decide (a1.f2 > 0))]) (F36.ok (a0:=a0) (a1:=a1.f3) (a2:=a1.f1) (a3:=decide (a1.f2 > 0)) C175) ?_)
  rintro _ _⟨A163,c164,A166,c167,A169,c170,A172,c173,rfl,rfl⟩
  refine s' (.agg (c34' r162.1 A163 c164 A166 c167 A169 c170 A172 c173).toArray) ex' ?_
  refine s' (il' r162.2) ex' ?_
  refine o' (su' b9 0 10 (c34' r162.1 A163 c164 A166 c167 A169 c170 A172 c173) ?_)
  refine s' (il' r162.2) as' ?_
  refine nt' (inb_ret (thn_ret ?_))
  have h_:=oi' H;subst h_
  exact b2' [.cell 4 34,.tmp 5] [0,1,2,3] ⟨A163,c164,A166,c167,A169,c170,A172,c173,rfl,rfl⟩ ⟨RV.cell (k:=10) rfl rfl Tryz.underlying34 rfl sz34,RV.tmp rfl,trivial⟩
 replace H:=g_iff h161 H
 refine SA_condF rfl h161 ?_
 refine qr' ?_
 refine s' (.bool (decide (a1.f0 = 11))) (V_eql rfl rfl) ?_
 refine s' (.bool (decide (a1.f0 = 11))) as' ?_
 refine na' ?_
 by_cases h176 : a1.f0 = 11
 ·replace H:=g_ift h176 H
  refine SA_condT rfl h176 ?_
  refine qr' ?_
  refine l' (lA' b5 0 0 (c34' a0 A0_0 c0_0 A0_1 c0_1 A0_2 c0_2 A0_3 c0_3)) ?_
  refine s' (pa' b7 1) (fa' b7 0 1) ?_
  refine l' (ld' b7 1 5) ?_
  obtain⟨r177,C190,H⟩:=g_bind H
  refine o' (ca' [1,2,3,4] [0,1,2,3,4,5,6] (xf' [.agg (c34' a0 A0_0 c0_0 A0_1 c0_1 A0_2 c0_2 A0_3 c0_3).toArray,il' a1.f1]) (F37.ok (a0:=a0) (a1:=a1.f1) C190) ?_)
  rintro _ _⟨A178,c179,A181,c182,A184,c185,A187,c188,rfl,rfl⟩
  refine s' (.agg (c34' r177.1 A178 c179 A181 c182 A184 c185 A187 c188).toArray) ex' ?_
  refine s' (il' r177.2) ex' ?_
  refine o' (su' b9 0 10 (c34' r177.1 A178 c179 A181 c182 A184 c185 A187 c188) ?_)
  refine s' (il' r177.2) as' ?_
  refine nt' (inb_ret (thn_ret ?_))
  have h_:=oi' H;subst h_
  exact b2' [.cell 4 34,.tmp 5] [0,1,2,3] ⟨A178,c179,A181,c182,A184,c185,A187,c188,rfl,rfl⟩ ⟨RV.cell (k:=10) rfl rfl Tryz.underlying34 rfl sz34,RV.tmp rfl,trivial⟩
 replace H:=g_iff h176 H
 refine SA_condF rfl h176 ?_
 refine qr' ?_
 refine s' (.bool (decide (a1.f0 = 12))) (V_eql rfl rfl) ?_
 refine s' (.bool (decide (a1.f0 = 12))) as' ?_
 refine na' ?_
 by_cases h191 : a1.f0 = 12
 ·replace H:=g_ift h191 H
  refine SA_condT rfl h191 ?_
  refine qr' ?_
  refine l' (lA' b5 0 0 (c34' a0 A0_0 c0_0 A0_1 c0_1 A0_2 c0_2 A0_3 c0_3)) ?_
  refine s' (pa' b7 1) (fa' b7 0 1) ?_
  refine l' (ld' b7 1 5) ?_
  obtain⟨r192,C205,H⟩:=g_bind H
  refine o' (ca' [1,2,3,4] [0,1,2,3,4,5,6] (xf' [.agg (c34' a0 A0_0 c0_0 A0_1 c0_1 A0_2 c0_2 A0_3 c0_3).toArray,il' a1.f1]) (F38.ok (a0:=a0) (a1:=a1.f1) C205) ?_)
  rintro _ _⟨A193,c194,A196,c197,A199,c200,A202,c203,rfl,rfl⟩
  refine s' (.agg (c34' r192.1 A193 c194 A196 c197 A199 c200 A202 c203).toArray) ex' ?_
  refine s' (il' r192.2) ex' ?_
  refine o' (su' b9 0 10 (c34' r192.1 A193 c194 A196 c197 A199 c200 A202 c203) ?_)
  refine s' (il' r192.2) as' ?_
  refine nt' (inb_ret (thn_ret ?_))
  have h_:=oi' H;subst h_
  exact b2' [.cell 4 34,.tmp 5] [0,1,2,3] ⟨A193,c194,A196,c197,A199,c200,A202,c203,rfl,rfl⟩ ⟨RV.cell (k:=10) rfl rfl Tryz.underlying34 rfl sz34,RV.tmp rfl,trivial⟩
 replace H:=g_iff h191 H
 refine SA_condF rfl h191 ?_
 refine SA_skip (inb_normal (at_normal (qr' ?_)))
 refine l' (lA' b5 0 0 (c34' a0 A0_0 c0_0 A0_1 c0_1 A0_2 c0_2 A0_3 c0_3)) ?_
 refine s' (pa' b7 1) (fa' b7 0 1) ?_
 refine l' (ld' b7 1 5) ?_
 refine s' (pa' b7 2) (fa' b7 0 2) ?_
 refine l' (ld' b7 2 5) ?_
 obtain⟨r206,C219,H⟩:=g_bind H
 refine o' (ca' [1,2,3,4] [0,1,2,3,4,5,6] (xf' [.agg (c34' a0 A0_0 c0_0 A0_1 c0_1 A0_2 c0_2 A0_3 c0_3).toArray,il' a1.f1,il' a1.f2]) (F39.ok (a0:=a0) (a1:=a1.f1) (a2:=a1.f2) C219) ?_)
 rintro _ _⟨A207,c208,A210,c211,A213,c214,A216,c217,rfl,rfl⟩
 refine s' (.agg (c34' r206.1 A207 c208 A210 c211 A213 c214 A216 c217).toArray) ex' ?_
 refine s' (il' r206.2) ex' ?_
 refine o' (su' b9 0 10 (c34' r206.1 A207 c208 A210 c211 A213 c214 A216 c217) ?_)
 refine s' (il' r206.2) as' ?_
 refine nt' ?_
 have h_:=oi' H;subst h_
 exact b2' [.cell 4 34,.tmp 5] [0,1,2,3] ⟨A207,c208,A210,c211,A213,c214,A216,c217,rfl,rfl⟩ ⟨RV.cell (k:=10) rfl rfl Tryz.underlying34 rfl sz34,RV.tmp rfl,trivial⟩


def F141.f  : Option ((List S151)):=some ((((S151.mk 768 879)::(S151.mk 1155 1161)::(S151.mk 1425 1469)::(S151.mk 1471 1471)::(S151.mk 1473 1474)::(S151.mk 1552 1562)::(S151.mk 1611 1631)::(S151.mk 1750 1756)::(S151.mk 2304 2306)::(S151.mk 2364 2364)::(S151.mk 2369 2376)::(S151.mk 2381 2381)::(S151.mk 3633 3633)::(S151.mk 3636 3642)::(S151.mk 6832 6911)::(S151.mk 7616 7679)::(S151.mk 8203 8207)::(S151.mk 8234 8238)::(S151.mk 8288 8292)::(S151.mk 8400 8447)::(S151.mk 12330 12333)::(S151.mk 12441 12442)::(S151.mk 65024 65039)::(S151.mk 65056 65071)::(S151.mk 65279 65279)::(S151.mk 917760 917999)::[]) : (List S151)))
theorem F141.ok  {r : (List S151)} (H : F141.f  = some r) : SCA Tryz.prog 141 #[] [] (fun v B=>∃ A0_0_ c0_0_,v = .slice A0_0_ r.length c0_0_∧B = [Buf k151 151 A0_0_ c0_0_ r]):=by
 refine SCA_of_body Tryz.func141 rfl rfl ?_
 unfold F141.f at H
 refine qr' ?_
 refine s' (.slice none 0 0) as' ?_
 refine nr' ?_
 refine s' (.agg #[iw' 768,iw' 879]) bd' ?_
 refine s' (.agg #[iw' 1155,iw' 1161]) bd' ?_
 refine s' (.agg #[iw' 1425,iw' 1469]) bd' ?_
 refine s' (.agg #[iw' 1471,iw' 1471]) bd' ?_
 refine s' (.agg #[iw' 1473,iw' 1474]) bd' ?_
 refine s' (.agg #[iw' 1552,iw' 1562]) bd' ?_
 refine s' (.agg #[iw' 1611,iw' 1631]) bd' ?_
 refine s' (.agg #[iw' 1750,iw' 1756]) bd' ?_
 refine s' (.agg #[iw' 2304,iw' 2306]) bd' ?_
 refine s' (.agg #[iw' 2364,iw' 2364]) bd' ?_
 refine s' (.agg #[iw' 2369,iw' 2376]) bd' ?_
 refine s' (.agg #[iw' 2381,iw' 2381]) bd' ?_
 refine s' (.agg #[iw' 3633,iw' 3633]) bd' ?_
 refine s' (.agg #[iw' 3636,iw' 3642]) bd' ?_
 refine s' (.agg #[iw' 6832,iw' 6911]) bd' ?_
 refine s' (.agg #[iw' 7616,iw' 7679]) bd' ?_
 refine s' (.agg #[iw' 8203,iw' 8207]) bd' ?_
 refine s' (.agg #[iw' 8234,iw' 8238]) bd' ?_
 refine s' (.agg #[iw' 8288,iw' 8292]) bd' ?_
 refine s' (.agg #[iw' 8400,iw' 8447]) bd' ?_
 refine s' (.agg #[iw' 12330,iw' 12333]) bd' ?_
 refine s' (.agg #[iw' 12441,iw' 12442]) bd' ?_
 refine s' (.agg #[iw' 65024,iw' 65039]) bd' ?_
 refine s' (.agg #[iw' 65056,iw' 65071]) bd' ?_
 refine s' (.agg #[iw' 65279,iw' 65279]) bd' ?_
 refine s' (.agg #[iw' 917760,iw' 917999]) bd' ?_
 refine o' (OA_bs (kd:=k151) (zv:=(.agg #[iw' 0,iw' 0])) (sz:=2) (cells:=(iw' 768::iw' 879::iw' 1155::iw' 1161::iw' 1425::iw' 1469::iw' 1471::iw' 1471::iw' 1473::iw' 1474::iw' 1552::iw' 1562::iw' 1611::iw' 1631::iw' 1750::iw' 1756::iw' 2304::iw' 2306::iw' 2364::iw' 2364::iw' 2369::iw' 2376::iw' 2381::iw' 2381::iw' 3633::iw' 3633::iw' 3636::iw' 3642::iw' 6832::iw' 6911::iw' 7616::iw' 7679::iw' 8203::iw' 8207::iw' 8234::iw' 8238::iw' 8288::iw' 8292::iw' 8400::iw' 8447::iw' 12330::iw' 12333::iw' 12441::iw' 12442::iw' 65024::iw' 65039::iw' 65056::iw' 65071::iw' 65279::iw' 65279::iw' 917760::iw' 917999::[])) (xs:=(((S151.mk 768 879)::(S151.mk 1155 1161)::(S151.mk 1425 1469)::(S151.mk 1471 1471)::(S151.mk 1473 1474)::(S151.mk 1552 1562)::(S151.mk 1611 1631)::(S151.mk 1750 1756)::(S151.mk 2304 2306)::(S151.mk 2364 2364)::(S151.mk 2369 2376)::(S151.mk 2381 2381)::(S151.mk 3633 3633)::(S151.mk 3636 3642)::(S151.mk 6832 6911)::(S151.mk 7616 7679)::(S151.mk 8203 8207)::(S151.mk 8234 8238)::(S151.mk 8288 8292)::(S151.mk 8400 8447)::(S151.mk 12330 12333)::(S151.mk 12441 12442)::(S151.mk 65024 65039)::(S151.mk 65056 65071)::(S151.mk 65279 65279)::(S151.mk 917760 917999)::[]) : (List S151))) rfl Tryz.underlying132 zero151 sz151 rfl rfl rfl (by kernel_rfl) rfl rfl (RL_enc enc151 (fun _ _=>rfl) (by kernel_rfl)) fun b1=>?_)
 refine s' (.slice (some ⟨b1,0,none⟩) (((S151.mk 768 879)::(S151.mk 1155 1161)::(S151.mk 1425 1469)::(S151.mk 1471 1471)::(S151.mk 1473 1474)::(S151.mk 1552 1562)::(S151.mk 1611 1631)::(S151.mk 1750 1756)::(S151.mk 2304 2306)::(S151.mk 2364 2364)::(S151.mk 2369 2376)::(S151.mk 2381 2381)::(S151.mk 3633 3633)::(S151.mk 3636 3642)::(S151.mk 6832 6911)::(S151.mk 7616 7679)::(S151.mk 8203 8207)::(S151.mk 8234 8238)::(S151.mk 8288 8292)::(S151.mk 8400 8447)::(S151.mk 12330 12333)::(S151.mk 12441 12442)::(S151.mk 65024 65039)::(S151.mk 65056 65071)::(S151.mk 65279 65279)::(S151.mk 917760 917999)::[]) : (List S151)).length 26) as' ?_
 refine nt' ?_
 have h_:=oi' H;subst h_
 exact b1' [0] ⟨some ⟨b1,0,none⟩,26,rfl,rfl⟩


def F140b0.l0 (l0 : (List S151)) (a1 : Int) : Nat → Int → Option (Out (Bool) (Unit))
  | 0,_=>none
  | k + 1,x5_3=>if x5_3 < (l0.length : Int) then (if 0 ≤ x5_3∧x5_3 < (l0.length : Int) then ((if a1 ≥ ((rd l0 x5_3).f0) then (if 0 ≤ x5_3∧x5_3 < (l0.length : Int) then (some (decide (a1 ≤ ((rd l0 x5_3).f1)))) else none) else (some false) : Option Bool).bind (fun q9=>if q9 = true then (some (Out.ret (true))) else (lt (IntKind.i64.wrap (x5_3 + 1)) fun n15=>F140b0.l0 l0 a1 k n15))) else none) else (some (Out.go ()))
def F140b0.f (k : Nat) (l0 : (List S151)) (a1 : Int) : Option (Bool):=(F140b0.l0 l0 a1 k 0 : Option (Out (Bool) (Unit))).bind (fun t2=>Out.el t2 (fun r_=>some r_) (fun s3=>some (false)))
theorem F140b0.ok {l0 : (List S151)} {a1 : Int} {A0 : Option Addr} {c0 : Nat} {r : Bool} (H : F140b0.f k l0 a1 = some r) : SCA Tryz.prog 140 #[.slice A0 l0.length c0,iw' a1] [Buf k151 151 A0 c0 l0] (fun v B=>v = .bool r∧B = [Buf k151 151 A0 c0 l0]):=by
 refine SCA_of_body Tryz.func140 rfl rfl ?_
 unfold F140b0.f at H
 refine qr' ?_
 refine s' (.bool false) as' ?_
 refine nq' ?_
 refine s' (il' 0) as' ?_
 refine na' ?_
 obtain⟨t2,H,Bt2⟩:=g_bind H
 refine SA_mid (fun e ds As=>∃ (s3 : Unit),t2 = Out.go s3∧St [] [Buf k151 151 A0 c0 l0] e ds As) ?_ ?_
 ·refine SA_block ?_
  refine SA_loop (fun k_ e ds As=>∃ (x5_3 : Int),F140b0.l0 l0 a1 k_ x5_3 = some t2∧St [(0,.slice A0 l0.length c0),(1,iw' a1),(5,il' x5_3)] [Buf k151 151 A0 c0 l0] e ds As) (k:=k) ⟨_,H,sq' [0]⟩ ?_
  clear H
  rintro k4 e ds As ⟨x5_3,H,hst5⟩
  obtain _ | k4:=k4
  ·cases H
  rw [F140b0.l0] at H
  refine SA.of_St hst5 fun junk=>?_
  refine SA_seq (qr' ?_)
  refine s' (il' x5_3) mv' ?_
  refine s' (.slice A0 l0.length c0) mv' ?_
  refine s' (il' (l0.length : Int)) (V_len Tryz.underlying132 rfl) ?_
  refine s' (.bool (decide (x5_3 < (l0.length : Int)))) (V_lss rfl rfl) ?_
  refine na' ?_
  by_cases h6 : x5_3 < (l0.length : Int)
  ·replace H:=g_ift h6 H
   refine SA_condT rfl h6 ?_
   refine SA_skip (at_normal (SA_seq (SA_block (qr' ?_))))
   refine s' (iw' a1) mv' ?_
   refine s' (.slice A0 l0.length c0) mv' ?_
   refine s' (il' x5_3) mv' ?_
   obtain⟨⟨g7,g8⟩,H⟩:=g_pos H
   refine l' (VR_index (i:=x5_3) Tryz.underlying132 sz151 rfl rfl (Src.buf (k:=0) rfl) g7 g8) ?_
   refine s' (.pointer (some ((el A0 (x5_3.toNat * 2)).add 0))) (fB' (el A0 (x5_3.toNat * 2)) 0 0) ?_
   refine l' (VR_load_el (enc:=enc151) (i:=x5_3) (j:=x5_3.toNat * 2) (m:=0) (sz:=2) Tryz.underlying21 rfl rfl rfl rfl (Src.buf (k:=0) rfl) g7 g8 (fun _ _ h=>h) rfl) ?_
   refine s' (.bool (decide (a1 ≥ ((rd l0 x5_3).f0)))) (V_geq rfl rfl) ?_
   refine s' (.bool (decide (a1 ≥ ((rd l0 x5_3).f0)))) mv' ?_
   obtain⟨q9,H,Bq9⟩:=g_bind H
   refine RA_cut 8 (fun e ds As=>St [(0,.slice A0 l0.length c0),(1,iw' a1),(5,il' x5_3),(27,.bool q9)] [Buf k151 151 A0 c0 l0] e ds As) ?_ ?_
   ·by_cases h10 : a1 ≥ ((rd l0 x5_3).f0)
    ·replace H:=g_ift h10 H
     refine y' (dec_t h10) (iw' a1) mv' ?_
     refine y' (dec_t h10) (.slice A0 l0.length c0) mv' ?_
     refine y' (dec_t h10) (il' x5_3) mv' ?_
     obtain⟨⟨g11,g12⟩,H⟩:=g_pos H
     refine z' (dec_t h10) (VR_index (i:=x5_3) Tryz.underlying132 sz151 rfl rfl (Src.buf (k:=0) rfl) g11 g12) ?_
     refine y' (dec_t h10) (.pointer (some ((el A0 (x5_3.toNat * 2)).add 1))) (fB' (el A0 (x5_3.toNat * 2)) 0 1) ?_
     refine z' (dec_t h10) (VR_load_el (enc:=enc151) (i:=x5_3) (j:=x5_3.toNat * 2) (m:=1) (sz:=2) Tryz.underlying21 rfl rfl rfl rfl (Src.buf (k:=0) rfl) g11 g12 (fun _ _ h=>h) rfl) ?_
     refine y' (dec_t h10) (.bool (decide (a1 ≤ ((rd l0 x5_3).f1)))) (V_leq rfl rfl) ?_
     refine pT' (dec_t h10) ?_
     have h_:=oi' H;subst h_
     exact rm' [0]
    replace H:=g_iff h10 H
    refine no' 7 (dec_f h10) ?_
    refine pF' (dec_f h10) ?_
    have h_:=oi' H;subst h_
    exact rm' [0]
   rintro e ds As hst13
   clear H
   have H:=Bq9
   clear Bq9
   refine na' ?_
   refine SA.of_St hst13 fun junk=>?_
   by_cases h14 : q9 = true
   ·replace H:=g_ift h14 H
    refine SA_condTb rfl h14 ?_
    refine qr' ?_
    refine s' (.bool true) as' ?_
    refine nt' (inb_ret (thn_ret (thn_ret (inb_ret (thn_ret (thn_ret ?_))))))
    have h_:=oi' H;subst h_
    have hb_:=el_ret Bt2
    have hr_:=Option.some.inj hb_
    clear hb_
    subst hr_
    exact b1' [0] ⟨rfl,rfl⟩
   replace H:=g_iff h14 H
   refine SA_condFb rfl h14 ?_
   refine SA_skip (inb_normal (at_normal (SA_region ?_)))
   refine s' (il' x5_3) mv' ?_
   refine s' (il' (IntKind.i64.wrap (x5_3 + 1))) (V_add rfl rfl) ?_
   obtain⟨n15,hn15,H⟩:=g_lt H
   refine s' (il' n15) (V_assign (v:=il' n15) (congrArg (Value.int .i64) hn15.symm)) ?_
   refine RA_nil ?_
   exact at_normal ⟨k4,Nat.lt_succ_self _,_,H,sq' [0]⟩
  replace H:=g_iff h6 H
  refine SA_condF rfl h6 ?_
  refine SA_exit (thn_exit (thn_exit (inb_hit ?_)))
  have h_:=oi' H;subst h_
  exact at_normal ⟨(),rfl,sq' [0]⟩
 rintro e ds As ⟨s3,ht,hst16⟩
 clear H
 subst ht
 replace Bt2:=el_go Bt2
 have H:=Bt2
 clear Bt2
 refine at_normal ?_
 refine SA.of_St hst16 fun junk=>?_
 refine qr' ?_
 refine s' (.bool false) as' ?_
 refine nt' ?_
 have h_:=oi' H;subst h_
 exact b1' [0] ⟨rfl,rfl⟩

end Go.Proofs.YtckilbegmbaeeaaGreat.Z4

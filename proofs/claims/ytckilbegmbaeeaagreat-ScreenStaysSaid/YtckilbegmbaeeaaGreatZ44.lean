/- What functions compute, and that they do: 115b0, 59b0, 60b0, 61. -/
import Derived.Test.YtckilbegmbaeeaaGreatZ40
import Derived.Test.YtckilbegmbaeeaaGreatZ43
namespace Go.Proofs.YtckilbegmbaeeaaGreat.Z4
open Go Go.RowKit Go.Proofs.YtckilbegmbaeeaaGreat.SL
set_option linter.unusedVariables false
set_option maxHeartbeats 20000000
set_option maxRecDepth 100000
set_option linter.unusedSimpArgs false
attribute [local irreducible] IntKind.wrap minI maxI shrI shlI andI orI xorI andNotI cplI rd sub bytesOf strOf slA
variable {c0_0 c1_0 k : Nat}
variable {A0_0 A1_0 : Option Addr}
def F59b0.f (k : Nat) (a0 : S26) (a1 : S26) : Option (Bool):=lt ((decide (a0.f0 = a1.f0)) && (decide (a0.f1 = a1.f1))) fun q8=>(if q8 = true then ((F114b0.f k a0.f2 a1.f2).bind (fun r13=>some r13)) else (some false) : Option Bool).bind (fun q11=>some (q11))
theorem F59b0.ok {a0 : S26} {a1 : S26} {r : Bool} (H : F59b0.f k a0 a1 = some r) : SCA Tryz.prog 59 #[.agg #[il' a0.f0,il' a0.f1,.slice A0_0 a0.f2.length c0_0],.agg #[il' a1.f0,il' a1.f1,.slice A1_0 a1.f2.length c1_0]] [Buf k55 55 A0_0 c0_0 a0.f2,Ro k55 A1_0 c1_0 a1.f2] (fun v B=>v = .bool r∧B = [Buf k55 55 A0_0 c0_0 a0.f2]):=by
 refine SCA_of_body Tryz.func59 rfl rfl ?_
 unfold F59b0.f at H
 refine qr' ?_
 refine o' (bx' fun b3=>?_)
 refine o' (bx' fun b5=>?_)
 refine s' (.bool false) as' ?_
 refine na' (SA_seq ?_)
 refine fc' 0 fun hc7=>?_
 refine SA_region ?_
 refine s' (pt' b3) (fa' b3 0 0) ?_
 refine l' (ld' b3 0 2) ?_
 refine s' (pt' b5) (fa' b5 0 0) ?_
 refine l' (ld' b5 0 3) ?_
 refine s' (.bool (decide (a0.f0 = a1.f0))) (V_eql rfl rfl) ?_
 refine s' (.bool (decide (a0.f0 = a1.f0))) mv' ?_
 obtain⟨q8,hq8,H⟩:=g_lt H
 refine cR' 6 [(2,pt' b3),(3,pt' b5),(16,.bool q8)] [Buf k55 55 A0_0 c0_0 a0.f2,Blk b3 26 [il' a0.f0,il' a0.f1,.slice A0_0 a0.f2.length c0_0],Blk b5 26 [il' a1.f0,il' a1.f1,.slice A1_0 a1.f2.length c1_0],Ro k55 A1_0 c1_0 a1.f2] ?_ fun junk=>?_
 ·by_cases h9 : a0.f0 = a1.f0
  ·refine y' (dec_t h9) (pa' b3 1) (fa' b3 0 1) ?_
   refine z' (dec_t h9) (ld' b3 1 2) ?_
   refine y' (dec_t h9) (pa' b5 1) (fa' b5 0 1) ?_
   refine z' (dec_t h9) (ld' b5 1 3) ?_
   refine y' (dec_t h9) (.bool (decide (a0.f1 = a1.f1))) (V_eql rfl rfl) ?_
   refine pT' (dec_t h9) ?_
   refine RA_nil ?_
   exact at_normal (St.mk1 (aeq rfl (aeq rfl (aeq (congrArg Value.bool (and_t hq8 (dec_t h9))) aeq0))) (gs' [0,2,3,1]))
  refine no' 5 (dec_f h9) ?_
  refine pF' (dec_f h9) ?_
  refine RA_nil ?_
  exact at_normal (St.mk1 (aeq rfl (aeq rfl (aeq (congrArg Value.bool (and_f hq8 (dec_f h9))) aeq0))) (gs' [0,2,3,1]))
 refine s' (.bool q8) mv' ?_
 obtain⟨q11,H,Bq11⟩:=g_bind H
 refine cR' 6 [(23,.bool q11)] [Buf k55 55 A0_0 c0_0 a0.f2] ?_ fun junk=>?_
 ·by_cases h12 : q8 = true
  ·replace H:=g_ift h12 H
   refine y' h12 (pa' b3 2) (fa' b3 0 2) ?_
   refine z' h12 (ld' b3 2 1) ?_
   refine y' h12 (pa' b5 2) (fa' b5 0 2) ?_
   refine z' h12 (ld' b5 2 2) ?_
   obtain⟨r13,C14,H⟩:=g_bind H
   refine yo' h12 (ca' [0,3] [1,2,3] (xf' [.slice A0_0 a0.f2.length c0_0,.slice A1_0 a1.f2.length c1_0]) (F114b0.ok (l0:=a0.f2) (A0:=A0_0) (c0:=c0_0) (l1:=a1.f2) (A1:=A1_0) (c1:=c1_0) C14) ?_)
   rintro _ _⟨rfl,rfl⟩
   refine pT' h12 ?_
   have h_:=oi' H;subst h_
   exact rm' [0]
  replace H:=g_iff h12 H
  refine no' 5 (bno h12) ?_
  refine pF' (bno h12) ?_
  have h_:=oi' H;subst h_
  exact rm' [0]
 replace H:=Bq11
 refine s' (.bool q11) as' ?_
 refine nt' ?_
 have h_:=oi' H;subst h_
 exact b1' [0] ⟨rfl,rfl⟩


def F115b0.l0 (l0 : (List Int)) (g1 : Int → Option (Bool)) : Nat → Int → Option (Out (Int) (Unit))
  | 0,_=>none
  | k + 1,x8_4=>if x8_4 < (l0.length : Int) then (if 0 ≤ x8_4∧x8_4 < (l0.length : Int) then ((g1 (rd l0 x8_4)).bind (fun r10=>if r10 = true then (some (Out.ret (x8_4))) else (F115b0.l0 l0 g1 k (IntKind.i64.wrap (x8_4 + 1))))) else none) else (some (Out.go ()))
def F115b0.f (k : Nat) (l0 : (List Int)) (g1 : Int → Option (Bool)) : Option (Int):=(F115b0.l0 l0 g1 k 0 : Option (Out (Int) (Unit))).bind (fun t3=>Out.el t3 (fun r_=>some r_) (fun s4=>some ((-1))))
theorem F115b0.ok {l0 : (List Int)} {g1 : Int → Option (Bool)} {A0 : Option Addr} {c0 : Nat} {fv1 : Value} {Fr1 : Asrt} (hg1 : ∀ {x0_ : Int} {r_ : Bool},g1 x0_ = some r_ → FC Tryz.prog fv1 [iw' x0_] [Fr1] (fun v B=>∃ B0,(v = .bool r_∧B0 = [])∧B = B0 ++ [Fr1])) {r : Int} (H : F115b0.f k l0 g1 = some r) : SCA Tryz.prog 115 #[.slice A0 l0.length c0,fv1] [bw' 21 A0 c0 l0,Fr1] (fun v B=>v = il' r∧B = [bw' 21 A0 c0 l0,Fr1]):=by
 refine SCA_of_body Tryz.func115 rfl rfl ?_
 unfold F115b0.f at H
 refine qr' ?_
 refine s' (il' 0) as' ?_
 refine nq' ?_
 refine s' (.slice A0 l0.length c0) mv' ?_
 refine s' (il' (l0.length : Int)) (V_len Tryz.underlying32 rfl) ?_
 refine s' (il' 0) mv' ?_
 refine na' ?_
 obtain⟨t3,H,Bt3⟩:=g_bind H
 refine SA_mid (fun e ds As=>∃ (s4 : Unit),t3 = Out.go s4∧St [] [Fr1,bw' 21 A0 c0 l0] e ds As) ?_ ?_
 ·refine SA_block ?_
  refine SA_loop (fun k_ e ds As=>∃ (x8_4 : Int),F115b0.l0 l0 g1 k_ x8_4 = some t3∧St [(0,.slice A0 l0.length c0),(1,fv1),(7,il' (l0.length : Int)),(8,il' x8_4)] [Fr1,bw' 21 A0 c0 l0] e ds As) (k:=k) ⟨_,H,sq' [1,0]⟩ ?_
  clear H
  rintro k5 e ds As ⟨x8_4,H,hst6⟩
  obtain _ | k5:=k5
  ·cases H
  rw [F115b0.l0] at H
  refine SA.of_St hst6 fun junk=>?_
  refine qr' ?_
  refine s' (.bool (decide (x8_4 < (l0.length : Int)))) (V_lss rfl rfl) ?_
  refine na' (SA_seq ?_)
  by_cases h7 : x8_4 < (l0.length : Int)
  ·replace H:=g_ift h7 H
   refine SA_condT rfl h7 ?_
   refine SA_skip (at_normal (SA_seq (SA_block (qr' ?_))))
   refine s' (il' x8_4) mv' ?_
   refine s' (il' x8_4) as' ?_
   refine nr' ?_
   refine s' fv1 mv' ?_
   refine s' (.slice A0 l0.length c0) mv' ?_
   refine s' (il' x8_4) mv' ?_
   obtain⟨⟨g8,g9⟩,H⟩:=g_pos H
   refine l' (VR_index (i:=x8_4) Tryz.underlying32 sz21 rfl rfl (Src.buf (k:=1) rfl) g8 g9) ?_
   refine l' (VR_load_el (enc:=(fun x_ : Int=>[Value.int .i32 x_])) (i:=x8_4) (j:=x8_4.toNat * 1) (m:=0) (sz:=1) Tryz.underlying21 rfl rfl rfl rfl (Src.buf (k:=1) rfl) g8 g9 (fun _ _ h=>h) rfl) ?_
   obtain⟨r10,C12,H⟩:=g_bind H
   refine o' (OA_callF (vs:=[iw' (rd l0 x8_4)]) [0] [1] rfl rfl rfl rfl (hg1 (x0_:=rd l0 x8_4) C12) rfl ?_)
   rintro _ _⟨_,⟨rfl,rfl⟩,rfl⟩
   refine na' ?_
   by_cases h11 : r10 = true
   ·replace H:=g_ift h11 H
    refine SA_condTb rfl h11 ?_
    refine qr' ?_
    refine s' (il' x8_4) mv' ?_
    refine s' (il' x8_4) as' ?_
    refine nt' (inb_ret (thn_ret (thn_ret (inb_ret (thn_ret (thn_ret ?_))))))
    have h_:=oi' H;subst h_
    have hb_:=el_ret Bt3
    have hr_:=Option.some.inj hb_
    clear hb_
    subst hr_
    exact b1' [1,0] ⟨rfl,rfl⟩
   replace H:=g_iff h11 H
   refine SA_condFb rfl h11 ?_
   refine SA_skip (inb_normal (at_normal (SA_region ?_)))
   refine s' (il' (IntKind.i64.wrap (x8_4 + 1))) (V_add rfl rfl) ?_
   refine s' (il' (IntKind.i64.wrap (x8_4 + 1))) mv' ?_
   refine RA_nil ?_
   exact at_normal ⟨k5,Nat.lt_succ_self _,_,H,sq' [0,1]⟩
  replace H:=g_iff h7 H
  refine SA_condF rfl h7 ?_
  refine SA_exit (thn_exit (thn_exit (inb_hit ?_)))
  have h_:=oi' H;subst h_
  exact at_normal ⟨(),rfl,sq' [0,1]⟩
 rintro e ds As ⟨s4,ht,hst13⟩
 clear H
 subst ht
 replace Bt3:=el_go Bt3
 have H:=Bt3
 clear Bt3
 refine at_normal ?_
 refine SA.of_St hst13 fun junk=>?_
 refine qr' ?_
 refine s' (il' (-1)) as' ?_
 refine nt' ?_
 have h_:=oi' H;subst h_
 exact b1' [1,0] ⟨rfl,rfl⟩


def F60b0.f (k : Nat) (l0 : (List Int)) (g1 : Int → Option (Bool)) : Option (Bool):=(F115b0.f k l0 g1).bind (fun r4=>some (decide (r4 ≥ 0)))
theorem F60b0.ok {l0 : (List Int)} {g1 : Int → Option (Bool)} {A0 : Option Addr} {c0 : Nat} {fv1 : Value} {Fr1 : Asrt} (hg1 : ∀ {x0_ : Int} {r_ : Bool},g1 x0_ = some r_ → FC Tryz.prog fv1 [iw' x0_] [Fr1] (fun v B=>∃ B0,(v = .bool r_∧B0 = [])∧B = B0 ++ [Fr1])) {r : Bool} (H : F60b0.f k l0 g1 = some r) : SCA Tryz.prog 60 #[.slice A0 l0.length c0,fv1] [bw' 21 A0 c0 l0,Fr1] (fun v B=>v = .bool r∧B = [bw' 21 A0 c0 l0,Fr1]):=by
 refine SCA_of_body Tryz.func60 rfl rfl ?_
 unfold F60b0.f at H
 refine qr' ?_
 refine s' (.bool false) as' ?_
 refine na' (SA_seq ?_)
 refine fc' 0 fun hc3=>?_
 refine SA_region ?_
 refine s' (.slice A0 l0.length c0) mv' ?_
 refine s' fv1 mv' ?_
 obtain⟨r4,C5,H⟩:=g_bind H
 refine o' (ca' [0,1] [] (xf' [.slice A0 l0.length c0,fv1]) (F115b0.ok (l0:=l0) (A0:=A0) (c0:=c0) (g1:=g1) (fv1:=fv1) (Fr1:=Fr1) (hg1:=hg1) C5) ?_)
 rintro _ _⟨rfl,rfl⟩
 refine s' (.bool (decide (r4 ≥ 0))) (V_geq rfl rfl) ?_
 refine s' (.bool (decide (r4 ≥ 0))) as' ?_
 refine nt' ?_
 have h_:=oi' H;subst h_
 exact b1' [0,1] ⟨rfl,rfl⟩


def F61.f (a0 : Int) : Option (Bool):=some (decide (a0 < 0))
theorem F61.ok {a0 : Int} {r : Bool} (H : F61.f a0 = some r) : SCA Tryz.prog 61 #[iw' a0] [] (fun v B=>v = .bool r∧B = []):=by
 refine SCA_of_body Tryz.func61 rfl rfl ?_
 unfold F61.f at H
 refine qr' ?_
 refine s' (.bool false) as' ?_
 refine nr' ?_
 refine s' (iw' a0) mv' ?_
 refine s' (.bool (decide (a0 < 0))) (V_lss rfl rfl) ?_
 refine s' (.bool (decide (a0 < 0))) as' ?_
 refine nt' ?_
 have h_:=oi' H;subst h_
 exact b1' [] ⟨rfl,rfl⟩

end Go.Proofs.YtckilbegmbaeeaaGreat.Z4

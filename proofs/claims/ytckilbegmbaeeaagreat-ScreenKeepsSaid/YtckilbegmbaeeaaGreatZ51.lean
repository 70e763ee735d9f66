/- What functions compute, and that they do: 111, 113, 116b0, 147, 148, 149, 18b0b1, 21, 22, 23, 56, 58, 68, 69, 70, 8. -/
import Derived.Test.YtckilbegmbaeeaaGreatZ50
namespace Go.Proofs.YtckilbegmbaeeaaGreat.Z5
open Go Go.RowKit Go.Proofs.YtckilbegmbaeeaaGreat.SL
set_option linter.unusedVariables false
set_option maxHeartbeats 20000000
set_option maxRecDepth 100000
set_option linter.unusedSimpArgs false
attribute [local irreducible] IntKind.wrap minI maxI shrI shlI andI orI xorI andNotI cplI rd sub bytesOf strOf slA
variable {k : Nat}
def F22.f  : Option (S28):=some ((S28.mk (-1) (-1) false false false false false false false false))
theorem F22.ok  {r : S28} (H : F22.f  = some r) : SCA Tryz.prog 22 #[] [] (fun v B=>v = .agg (c28' r).toArray∧B = []):=by
 refine SCA_of_body Tryz.func22 rfl rfl ?_
 unfold F22.f at H
 refine qr' ?_
 refine o' (al' fun b1=>?_)
 refine nr' ?_
 refine s' (.agg (c28' (S28.mk (-1) (-1) false false false false false false false false)).toArray) bd' ?_
 refine o' (su' b1 0 0 (c28' (S28.mk (-1) (-1) false false false false false false false false)) ?_)
 refine nt' ?_
 have h_:=oi' H;subst h_
 exact BQ_RL (rs:=[.cell 0 28]) (vs:=[.agg (c28' (S28.mk (-1) (-1) false false false false false false false false)).toArray]) [] rfl ⟨RV.cell (k:=0) rfl rfl Tryz.underlying28 rfl sz28,trivial⟩ rfl (gs' []) ⟨rfl,rfl⟩


def F68.f (a0 : Int) (a1 : Int) : Option (Bool):=lt ((decide (a0 ≥ 1)) && (decide (a0 ≤ 512))) fun q1=>lt (q1 && (decide (a1 ≥ 1))) fun q4=>lt (q4 && (decide (a1 ≤ 512))) fun q7=>some (q7)
theorem F68.ok {a0 : Int} {a1 : Int} {r : Bool} (H : F68.f a0 a1 = some r) : SCA Tryz.prog 68 #[il' a0,il' a1] [] (fun v B=>v = .bool r∧B = []):=by
 refine SCA_of_body Tryz.func68 rfl rfl ?_
 unfold F68.f at H
 refine qr' ?_
 refine s' (.bool false) as' ?_
 refine nr' ?_
 refine s' (il' a0) mv' ?_
 refine s' (.bool (decide (a0 ≥ 1))) (V_geq rfl rfl) ?_
 refine s' (.bool (decide (a0 ≥ 1))) mv' ?_
 obtain⟨q1,hq1,H⟩:=g_lt H
 refine cR' 3 [(1,il' a1),(10,.bool q1)] [] ?_ fun junk=>?_
 ·by_cases h2 : a0 ≥ 1
  ·refine y' (dec_t h2) (il' a0) mv' ?_
   refine y' (dec_t h2) (.bool (decide (a0 ≤ 512))) (V_leq rfl rfl) ?_
   refine pT' (dec_t h2) ?_
   refine RA_nil ?_
   exact at_normal (St.mk1 (aeq rfl (aeq (congrArg Value.bool (and_t hq1 (dec_t h2))) aeq0)) (gs' []))
  refine no' 2 (dec_f h2) ?_
  refine pF' (dec_f h2) ?_
  refine RA_nil ?_
  exact at_normal (St.mk1 (aeq rfl (aeq (congrArg Value.bool (and_f hq1 (dec_f h2))) aeq0)) (gs' []))
 refine s' (.bool q1) mv' ?_
 obtain⟨q4,hq4,H⟩:=g_lt H
 refine cR' 3 [(1,il' a1),(14,.bool q4)] [] ?_ fun junk=>?_
 ·by_cases h5 : q1 = true
  ·refine y' h5 (il' a1) mv' ?_
   refine y' h5 (.bool (decide (a1 ≥ 1))) (V_geq rfl rfl) ?_
   refine pT' h5 ?_
   refine RA_nil ?_
   exact at_normal (St.mk1 (aeq rfl (aeq (congrArg Value.bool (and_t hq4 (h5))) aeq0)) (gs' []))
  refine no' 2 (bno h5) ?_
  refine pF' (bno h5) ?_
  refine RA_nil ?_
  exact at_normal (St.mk1 (aeq rfl (aeq (congrArg Value.bool (and_f hq4 (bno h5))) aeq0)) (gs' []))
 refine s' (.bool q4) mv' ?_
 obtain⟨q7,hq7,H⟩:=g_lt H
 refine cR' 3 [(18,.bool q7)] [] ?_ fun junk=>?_
 ·by_cases h8 : q4 = true
  ·refine y' h8 (il' a1) mv' ?_
   refine y' h8 (.bool (decide (a1 ≤ 512))) (V_leq rfl rfl) ?_
   refine pT' h8 ?_
   refine RA_nil ?_
   exact at_normal (St.mk1 (aeq (congrArg Value.bool (and_t hq7 (h8))) aeq0) (gs' []))
  refine no' 2 (bno h8) ?_
  refine pF' (bno h8) ?_
  refine RA_nil ?_
  exact at_normal (St.mk1 (aeq (congrArg Value.bool (and_f hq7 (bno h8))) aeq0) (gs' []))
 refine s' (.bool q7) as' ?_
 refine nt' ?_
 have h_:=oi' H;subst h_
 exact b1' [] ⟨rfl,rfl⟩


def F113.f (a0 : Int) : Option (Bool):=lt ((decide (a0 ≥ (-1))) && (decide (a0 ≤ 255))) fun q1=>some (q1)
theorem F113.ok {a0 : Int} {r : Bool} (H : F113.f a0 = some r) : SCA Tryz.prog 113 #[il' a0] [] (fun v B=>v = .bool r∧B = []):=by
 refine SCA_of_body Tryz.func113 rfl rfl ?_
 unfold F113.f at H
 refine qr' ?_
 refine s' (.bool false) as' ?_
 refine nr' ?_
 refine s' (il' a0) mv' ?_
 refine s' (.bool (decide (a0 ≥ (-1)))) (V_geq rfl rfl) ?_
 refine s' (.bool (decide (a0 ≥ (-1)))) mv' ?_
 obtain⟨q1,hq1,H⟩:=g_lt H
 refine cR' 3 [(8,.bool q1)] [] ?_ fun junk=>?_
 ·by_cases h2 : a0 ≥ (-1)
  ·refine y' (dec_t h2) (il' a0) mv' ?_
   refine y' (dec_t h2) (.bool (decide (a0 ≤ 255))) (V_leq rfl rfl) ?_
   refine pT' (dec_t h2) ?_
   refine RA_nil ?_
   exact at_normal (St.mk1 (aeq (congrArg Value.bool (and_t hq1 (dec_t h2))) aeq0) (gs' []))
  refine no' 2 (dec_f h2) ?_
  refine pF' (dec_f h2) ?_
  refine RA_nil ?_
  exact at_normal (St.mk1 (aeq (congrArg Value.bool (and_f hq1 (dec_f h2))) aeq0) (gs' []))
 refine s' (.bool q1) as' ?_
 refine nt' ?_
 have h_:=oi' H;subst h_
 exact b1' [] ⟨rfl,rfl⟩


def F58.f (a0 : S28) : Option (Bool):=(F113.f a0.f0).bind (fun r3=>(if r3 = true then ((F113.f a0.f1).bind (fun r6=>some r6)) else (some false) : Option Bool).bind (fun q4=>some (q4)))
theorem F58.ok {a0 : S28} {r : Bool} (H : F58.f a0 = some r) : SCA Tryz.prog 58 #[.agg (c28' a0).toArray] [] (fun v B=>v = .bool r∧B = []):=by
 refine SCA_of_body Tryz.func58 rfl rfl ?_
 unfold F58.f at H
 refine qr' ?_
 refine o' (bx' fun b1=>?_)
 refine s' (.bool false) as' ?_
 refine nr' ?_
 refine s' (pt' b1) (fa' b1 0 0) ?_
 refine l' (ld' b1 0 0) ?_
 obtain⟨r3,C9,H⟩:=g_bind H
 refine o' (ca' [] [0] (xf' [il' a0.f0]) (F113.ok (a0:=a0.f0) C9) ?_)
 rintro _ _⟨rfl,rfl⟩
 refine s' (.bool r3) mv' ?_
 obtain⟨q4,H,Bq4⟩:=g_bind H
 refine cR' 4 [(10,.bool q4)] [] ?_ fun junk=>?_
 ·by_cases h5 : r3 = true
  ·replace H:=g_ift h5 H
   refine y' h5 (pa' b1 1) (fa' b1 0 1) ?_
   refine z' h5 (ld' b1 1 0) ?_
   obtain⟨r6,C7,H⟩:=g_bind H
   refine yo' h5 (ca' [] [0] (xf' [il' a0.f1]) (F113.ok (a0:=a0.f1) C7) ?_)
   rintro _ _⟨rfl,rfl⟩
   refine pT' h5 ?_
   have h_:=oi' H;subst h_
   exact rm' []
  replace H:=g_iff h5 H
  refine no' 3 (bno h5) ?_
  refine pF' (bno h5) ?_
  have h_:=oi' H;subst h_
  exact rm' []
 replace H:=Bq4
 refine s' (.bool q4) as' ?_
 refine nt' ?_
 have h_:=oi' H;subst h_
 exact b1' [] ⟨rfl,rfl⟩


def F147.f (a0 : S28) : Option (S55):=(F22.f ).bind (fun r5=>some ((S55.mk 32 (S53.mk 0 0 0) 1 ({ r5 with f1:=a0.f1 }))))
theorem F147.ok {a0 : S28} {r : S55} (H : F147.f a0 = some r) : SCA Tryz.prog 147 #[.agg (c28' a0).toArray] [] (fun v B=>v = .agg (c55' r).toArray∧B = []):=by
 refine SCA_of_body Tryz.func147 rfl rfl ?_
 unfold F147.f at H
 refine qr' ?_
 refine o' (bx' fun b1=>?_)
 refine o' (al' fun b3=>?_)
 refine nr' ?_
 obtain⟨r5,C8,H⟩:=g_bind H
 refine o' (ca' [] [0,1] (xf' []) (F22.ok C8) ?_)
 rintro _ _⟨rfl,rfl⟩
 refine o' (al' fun b6=>?_)
 refine o' (su' b6 0 2 (c28' r5) ?_)
 refine nr' ?_
 refine s' (pa' b1 1) (fa' b1 0 1) ?_
 refine l' (ld' b1 1 0) ?_
 refine s' (pa' b6 1) (fa' b6 0 1) ?_
 refine o' (st' b6 1 2 [il' a0.f1] (c28' ({ r5 with f1:=a0.f1 })) ?_)
 refine nr' ?_
 refine l' (lA' b6 0 2 (c28' ({ r5 with f1:=a0.f1 }))) ?_
 refine s' (.agg (c55' (S55.mk 32 (S53.mk 0 0 0) 1 ({ r5 with f1:=a0.f1 }))).toArray) bd' ?_
 refine o' (su' b3 0 1 (c55' (S55.mk 32 (S53.mk 0 0 0) 1 ({ r5 with f1:=a0.f1 }))) ?_)
 refine nt' ?_
 have h_:=oi' H;subst h_
 exact BQ_RL (rs:=[.cell 2 55]) (vs:=[.agg (c55' (S55.mk 32 (S53.mk 0 0 0) 1 ({ r5 with f1:=a0.f1 }))).toArray]) [] rfl ⟨RV.cell (k:=1) rfl rfl Tryz.underlying55 rfl sz55,trivial⟩ rfl (gs' []) ⟨rfl,rfl⟩


def F116b0.l0 (l0 : (List S55)) (r4 : S55) : Nat → Int → (List S55) → Option ((List S55))
  | 0,_,_=>none
  | k + 1,x10_7,zm1_0_7=>if zm1_0_7.length = l0.length then (if x10_7 < (l0.length : Int) then (if 0 ≤ x10_7∧x10_7 < (zm1_0_7.length : Int) then (lt (zm1_0_7.set x10_7.toNat r4) fun n13=>(F116b0.l0 l0 r4 k (IntKind.i64.wrap (x10_7 + 1)) n13)) else none) else (some zm1_0_7)) else none
def F116b0.f (k : Nat) (l0 : (List S55)) (a1 : S28) : Option ((List S55)):=(F147.f a1).bind (fun r4=>(F116b0.l0 l0 r4 k 0 l0 : Option ((List S55))).bind (fun t7=>if t7.length = l0.length then (some (t7)) else none))
theorem F116b0.ok {l0 : (List S55)} {a1 : S28} {A0 : Option Addr} {c0 : Nat} {r : (List S55)} (H : F116b0.f k l0 a1 = some r) : SCA Tryz.prog 116 #[.slice A0 l0.length c0,.agg (c28' a1).toArray] [Buf k55 55 A0 c0 l0] (fun v B=>v = .tuple #[]∧B = [Buf k55 55 A0 c0 r]):=by
 refine SCA_of_body Tryz.func116 rfl rfl ?_
 unfold F116b0.f at H
 refine qr' ?_
 refine o' (bx' fun b2=>?_)
 refine nr' ?_
 refine l' (lA' b2 0 1 (c28' a1)) ?_
 obtain⟨r4,C17,H⟩:=g_bind H
 refine o' (ca' [] [0,1] (xf' [.agg (c28' a1).toArray]) (F147.ok (a0:=a1) C17) ?_)
 rintro _ _⟨rfl,rfl⟩
 refine o' (al' fun b5=>?_)
 refine o' (su' b5 0 2 (c55' r4) ?_)
 refine nr' ?_
 refine s' (.slice A0 l0.length c0) mv' ?_
 refine s' (il' (l0.length : Int)) (V_len Tryz.underlying24 rfl) ?_
 refine s' (il' 0) mv' ?_
 refine na' ?_
 obtain⟨t7,H,Bt7⟩:=g_bind H
 refine SA_mid (fun e ds As=>St [] [Buf k55 55 A0 c0 t7] e ds As) ?_ ?_
 ·refine SA_block ?_
  refine SA_loop (fun k_ e ds As=>∃ (x10_7 : Int) (zm1_0_7 : (List S55)),F116b0.l0 l0 r4 k_ x10_7 zm1_0_7 = some t7∧St [(0,.slice A0 zm1_0_7.length c0),(4,pt' b5),(9,il' (l0.length : Int)),(10,il' x10_7)] [Buf k55 55 A0 c0 zm1_0_7,Blk b5 55 (c55' r4)] e ds As) (k:=k) ⟨_,_,H,sq' [0,2]⟩ ?_
  clear H
  rintro k8 e ds As ⟨x10_7,zm1_0_7,H,hst9⟩
  obtain _ | k8:=k8
  ·cases H
  rw [F116b0.l0] at H
  obtain⟨hl14,H⟩:=g_pos H
  refine SA.of_St hst9 fun junk=>?_
  refine qr' ?_
  refine s' (.bool (decide (x10_7 < (l0.length : Int)))) (V_lss rfl rfl) ?_
  refine na' (SA_seq ?_)
  by_cases h10 : x10_7 < (l0.length : Int)
  ·replace H:=g_ift h10 H
   refine SA_condT rfl h10 ?_
   refine SA_skip (at_normal (SA_seq (SA_block (qr' ?_))))
   refine s' (il' x10_7) mv' ?_
   refine s' (il' x10_7) as' ?_
   refine na' (SA_region ?_)
   refine s' (.slice A0 zm1_0_7.length c0) mv' ?_
   refine s' (il' x10_7) mv' ?_
   refine l' (lA' b5 0 1 (c55' r4)) ?_
   obtain⟨⟨g11,g12⟩,H⟩:=g_pos H
   refine l' (VR_index (i:=x10_7) Tryz.underlying24 sz55 rfl rfl (Src.buf (k:=0) rfl) g11 g12) ?_
   obtain⟨n13,hn13,H⟩:=g_lt H
   have hl_n13 : n13.length = zm1_0_7.length:=by rw [hn13]; exact List.length_set
   refine o' (OA_stEl (k:=0) (i:=x10_7) (j:=x10_7.toNat * 15) (m:=0) (sz:=15) (xs:=zm1_0_7) (vs:=(c55' r4)) r4 rfl rfl rfl rfl rfl rfl rfl rfl sz55 g11 g12 rfl (fun _ _ h_=>by subst h_; rfl) ?_)
   rewrite [← hn13]
   try unfold c28'
   try rewrite [← hl_n13]
   refine RA_nil (inb_normal (at_normal (SA_region ?_)))
   refine s' (il' (IntKind.i64.wrap (x10_7 + 1))) (V_add rfl rfl) ?_
   refine s' (il' (IntKind.i64.wrap (x10_7 + 1))) mv' ?_
   refine RA_nil ?_
   exact at_normal ⟨k8,Nat.lt_succ_self _,_,_,H,sq' [0,1]⟩
  replace H:=g_iff h10 H
  refine SA_condF rfl h10 ?_
  refine SA_exit (thn_exit (thn_exit (inb_hit ?_)))
  have h_:=oi' H;subst h_
  exact sm' [0]
 rintro e ds As hst15
 clear H
 have H:=Bt7
 clear Bt7
 obtain⟨hl16,H⟩:=g_pos H
 have h_:=oi' H;subst h_
 exact BQ_n0s hst15 [Buf k55 55 A0 c0 t7] rfl (gs' [0]) ⟨rfl,rfl⟩


def F69.f (k : Nat) (a0 : Int) (a1 : Int) (a2 : S28) : Option (S26):=if 0 ≤ (IntKind.i64.wrap (a0 * a1))∧(IntKind.i64.wrap (a0 * a1)) ≤ 2932031007402 then lt (List.replicate (IntKind.i64.wrap (a0 * a1)).toNat (S55.mk 0 (S53.mk 0 0 0) 0 (S28.mk 0 0 false false false false false false false false))) fun n9=>((F116b0.f k n9 a2).bind (fun r13=>if r13.length = n9.length then (some ((S26.mk a0 a1 r13))) else none)) else none
theorem F69.ok {a0 : Int} {a1 : Int} {a2 : S28} {r : S26} (H : F69.f k a0 a1 a2 = some r) : SCA Tryz.prog 69 #[il' a0,il' a1,.agg (c28' a2).toArray] [] (fun v B=>∃ A0_0_ c0_0_,v = .agg #[il' r.f0,il' r.f1,.slice A0_0_ r.f2.length c0_0_]∧B = [Buf k55 55 A0_0_ c0_0_ r.f2]):=by
 refine SCA_of_body Tryz.func69 rfl rfl ?_
 unfold F69.f at H
 refine qr' ?_
 refine o' (bx' fun b1=>?_)
 refine o' (al' fun b3=>?_)
 refine nr' ?_
 refine s' (il' a0) mv' ?_
 refine s' (il' a1) mv' ?_
 refine s' (il' a0) mv' ?_
 refine s' (il' a1) mv' ?_
 refine s' (il' (IntKind.i64.wrap (a0 * a1))) (V_mul rfl rfl) ?_
 obtain⟨⟨g7,g8⟩,H⟩:=g_pos H
 obtain⟨n9,hn9,H⟩:=g_lt H
 refine o' (OA_mk (kd:=k55) (sz:=15) (l:=IntKind.i64.wrap (a0 * a1)) z55' n9 hn9 rfl Tryz.underlying24 inf55 rfl rfl g7 (by omega) (by omega) rfl rfl (fun _=>rfl) fun b5=>?_)
 refine s' (.agg #[il' a0,il' a1,.slice (some ⟨b5,0,none⟩) n9.length ((IntKind.i64.wrap (a0 * a1)).toNat)]) bd' ?_
 refine o' (al' fun b10=>?_)
 refine o' (su' b10 0 3 [il' a0,il' a1,.slice (some ⟨b5,0,none⟩) n9.length ((IntKind.i64.wrap (a0 * a1)).toNat)] ?_)
 refine na' (SA_seq ?_)
 refine fc' 2 fun hc12=>?_
 refine SA_region ?_
 refine s' (pa' b10 2) (fa' b10 0 2) ?_
 refine l' (ld' b10 2 3) ?_
 refine l' (lA' b1 0 0 (c28' a2)) ?_
 obtain⟨r13,C15,H⟩:=g_bind H
 obtain⟨hl14,H⟩:=g_pos H
 refine o' (ca' [2] [0,1,3] (xf' [.slice (some ⟨b5,0,none⟩) n9.length ((IntKind.i64.wrap (a0 * a1)).toNat),.agg (c28' a2).toArray]) (F116b0.ok (l0:=n9) (A0:=some ⟨b5,0,none⟩) (c0:=(IntKind.i64.wrap (a0 * a1)).toNat) (a1:=a2) C15) ?_)
 rintro _ _⟨rfl,rfl⟩
 try unfold c28'
 try rewrite [← hl14]
 refine nr' ?_
 refine l' (lA' b10 0 3 [il' a0,il' a1,.slice (some ⟨b5,0,none⟩) r13.length ((IntKind.i64.wrap (a0 * a1)).toNat)]) ?_
 refine o' (su' b3 0 2 [il' a0,il' a1,.slice (some ⟨b5,0,none⟩) r13.length ((IntKind.i64.wrap (a0 * a1)).toNat)] ?_)
 refine nt' ?_
 have h_:=oi' H;subst h_
 exact BQ_RL (rs:=[.cell 6 26]) (vs:=[.agg #[il' a0,il' a1,.slice (some ⟨b5,0,none⟩) r13.length ((IntKind.i64.wrap (a0 * a1)).toNat)]]) [Buf k55 55 (some ⟨b5,0,none⟩) ((IntKind.i64.wrap (a0 * a1)).toNat) r13] rfl ⟨RV.cell (k:=2) rfl rfl Tryz.underlying26 rfl sz26,trivial⟩ rfl (gs' [0]) ⟨some ⟨b5,0,none⟩,(IntKind.i64.wrap (a0 * a1)).toNat,rfl,rfl⟩


def F21.f (k : Nat) (a0 : Int) (a1 : Int) (a2 : S28) : Option (S26 × Int):=(F68.f a0 a1).bind (fun r5=>(if (!r5) = true then (some true) else ((F58.f a2).bind (fun r8=>some (!r8))) : Option Bool).bind (fun q6=>if q6 = true then (some (((S26.mk 0 0 ([] : (List S55))),2))) else ((F69.f k a0 a1 a2).bind (fun r13=>some ((r13,0))))))
theorem F21.ok {a0 : Int} {a1 : Int} {a2 : S28} {r : S26 × Int} (H : F21.f k a0 a1 a2 = some r) : SCA Tryz.prog 21 #[il' a0,il' a1,.agg (c28' a2).toArray] [] (fun v B=>∃ A0_0_ c0_0_,v = .tuple #[.agg #[il' r.1.f0,il' r.1.f1,.slice A0_0_ r.1.f2.length c0_0_],il' r.2]∧B = [Buf k55 55 A0_0_ c0_0_ r.1.f2]):=by
 refine SCA_of_body Tryz.func21 rfl rfl ?_
 unfold F21.f at H
 refine qr' ?_
 refine o' (bx' fun b1=>?_)
 refine o' (al' fun b3=>?_)
 refine s' (il' 0) as' ?_
 refine nq' ?_
 refine s' (il' a0) mv' ?_
 refine s' (il' a1) mv' ?_
 obtain⟨r5,C18,H⟩:=g_bind H
 refine o' (ca' [] [0,1] (xf' [il' a0,il' a1]) (F68.ok (a0:=a0) (a1:=a1) C18) ?_)
 rintro _ _⟨rfl,rfl⟩
 refine s' (.bool (!r5)) (V_not rfl) ?_
 refine s' (.bool (!r5)) mv' ?_
 obtain⟨q6,H,Bq6⟩:=g_bind H
 refine RA_cut 4 (fun e ds As=>St [(0,il' a0),(1,il' a1),(5,pt' b1),(6,pt' b3),(16,.bool q6)] [Blk b1 28 (c28' a2),Blk b3 26 [il' 0,il' 0,.slice none 0 0]] e ds As) ?_ ?_
 ·by_cases h7 : (!r5) = true
  ·replace H:=g_ift h7 H
   refine no' 3 h7 ?_
   refine pT' h7 ?_
   have h_:=oi' H;subst h_
   exact rm' [0,1]
  replace H:=g_iff h7 H
  refine z' (bno h7) (lA' b1 0 0 (c28' a2)) ?_
  obtain⟨r8,C9,H⟩:=g_bind H
  refine yo' (bno h7) (ca' [] [0,1] (xf' [.agg (c28' a2).toArray]) (F58.ok (a0:=a2) C9) ?_)
  rintro _ _⟨rfl,rfl⟩
  refine y' (bno h7) (.bool (!r8)) (V_not rfl) ?_
  refine pF' (bno h7) ?_
  have h_:=oi' H;subst h_
  exact rm' [0,1]
 rintro e ds As hst10
 clear H
 have H:=Bq6
 clear Bq6
 refine na' ?_
 refine SA.of_St hst10 fun junk=>?_
 by_cases h11 : q6 = true
 ·replace H:=g_ift h11 H
  refine SA_condTb rfl h11 ?_
  refine qr' ?_
  refine s' (.agg #[il' 0,il' 0,.slice none 0 0]) bd' ?_
  refine o' (su' b3 0 1 [il' 0,il' 0,.slice none 0 0] ?_)
  refine s' (il' 2) as' ?_
  refine ntt' ?_
  have h_:=oi' H;subst h_
  exact BQ_RL (rs:=[.cell 6 26,.tmp 7]) (vs:=[.agg #[il' 0,il' 0,.slice none 0 0],il' 2]) [Buf k55 55 none 0 ([] : (List S55))] rfl ⟨RV.cell (k:=1) rfl rfl Tryz.underlying26 rfl sz26,RV.tmp rfl,trivial⟩ rfl ((Gh.nilBuf k55 55).trans (gs' [2])) ⟨none,0,rfl,rfl⟩
 replace H:=g_iff h11 H
 refine SA_condFb rfl h11 ?_
 refine SA_skip (at_normal (qr' ?_))
 refine s' (il' a0) mv' ?_
 refine s' (il' a1) mv' ?_
 refine l' (lA' b1 0 0 (c28' a2)) ?_
 obtain⟨r13,C17,H⟩:=g_bind H
 refine o' (ca' [] [0,1] (xf' [il' a0,il' a1,.agg (c28' a2).toArray]) (F69.ok (a0:=a0) (a1:=a1) (a2:=a2) C17) ?_)
 rintro _ _⟨A14,c15,rfl,rfl⟩
 refine o' (su' b3 0 2 [il' r13.f0,il' r13.f1,.slice A14 r13.f2.length c15] ?_)
 refine s' (il' 0) as' ?_
 refine nt' ?_
 have h_:=oi' H;subst h_
 exact b2' [.cell 6 26,.tmp 7] [0] ⟨A14,c15,rfl,rfl⟩ ⟨RV.cell (k:=2) rfl rfl Tryz.underlying26 rfl sz26,RV.tmp rfl,trivial⟩


def F23.l0 (a0 : Int) : Nat → (List Int) → Int → Option ((List Int))
  | 0,_,_=>none
  | k + 1,x3_4,x4_4=>if x4_4 < a0 then (if x3_4.length + ([x4_4] : (List Int)).length ≤ 17592186044416 then lt (x3_4 ++ ([x4_4] : (List Int))) fun n18=>(lt (IntKind.i64.wrap (x4_4 + 8)) fun n19=>F23.l0 a0 k n18 n19) else none) else (some x3_4)
def F23.f (k : Nat) (a0 : Int) : Option ((List Int)):=(F23.l0 a0 k ([]) 8 : Option ((List Int))).bind (fun t1=>some (t1))
theorem F23.ok {a0 : Int} {r : (List Int)} (H : F23.f k a0 = some r) : SCA Tryz.prog 23 #[il' a0] [] (fun v B=>∃ A0_0_ c0_0_,v = .slice A0_0_ r.length c0_0_∧B = [bl' 3 A0_0_ c0_0_ r]):=by
 refine SCA_of_body Tryz.func23 rfl rfl ?_
 unfold F23.f at H
 refine qr' ?_
 refine s' (.slice none 0 0) as' ?_
 refine nr' ?_
 refine s' (.slice none 0 0) as' ?_
 refine nq' ?_
 refine s' (il' 8) as' ?_
 refine na' ?_
 obtain⟨t1,H,Bt1⟩:=g_bind H
 refine SA_mid (fun e ds As=>∃ (A2 : Option Addr) (c3 : Nat),St [(3,.slice A2 t1.length c3)] [bl' 3 A2 c3 t1] e ds As) ?_ ?_
 ·refine SA_block ?_
  refine SA_loop (fun k_ e ds As=>∃ (x3_4 : (List Int)) (x4_4 : Int),∃ (A5 : Option Addr) (c6 : Nat),F23.l0 a0 k_ x3_4 x4_4 = some t1∧St [(0,il' a0),(3,.slice A5 x3_4.length c6),(4,il' x4_4)] [bl' 3 A5 c6 x3_4] e ds As) (k:=k) ⟨_,_,none,0,H,St.mk1 (aeq rfl (aeq rfl (aeq rfl aeq0))) ((Gh.nilBuf (Kd.int .i64) 3).trans (gs' [0]))⟩ ?_
  clear H
  rintro k9 e ds As ⟨x3_4,x4_4,A5,c6,H,hst10⟩
  obtain _ | k9:=k9
  ·cases H
  rw [F23.l0] at H
  refine SA.of_St hst10 fun junk=>?_
  refine SA_seq (qr' ?_)
  refine s' (il' x4_4) mv' ?_
  refine s' (il' a0) mv' ?_
  refine s' (.bool (decide (x4_4 < a0))) (V_lss rfl rfl) ?_
  refine na' ?_
  by_cases h11 : x4_4 < a0
  ·replace H:=g_ift h11 H
   refine SA_condT rfl h11 ?_
   refine SA_skip (at_normal (SA_seq (SA_block (SA_region ?_))))
   refine s' (.slice A5 x3_4.length c6) mv' ?_
   refine s' (il' x4_4) mv' ?_
   refine o' (OA_bs (kd:=(Kd.int .i64)) (zv:=(il' 0)) (sz:=1) (cells:=[il' x4_4]) (xs:=([x4_4] : (List Int))) rfl Tryz.underlying29 zero3 sz3 rfl rfl rfl (by kernel_rfl) rfl rfl (RL_enc (fun x_ : Int=>[Value.int .i64 x_]) (fun _ _=>rfl) (by kernel_rfl)) fun b12=>?_)
   obtain⟨g15,H⟩:=g_pos H
   obtain⟨n18,hn18,H⟩:=g_lt H
   refine o' (OA_app (k:=0) (A:=A5) (c:=c6) (xs:=x3_4) (ys:=([x4_4] : (List Int))) n18 hn18 rfl Tryz.underlying29 inf3 rfl rfl rfl rfl rfl (Yld.slice Tryz.underlying29 (Src.buf (k:=1) rfl)) (by omega) (by omega) fun A16 c17=>?_)
   refine s' (.slice A16 n18.length c17) as' ?_
   refine RA_nil (inb_normal (at_normal (SA_region ?_)))
   refine s' (il' x4_4) mv' ?_
   refine s' (il' (IntKind.i64.wrap (x4_4 + 8))) (V_add rfl rfl) ?_
   obtain⟨n19,hn19,H⟩:=g_lt H
   refine s' (il' n19) (V_assign (v:=il' n19) (congrArg (Value.int .i64) hn19.symm)) ?_
   refine RA_nil ?_
   exact at_normal ⟨k9,Nat.lt_succ_self _,_,_,A16,c17,H,sq' [0]⟩
  replace H:=g_iff h11 H
  refine SA_condF rfl h11 ?_
  refine SA_exit (thn_exit (thn_exit (inb_hit ?_)))
  have h_:=oi' H;subst h_
  exact at_normal ⟨A5,c6,sq' [0]⟩
 rintro e ds As ⟨A2,c3,hst20⟩
 clear H
 have H:=Bt1
 clear Bt1
 refine at_normal ?_
 refine SA.of_St hst20 fun junk=>?_
 refine qr' ?_
 refine s' (.slice A2 t1.length c3) mv' ?_
 refine s' (.slice A2 t1.length c3) as' ?_
 refine nt' ?_
 have h_:=oi' H;subst h_
 exact b1' [0] ⟨A2,c3,rfl,rfl⟩


def F8.f (k : Nat) (a0 : Int) (a1 : Int) : Option (S34 × Int):=(F22.f ).bind (fun r3=>(F21.f k a0 a1 r3).bind (fun r4=>if r4.2 ≠ 0 then (some (((S34.mk (S26.mk 0 0 ([] : (List S55))) 0 0 false (S28.mk 0 0 false false false false false false false false) 0 0 ([] : (List Int)) false false false false false false (S31.mk 0 0 false false (S28.mk 0 0 false false false false false false false false)) false (S26.mk 0 0 ([] : (List S55))) ([] : (List Int))),r4.2))) else (((F22.f ).bind (fun r90=>(F23.f k a0).bind (fun r330=>some (S34.mk r4.1 0 0 false r90 0 (IntKind.i64.wrap (a1 - 1)) r330 true false false false false true (S31.mk 0 0 false false (S28.mk 0 0 false false false false false false false false)) false (S26.mk 0 0 ([] : (List S55))) ([] : (List Int))))) : Option (S34)).bind (fun t15=>(F22.f ).bind (fun r574=>some ((({ t15 with f14:=(S31.mk t15.f14.f0 t15.f14.f1 t15.f14.f2 t15.f14.f3 r574) }),0)))))))
theorem F8.ok {a0 : Int} {a1 : Int} {r : S34 × Int} (H : F8.f k a0 a1 = some r) : SCA Tryz.prog 8 #[il' a0,il' a1] [] (fun v B=>∃ A0_0_ c0_0_ A0_1_ c0_1_ A0_2_ c0_2_ A0_3_ c0_3_,v = .tuple #[.agg (c34' r.1 A0_0_ c0_0_ A0_1_ c0_1_ A0_2_ c0_2_ A0_3_ c0_3_).toArray,il' r.2]∧B = [Buf k55 55 A0_0_ c0_0_ r.1.f0.f2,bl' 3 A0_1_ c0_1_ r.1.f7,Buf k55 55 A0_2_ c0_2_ r.1.f16.f2,bw' 21 A0_3_ c0_3_ r.1.f17]):=by
 refine SCA_of_body Tryz.func8 rfl rfl ?_
 unfold F8.f at H
 refine qr' ?_
 refine o' (al' fun b1=>?_)
 refine s' (il' 0) as' ?_
 refine nr' ?_
 refine s' (il' a0) mv' ?_
 refine s' (il' a1) mv' ?_
 obtain⟨r3,C577,H⟩:=g_bind H
 refine o' (ca' [] [0] (xf' []) (F22.ok C577) ?_)
 rintro _ _⟨rfl,rfl⟩
 obtain⟨r4,C576,H⟩:=g_bind H
 refine o' (ca' [] [0] (xf' [il' a0,il' a1,.agg (c28' r3).toArray]) (F21.ok (a0:=a0) (a1:=a1) (a2:=r3) C576) ?_)
 rintro _ _⟨A5,c6,rfl,rfl⟩
 refine s' (.tuple #[.agg #[il' r4.1.f0,il' r4.1.f1,.slice A5 r4.1.f2.length c6],il' r4.2]) mv' ?_
 refine s' (.agg #[il' r4.1.f0,il' r4.1.f1,.slice A5 r4.1.f2.length c6]) ex' ?_
 refine s' (il' r4.2) ex' ?_
 refine o' (al' fun b8=>?_)
 refine o' (su' b8 0 2 [il' r4.1.f0,il' r4.1.f1,.slice A5 r4.1.f2.length c6] ?_)
 refine s' (il' r4.2) as' ?_
 refine nq' ?_
 refine s' (il' r4.2) mv' ?_
 refine s' (.bool (decide (r4.2 ≠ 0))) (V_neq rfl rfl) ?_
 refine na' ?_
 by_cases h10 : r4.2 ≠ 0
 ·replace H:=g_ift h10 H
  refine SA_condT rfl h10 ?_
  refine qr' ?_
  refine s' (.agg (c34' z34' none 0 none 0 none 0 none 0).toArray) bd' ?_
  refine s' (il' r4.2) mv' ?_
  refine o' (su' b1 0 1 (c34' z34' none 0 none 0 none 0 none 0) ?_)
  refine s' (il' r4.2) as' ?_
  refine ntt' ?_
  have h_:=oi' H;subst h_
  exact BQ_RL (rs:=[.cell 4 34,.tmp 5]) (vs:=[.agg (c34' z34' none 0 none 0 none 0 none 0).toArray,il' r4.2]) [Buf k55 55 none 0 ([] : (List S55)),bl' 3 none 0 ([] : (List Int)),Buf k55 55 none 0 ([] : (List S55)),bw' 21 none 0 ([] : (List Int))] rfl ⟨RV.cell (k:=1) rfl rfl Tryz.underlying34 rfl sz34,RV.tmp rfl,trivial⟩ rfl ((Gh.nilBuf k55 55).trans ((Gh.nilBuf (Kd.int .i64) 3).trans ((Gh.nilBuf k55 55).trans ((Gh.nilBuf (Kd.int .i32) 21).trans (gs' [3,4,5,6]))))) ⟨none,0,none,0,none,0,none,0,rfl,rfl⟩
 replace H:=g_iff h10 H
 refine SA_condF rfl h10 ?_
 refine SA_skip (at_normal (SA_seq ?_))
 obtain⟨t15,H,Bt15⟩:=g_bind H
 refine SA_mid (fun e ds As=>∃ (b16 : Nat),∃ (A18 : Option Addr) (c19 : Nat),∃ (A21 : Option Addr) (c22 : Nat),∃ (A24 : Option Addr) (c25 : Nat),∃ (A27 : Option Addr) (c28 : Nat),St [(4,pt' b1),(8,pt' b16)] [Blk b16 34 (c34' t15 A18 c19 A21 c22 A24 c25 A27 c28),Buf k55 55 A18 c19 t15.f0.f2,bl' 3 A21 c22 t15.f7,Buf k55 55 A24 c25 t15.f16.f2,bw' 21 A27 c28 t15.f17,Blk b1 34 (c34' z34' none 0 none 0 none 0 none 0)] e ds As) ?_ ?_
 ·refine SA_drawHq [0,2,3,4,6] #[[],[],[],[2],[],[4],[0,2,3,4],[],[0,2,3,4,6]] [2] [0,1] mixed rfl rfl rfl (PanOk.thn (PanOk.thn PanOk.body)) fun I0 hS h0 hh0 w0 sH dd pk=>?_
  refine r' 0 rfl sH (lA' b8 0 0 [il' r4.1.f0,il' r4.1.f1,.slice A5 r4.1.f2.length c6]) ?_
  refine t' (il' a1) 2 rfl sH mv' ?_
  refine t' (il' (IntKind.i64.wrap (a1 - 1))) 3 rfl sH (V_sub rfl rfl) ?_
  refine t' (il' a0) 4 rfl sH mv' ?_
  obtain⟨r90,C91,H⟩:=g_bind H
  obtain⟨r330,C334,H⟩:=g_bind H
  refine DH_many (rs:=[1,7]) dd (by kernel_rfl) (by decide) (fal_cons ⟨_,rfl,(.no rfl),?_⟩ (fal_cons ⟨_,rfl,(.no rfl),?_⟩ fal_nil))
  ·refine id (ca' [] [0,1] (xf' []) (F22.ok C91) ?_)
   rintro _ _⟨rfl,rfl⟩
   refine DH_many (rs:=[5,7]) dd (by kernel_rfl) (by decide) (fal_cons ⟨_,rfl,(.no rfl),?_⟩ (fal_cons ⟨_,rfl,(.no rfl),?_⟩ fal_nil))
   ·refine id (ca' [] [0,1] (xf' [il' a0]) (F23.ok (a0:=a0) C334) ?_)
    rintro _ _⟨A331,c332,rfl,rfl⟩
    refine t' (.agg (c34' (S34.mk r4.1 0 0 false r90 0 (IntKind.i64.wrap (a1 - 1)) r330 true false false false false true z31' false z26' ([] : (List Int))) A5 c6 A331 c332 none 0 none 0).toArray) 6 rfl sH bd' ?_
    refine DH_one 7 dd (by kernel_rfl) rfl (.no rfl) (OA_alloc rfl zero34 fun b450=>?_)
    refine DH_one 8 dd (by kernel_rfl) rfl (.no rfl) (su' b450 0 3 (c34' (S34.mk r4.1 0 0 false r90 0 (IntKind.i64.wrap (a1 - 1)) r330 true false false false false true z31' false z26' ([] : (List Int))) A5 c6 A331 c332 none 0 none 0) ?_)
    refine DH_open dd sH ?_
    refine DN_done (by kernel_rfl) ?_
    have h_:=oi' H;subst h_
    exact at_normal ⟨b450,A5,c6,A331,c332,none,0,none,0,St.mk1 (aeq rfl (aeq rfl aeq0)) ((Gh.nilBuf k55 55).trans ((Gh.nilBuf (Kd.int .i32) 21).trans (gs' [4,2,1,5,6,3])))⟩
   refine id (OA_alloc rfl zero34 fun b450=>?_)
   refine DH_one 5 dd (by kernel_rfl) rfl (.no rfl) (ca' [] [0,1,2] (xf' [il' a0]) (F23.ok (a0:=a0) C334) ?_)
   rintro _ _⟨A331,c332,rfl,rfl⟩
   refine t' (.agg (c34' (S34.mk r4.1 0 0 false r90 0 (IntKind.i64.wrap (a1 - 1)) r330 true false false false false true z31' false z26' ([] : (List Int))) A5 c6 A331 c332 none 0 none 0).toArray) 6 rfl sH bd' ?_
   refine DH_one 8 dd (by kernel_rfl) rfl (.no rfl) (su' b450 0 3 (c34' (S34.mk r4.1 0 0 false r90 0 (IntKind.i64.wrap (a1 - 1)) r330 true false false false false true z31' false z26' ([] : (List Int))) A5 c6 A331 c332 none 0 none 0) ?_)
   refine DH_open dd sH ?_
   refine DN_done (by kernel_rfl) ?_
   have h_:=oi' H;subst h_
   exact at_normal ⟨b450,A5,c6,A331,c332,none,0,none,0,St.mk1 (aeq rfl (aeq rfl aeq0)) ((Gh.nilBuf k55 55).trans ((Gh.nilBuf (Kd.int .i32) 21).trans (gs' [4,2,1,5,6,3])))⟩
  refine id (OA_alloc rfl zero34 fun b450=>?_)
  refine DH_one 1 dd (by kernel_rfl) rfl (.no rfl) (ca' [] [0,1,2] (xf' []) (F22.ok C91) ?_)
  rintro _ _⟨rfl,rfl⟩
  refine DH_one 5 dd (by kernel_rfl) rfl (.no rfl) (ca' [] [0,1,2] (xf' [il' a0]) (F23.ok (a0:=a0) C334) ?_)
  rintro _ _⟨A331,c332,rfl,rfl⟩
  refine t' (.agg (c34' (S34.mk r4.1 0 0 false r90 0 (IntKind.i64.wrap (a1 - 1)) r330 true false false false false true z31' false z26' ([] : (List Int))) A5 c6 A331 c332 none 0 none 0).toArray) 6 rfl sH bd' ?_
  refine DH_one 8 dd (by kernel_rfl) rfl (.no rfl) (su' b450 0 3 (c34' (S34.mk r4.1 0 0 false r90 0 (IntKind.i64.wrap (a1 - 1)) r330 true false false false false true z31' false z26' ([] : (List Int))) A5 c6 A331 c332 none 0 none 0) ?_)
  refine DH_open dd sH ?_
  refine DN_done (by kernel_rfl) ?_
  have h_:=oi' H;subst h_
  exact at_normal ⟨b450,A5,c6,A331,c332,none,0,none,0,St.mk1 (aeq rfl (aeq rfl aeq0)) ((Gh.nilBuf k55 55).trans ((Gh.nilBuf (Kd.int .i32) 21).trans (gs' [4,2,1,5,6,3])))⟩
 rintro e ds As ⟨b16,A18,c19,A21,c22,A24,c25,A27,c28,hst573⟩
 clear H
 have H:=Bt15
 clear Bt15
 refine at_normal ?_
 refine SA.of_St hst573 fun junk=>?_
 refine qr' ?_
 obtain⟨r574,C575,H⟩:=g_bind H
 refine o' (ca' [] [0,1,2,3,4,5] (xf' []) (F22.ok C575) ?_)
 rintro _ _⟨rfl,rfl⟩
 refine s' (pa' b16 25) (fa' b16 0 25) ?_
 refine s' (pa' b16 29) (fa' b16 25 29) ?_
 refine o' (st' b16 29 0 (c28' r574) (c34' ({ t15 with f14:=(S31.mk t15.f14.f0 t15.f14.f1 t15.f14.f2 t15.f14.f3 r574) }) A18 c19 A21 c22 A24 c25 A27 c28) ?_)
 refine nr' ?_
 refine l' (lA' b16 0 0 (c34' ({ t15 with f14:=(S31.mk t15.f14.f0 t15.f14.f1 t15.f14.f2 t15.f14.f3 r574) }) A18 c19 A21 c22 A24 c25 A27 c28)) ?_
 refine o' (su' b1 0 5 (c34' ({ t15 with f14:=(S31.mk t15.f14.f0 t15.f14.f1 t15.f14.f2 t15.f14.f3 r574) }) A18 c19 A21 c22 A24 c25 A27 c28) ?_)
 refine s' (il' 0) as' ?_
 refine nt' ?_
 have h_:=oi' H;subst h_
 exact b2' [.cell 4 34,.tmp 5] [1,2,3,4] ⟨A18,c19,A21,c22,A24,c25,A27,c28,rfl,rfl⟩ ⟨RV.cell (k:=5) rfl rfl Tryz.underlying34 rfl sz34,RV.tmp rfl,trivial⟩


def F70.f (a0 : Int) : Option (Bool):=lt ((decide (a0 ≥ 1)) && (decide (a0 ≤ 512))) fun q1=>some (q1)
theorem F70.ok {a0 : Int} {r : Bool} (H : F70.f a0 = some r) : SCA Tryz.prog 70 #[il' a0] [] (fun v B=>v = .bool r∧B = []):=by
 refine SCA_of_body Tryz.func70 rfl rfl ?_
 unfold F70.f at H
 refine qr' ?_
 refine s' (.bool false) as' ?_
 refine nr' ?_
 refine s' (il' a0) mv' ?_
 refine s' (.bool (decide (a0 ≥ 1))) (V_geq rfl rfl) ?_
 refine s' (.bool (decide (a0 ≥ 1))) mv' ?_
 obtain⟨q1,hq1,H⟩:=g_lt H
 refine cR' 3 [(8,.bool q1)] [] ?_ fun junk=>?_
 ·by_cases h2 : a0 ≥ 1
  ·refine y' (dec_t h2) (il' a0) mv' ?_
   refine y' (dec_t h2) (.bool (decide (a0 ≤ 512))) (V_leq rfl rfl) ?_
   refine pT' (dec_t h2) ?_
   refine RA_nil ?_
   exact at_normal (St.mk1 (aeq (congrArg Value.bool (and_t hq1 (dec_t h2))) aeq0) (gs' []))
  refine no' 2 (dec_f h2) ?_
  refine pF' (dec_f h2) ?_
  refine RA_nil ?_
  exact at_normal (St.mk1 (aeq (congrArg Value.bool (and_f hq1 (dec_f h2))) aeq0) (gs' []))
 refine s' (.bool q1) as' ?_
 refine nt' ?_
 have h_:=oi' H;subst h_
 exact b1' [] ⟨rfl,rfl⟩


def F111.f (a0 : Int) : Option (Bool):=lt ((decide (a0 ≥ (-1))) && (decide (a0 ≤ 255))) fun q1=>some (q1)
theorem F111.ok {a0 : Int} {r : Bool} (H : F111.f a0 = some r) : SCA Tryz.prog 111 #[il' a0] [] (fun v B=>v = .bool r∧B = []):=by
 refine SCA_of_body Tryz.func111 rfl rfl ?_
 unfold F111.f at H
 refine qr' ?_
 refine s' (.bool false) as' ?_
 refine nr' ?_
 refine s' (il' a0) mv' ?_
 refine s' (.bool (decide (a0 ≥ (-1)))) (V_geq rfl rfl) ?_
 refine s' (.bool (decide (a0 ≥ (-1)))) mv' ?_
 obtain⟨q1,hq1,H⟩:=g_lt H
 refine cR' 3 [(8,.bool q1)] [] ?_ fun junk=>?_
 ·by_cases h2 : a0 ≥ (-1)
  ·refine y' (dec_t h2) (il' a0) mv' ?_
   refine y' (dec_t h2) (.bool (decide (a0 ≤ 255))) (V_leq rfl rfl) ?_
   refine pT' (dec_t h2) ?_
   refine RA_nil ?_
   exact at_normal (St.mk1 (aeq (congrArg Value.bool (and_t hq1 (dec_t h2))) aeq0) (gs' []))
  refine no' 2 (dec_f h2) ?_
  refine pF' (dec_f h2) ?_
  refine RA_nil ?_
  exact at_normal (St.mk1 (aeq (congrArg Value.bool (and_f hq1 (dec_f h2))) aeq0) (gs' []))
 refine s' (.bool q1) as' ?_
 refine nt' ?_
 have h_:=oi' H;subst h_
 exact b1' [] ⟨rfl,rfl⟩


def F56.f (a0 : S28) : Option (Bool):=(F111.f a0.f0).bind (fun r3=>(if r3 = true then ((F111.f a0.f1).bind (fun r6=>some r6)) else (some false) : Option Bool).bind (fun q4=>some (q4)))
theorem F56.ok {a0 : S28} {r : Bool} (H : F56.f a0 = some r) : SCA Tryz.prog 56 #[.agg (c28' a0).toArray] [] (fun v B=>v = .bool r∧B = []):=by
 refine SCA_of_body Tryz.func56 rfl rfl ?_
 unfold F56.f at H
 refine qr' ?_
 refine o' (bx' fun b1=>?_)
 refine s' (.bool false) as' ?_
 refine nr' ?_
 refine s' (pt' b1) (fa' b1 0 0) ?_
 refine l' (ld' b1 0 0) ?_
 obtain⟨r3,C9,H⟩:=g_bind H
 refine o' (ca' [] [0] (xf' [il' a0.f0]) (F111.ok (a0:=a0.f0) C9) ?_)
 rintro _ _⟨rfl,rfl⟩
 refine s' (.bool r3) mv' ?_
 obtain⟨q4,H,Bq4⟩:=g_bind H
 refine cR' 4 [(10,.bool q4)] [] ?_ fun junk=>?_
 ·by_cases h5 : r3 = true
  ·replace H:=g_ift h5 H
   refine y' h5 (pa' b1 1) (fa' b1 0 1) ?_
   refine z' h5 (ld' b1 1 0) ?_
   obtain⟨r6,C7,H⟩:=g_bind H
   refine yo' h5 (ca' [] [0] (xf' [il' a0.f1]) (F111.ok (a0:=a0.f1) C7) ?_)
   rintro _ _⟨rfl,rfl⟩
   refine pT' h5 ?_
   have h_:=oi' H;subst h_
   exact rm' []
  replace H:=g_iff h5 H
  refine no' 3 (bno h5) ?_
  refine pF' (bno h5) ?_
  have h_:=oi' H;subst h_
  exact rm' []
 replace H:=Bq4
 refine s' (.bool q4) as' ?_
 refine nt' ?_
 have h_:=oi' H;subst h_
 exact b1' [] ⟨rfl,rfl⟩


def F18b0b1.l0 (a0 : S26) (a1 : S26) : Nat → Int → Option (Out (Bool) (Unit))
  | 0,_=>none
  | k + 1,x5_15=>if x5_15 < (a0.f2.length : Int) then (if 0 ≤ x5_15∧x5_15 < (a0.f2.length : Int) then (if 0 ≤ x5_15∧x5_15 < (a1.f2.length : Int) then (if (rd a0.f2 x5_15) ≠ (rd a1.f2 x5_15) then (some (Out.ret (false))) else (lt (IntKind.i64.wrap (x5_15 + 1)) fun n681=>F18b0b1.l0 a0 a1 k n681)) else none) else none) else (some (Out.go ()))
def F18b0b1.f (k : Nat) (a0 : S26) (a1 : S26) : Option (Bool):=lt ((decide (a0.f0 ≠ a1.f0)) || (decide (a0.f1 ≠ a1.f1))) fun q7=>lt (q7 || (decide ((a0.f2.length : Int) ≠ (a1.f2.length : Int)))) fun q10=>if q10 = true then (some (false)) else ((F18b0b1.l0 a0 a1 k 0 : Option (Out (Bool) (Unit))).bind (fun t14=>Out.el t14 (fun r_=>some r_) (fun s15=>some (true))))

def F148.f  : Option ((List S138)):=some ((((S138.mk 4352 4447)::(S138.mk 8986 8987)::(S138.mk 9001 9002)::(S138.mk 9193 9196)::(S138.mk 9725 9726)::(S138.mk 9748 9749)::(S138.mk 9800 9811)::(S138.mk 9889 9889)::(S138.mk 9917 9918)::(S138.mk 9989 9989)::(S138.mk 10024 10024)::(S138.mk 10060 10060)::(S138.mk 10067 10069)::(S138.mk 10133 10135)::(S138.mk 11035 11036)::(S138.mk 11088 11088)::(S138.mk 11904 12350)::(S138.mk 12353 13311)::(S138.mk 13312 19903)::(S138.mk 19968 40959)::(S138.mk 40960 42191)::(S138.mk 44032 55203)::(S138.mk 63744 64255)::(S138.mk 65072 65135)::(S138.mk 65281 65376)::(S138.mk 65504 65510)::(S138.mk 127744 127776)::(S138.mk 127789 127797)::(S138.mk 127799 127868)::(S138.mk 128000 128062)::(S138.mk 128064 128064)::(S138.mk 128066 128252)::(S138.mk 128512 128591)::(S138.mk 128640 128709)::(S138.mk 129280 129535)::(S138.mk 131072 196605)::(S138.mk 196608 262141)::[]) : (List S138)))
theorem F148.ok  {r : (List S138)} (H : F148.f  = some r) : SCA Tryz.prog 148 #[] [] (fun v B=>v = .agg (List.flatMap enc138 ((rd r 0)::(rd r 1)::(rd r 2)::(rd r 3)::(rd r 4)::(rd r 5)::(rd r 6)::(rd r 7)::(rd r 8)::(rd r 9)::(rd r 10)::(rd r 11)::(rd r 12)::(rd r 13)::(rd r 14)::(rd r 15)::(rd r 16)::(rd r 17)::(rd r 18)::(rd r 19)::(rd r 20)::(rd r 21)::(rd r 22)::(rd r 23)::(rd r 24)::(rd r 25)::(rd r 26)::(rd r 27)::(rd r 28)::(rd r 29)::(rd r 30)::(rd r 31)::(rd r 32)::(rd r 33)::(rd r 34)::(rd r 35)::(rd r 36)::[])).toArray∧B = []):=by
 refine SCA_of_body Tryz.func148 rfl rfl ?_
 unfold F148.f at H
 refine qr' ?_
 refine o' (al' fun b1=>?_)
 refine nr' ?_
 refine s' (.agg #[iw' 4352,iw' 4447]) bA' ?_
 refine s' (.agg #[iw' 8986,iw' 8987]) bA' ?_
 refine s' (.agg #[iw' 9001,iw' 9002]) bA' ?_
 refine s' (.agg #[iw' 9193,iw' 9196]) bA' ?_
 refine s' (.agg #[iw' 9725,iw' 9726]) bA' ?_
 refine s' (.agg #[iw' 9748,iw' 9749]) bA' ?_
 refine s' (.agg #[iw' 9800,iw' 9811]) bA' ?_
 refine s' (.agg #[iw' 9889,iw' 9889]) bA' ?_
 refine s' (.agg #[iw' 9917,iw' 9918]) bA' ?_
 refine s' (.agg #[iw' 9989,iw' 9989]) bA' ?_
 refine s' (.agg #[iw' 10024,iw' 10024]) bA' ?_
 refine s' (.agg #[iw' 10060,iw' 10060]) bA' ?_
 refine s' (.agg #[iw' 10067,iw' 10069]) bA' ?_
 refine s' (.agg #[iw' 10133,iw' 10135]) bA' ?_
 refine s' (.agg #[iw' 11035,iw' 11036]) bA' ?_
 refine s' (.agg #[iw' 11088,iw' 11088]) bA' ?_
 refine s' (.agg #[iw' 11904,iw' 12350]) bA' ?_
 refine s' (.agg #[iw' 12353,iw' 13311]) bA' ?_
 refine s' (.agg #[iw' 13312,iw' 19903]) bA' ?_
 refine s' (.agg #[iw' 19968,iw' 40959]) bA' ?_
 refine s' (.agg #[iw' 40960,iw' 42191]) bA' ?_
 refine s' (.agg #[iw' 44032,iw' 55203]) bA' ?_
 refine s' (.agg #[iw' 63744,iw' 64255]) bA' ?_
 refine s' (.agg #[iw' 65072,iw' 65135]) bA' ?_
 refine s' (.agg #[iw' 65281,iw' 65376]) bA' ?_
 refine s' (.agg #[iw' 65504,iw' 65510]) bA' ?_
 refine s' (.agg #[iw' 127744,iw' 127776]) bA' ?_
 refine s' (.agg #[iw' 127789,iw' 127797]) bA' ?_
 refine s' (.agg #[iw' 127799,iw' 127868]) bA' ?_
 refine s' (.agg #[iw' 128000,iw' 128062]) bA' ?_
 refine s' (.agg #[iw' 128064,iw' 128064]) bA' ?_
 refine s' (.agg #[iw' 128066,iw' 128252]) bA' ?_
 refine s' (.agg #[iw' 128512,iw' 128591]) bA' ?_
 refine s' (.agg #[iw' 128640,iw' 128709]) bA' ?_
 refine s' (.agg #[iw' 129280,iw' 129535]) bA' ?_
 refine s' (.agg #[iw' 131072,iw' 196605]) bA' ?_
 refine s' (.agg #[iw' 196608,iw' 262141]) bA' ?_
 refine s' (.agg (List.toArray (iw' 4352::iw' 4447::iw' 8986::iw' 8987::iw' 9001::iw' 9002::iw' 9193::iw' 9196::iw' 9725::iw' 9726::iw' 9748::iw' 9749::iw' 9800::iw' 9811::iw' 9889::iw' 9889::iw' 9917::iw' 9918::iw' 9989::iw' 9989::iw' 10024::iw' 10024::iw' 10060::iw' 10060::iw' 10067::iw' 10069::iw' 10133::iw' 10135::iw' 11035::iw' 11036::iw' 11088::iw' 11088::iw' 11904::iw' 12350::iw' 12353::iw' 13311::iw' 13312::iw' 19903::iw' 19968::iw' 40959::iw' 40960::iw' 42191::iw' 44032::iw' 55203::iw' 63744::iw' 64255::iw' 65072::iw' 65135::iw' 65281::iw' 65376::iw' 65504::iw' 65510::iw' 127744::iw' 127776::iw' 127789::iw' 127797::iw' 127799::iw' 127868::iw' 128000::iw' 128062::iw' 128064::iw' 128064::iw' 128066::iw' 128252::iw' 128512::iw' 128591::iw' 128640::iw' 128709::iw' 129280::iw' 129535::iw' 131072::iw' 196605::iw' 196608::iw' 262141::[]))) bA' ?_
 refine o' (OA_st (b:=b1) (m:=0) (k:=0) (vs:=(List.flatMap enc138 ((S138.mk 4352 4447)::(S138.mk 8986 8987)::(S138.mk 9001 9002)::(S138.mk 9193 9196)::(S138.mk 9725 9726)::(S138.mk 9748 9749)::(S138.mk 9800 9811)::(S138.mk 9889 9889)::(S138.mk 9917 9918)::(S138.mk 9989 9989)::(S138.mk 10024 10024)::(S138.mk 10060 10060)::(S138.mk 10067 10069)::(S138.mk 10133 10135)::(S138.mk 11035 11036)::(S138.mk 11088 11088)::(S138.mk 11904 12350)::(S138.mk 12353 13311)::(S138.mk 13312 19903)::(S138.mk 19968 40959)::(S138.mk 40960 42191)::(S138.mk 44032 55203)::(S138.mk 63744 64255)::(S138.mk 65072 65135)::(S138.mk 65281 65376)::(S138.mk 65504 65510)::(S138.mk 127744 127776)::(S138.mk 127789 127797)::(S138.mk 127799 127868)::(S138.mk 128000 128062)::(S138.mk 128064 128064)::(S138.mk 128066 128252)::(S138.mk 128512 128591)::(S138.mk 128640 128709)::(S138.mk 129280 129535)::(S138.mk 131072 196605)::(S138.mk 196608 262141)::[]))) (cs':=(List.flatMap enc138 ((S138.mk 4352 4447)::(S138.mk 8986 8987)::(S138.mk 9001 9002)::(S138.mk 9193 9196)::(S138.mk 9725 9726)::(S138.mk 9748 9749)::(S138.mk 9800 9811)::(S138.mk 9889 9889)::(S138.mk 9917 9918)::(S138.mk 9989 9989)::(S138.mk 10024 10024)::(S138.mk 10060 10060)::(S138.mk 10067 10069)::(S138.mk 10133 10135)::(S138.mk 11035 11036)::(S138.mk 11088 11088)::(S138.mk 11904 12350)::(S138.mk 12353 13311)::(S138.mk 13312 19903)::(S138.mk 19968 40959)::(S138.mk 40960 42191)::(S138.mk 44032 55203)::(S138.mk 63744 64255)::(S138.mk 65072 65135)::(S138.mk 65281 65376)::(S138.mk 65504 65510)::(S138.mk 127744 127776)::(S138.mk 127789 127797)::(S138.mk 127799 127868)::(S138.mk 128000 128062)::(S138.mk 128064 128064)::(S138.mk 128066 128252)::(S138.mk 128512 128591)::(S138.mk 128640 128709)::(S138.mk 129280 129535)::(S138.mk 131072 196605)::(S138.mk 196608 262141)::[]))) rfl rfl rfl rfl rfl (by kernel_rfl) sz139 rfl (by kernel_rfl) ?_)
 refine nt' ?_
 have h_:=oi' H;subst h_
 exact BQ_RL (rs:=[.cell 0 139]) (vs:=[.agg (List.toArray (iw' 4352::iw' 4447::iw' 8986::iw' 8987::iw' 9001::iw' 9002::iw' 9193::iw' 9196::iw' 9725::iw' 9726::iw' 9748::iw' 9749::iw' 9800::iw' 9811::iw' 9889::iw' 9889::iw' 9917::iw' 9918::iw' 9989::iw' 9989::iw' 10024::iw' 10024::iw' 10060::iw' 10060::iw' 10067::iw' 10069::iw' 10133::iw' 10135::iw' 11035::iw' 11036::iw' 11088::iw' 11088::iw' 11904::iw' 12350::iw' 12353::iw' 13311::iw' 13312::iw' 19903::iw' 19968::iw' 40959::iw' 40960::iw' 42191::iw' 44032::iw' 55203::iw' 63744::iw' 64255::iw' 65072::iw' 65135::iw' 65281::iw' 65376::iw' 65504::iw' 65510::iw' 127744::iw' 127776::iw' 127789::iw' 127797::iw' 127799::iw' 127868::iw' 128000::iw' 128062::iw' 128064::iw' 128064::iw' 128066::iw' 128252::iw' 128512::iw' 128591::iw' 128640::iw' 128709::iw' 129280::iw' 129535::iw' 131072::iw' 196605::iw' 196608::iw' 262141::[]))]) [] rfl ⟨RV.cell (k:=0) rfl rfl Tryz.underlying139 rfl sz139,trivial⟩ rfl (gs' []) ⟨(by kernel_rfl),rfl⟩


def F149.f  : Option ((List S138)):=some ((((S138.mk 768 879)::(S138.mk 1155 1161)::(S138.mk 1425 1469)::(S138.mk 1471 1471)::(S138.mk 1473 1474)::(S138.mk 1552 1562)::(S138.mk 1611 1631)::(S138.mk 1750 1756)::(S138.mk 2304 2306)::(S138.mk 2364 2364)::(S138.mk 2369 2376)::(S138.mk 2381 2381)::(S138.mk 3633 3633)::(S138.mk 3636 3642)::(S138.mk 6832 6911)::(S138.mk 7616 7679)::(S138.mk 8203 8207)::(S138.mk 8234 8238)::(S138.mk 8288 8292)::(S138.mk 8400 8447)::(S138.mk 12330 12333)::(S138.mk 12441 12442)::(S138.mk 65024 65039)::(S138.mk 65056 65071)::(S138.mk 65279 65279)::(S138.mk 917760 917999)::[]) : (List S138)))
theorem F149.ok  {r : (List S138)} (H : F149.f  = some r) : SCA Tryz.prog 149 #[] [] (fun v B=>v = .agg (List.flatMap enc138 ((rd r 0)::(rd r 1)::(rd r 2)::(rd r 3)::(rd r 4)::(rd r 5)::(rd r 6)::(rd r 7)::(rd r 8)::(rd r 9)::(rd r 10)::(rd r 11)::(rd r 12)::(rd r 13)::(rd r 14)::(rd r 15)::(rd r 16)::(rd r 17)::(rd r 18)::(rd r 19)::(rd r 20)::(rd r 21)::(rd r 22)::(rd r 23)::(rd r 24)::(rd r 25)::[])).toArray∧B = []):=by
 refine SCA_of_body Tryz.func149 rfl rfl ?_
 unfold F149.f at H
 refine qr' ?_
 refine o' (al' fun b1=>?_)
 refine nr' ?_
 refine s' (.agg #[iw' 768,iw' 879]) bA' ?_
 refine s' (.agg #[iw' 1155,iw' 1161]) bA' ?_
 refine s' (.agg #[iw' 1425,iw' 1469]) bA' ?_
 refine s' (.agg #[iw' 1471,iw' 1471]) bA' ?_
 refine s' (.agg #[iw' 1473,iw' 1474]) bA' ?_
 refine s' (.agg #[iw' 1552,iw' 1562]) bA' ?_
 refine s' (.agg #[iw' 1611,iw' 1631]) bA' ?_
 refine s' (.agg #[iw' 1750,iw' 1756]) bA' ?_
 refine s' (.agg #[iw' 2304,iw' 2306]) bA' ?_
 refine s' (.agg #[iw' 2364,iw' 2364]) bA' ?_
 refine s' (.agg #[iw' 2369,iw' 2376]) bA' ?_
 refine s' (.agg #[iw' 2381,iw' 2381]) bA' ?_
 refine s' (.agg #[iw' 3633,iw' 3633]) bA' ?_
 refine s' (.agg #[iw' 3636,iw' 3642]) bA' ?_
 refine s' (.agg #[iw' 6832,iw' 6911]) bA' ?_
 refine s' (.agg #[iw' 7616,iw' 7679]) bA' ?_
 refine s' (.agg #[iw' 8203,iw' 8207]) bA' ?_
 refine s' (.agg #[iw' 8234,iw' 8238]) bA' ?_
 refine s' (.agg #[iw' 8288,iw' 8292]) bA' ?_
 refine s' (.agg #[iw' 8400,iw' 8447]) bA' ?_
 refine s' (.agg #[iw' 12330,iw' 12333]) bA' ?_
 refine s' (.agg #[iw' 12441,iw' 12442]) bA' ?_
 refine s' (.agg #[iw' 65024,iw' 65039]) bA' ?_
 refine s' (.agg #[iw' 65056,iw' 65071]) bA' ?_
 refine s' (.agg #[iw' 65279,iw' 65279]) bA' ?_
 refine s' (.agg #[iw' 917760,iw' 917999]) bA' ?_
 refine s' (.agg (List.toArray (iw' 768::iw' 879::iw' 1155::iw' 1161::iw' 1425::iw' 1469::iw' 1471::iw' 1471::iw' 1473::iw' 1474::iw' 1552::iw' 1562::iw' 1611::iw' 1631::iw' 1750::iw' 1756::iw' 2304::iw' 2306::iw' 2364::iw' 2364::iw' 2369::iw' 2376::iw' 2381::iw' 2381::iw' 3633::iw' 3633::iw' 3636::iw' 3642::iw' 6832::iw' 6911::iw' 7616::iw' 7679::iw' 8203::iw' 8207::iw' 8234::iw' 8238::iw' 8288::iw' 8292::iw' 8400::iw' 8447::iw' 12330::iw' 12333::iw' 12441::iw' 12442::iw' 65024::iw' 65039::iw' 65056::iw' 65071::iw' 65279::iw' 65279::iw' 917760::iw' 917999::[]))) bA' ?_
 refine o' (OA_st (b:=b1) (m:=0) (k:=0) (vs:=(List.flatMap enc138 ((S138.mk 768 879)::(S138.mk 1155 1161)::(S138.mk 1425 1469)::(S138.mk 1471 1471)::(S138.mk 1473 1474)::(S138.mk 1552 1562)::(S138.mk 1611 1631)::(S138.mk 1750 1756)::(S138.mk 2304 2306)::(S138.mk 2364 2364)::(S138.mk 2369 2376)::(S138.mk 2381 2381)::(S138.mk 3633 3633)::(S138.mk 3636 3642)::(S138.mk 6832 6911)::(S138.mk 7616 7679)::(S138.mk 8203 8207)::(S138.mk 8234 8238)::(S138.mk 8288 8292)::(S138.mk 8400 8447)::(S138.mk 12330 12333)::(S138.mk 12441 12442)::(S138.mk 65024 65039)::(S138.mk 65056 65071)::(S138.mk 65279 65279)::(S138.mk 917760 917999)::[]))) (cs':=(List.flatMap enc138 ((S138.mk 768 879)::(S138.mk 1155 1161)::(S138.mk 1425 1469)::(S138.mk 1471 1471)::(S138.mk 1473 1474)::(S138.mk 1552 1562)::(S138.mk 1611 1631)::(S138.mk 1750 1756)::(S138.mk 2304 2306)::(S138.mk 2364 2364)::(S138.mk 2369 2376)::(S138.mk 2381 2381)::(S138.mk 3633 3633)::(S138.mk 3636 3642)::(S138.mk 6832 6911)::(S138.mk 7616 7679)::(S138.mk 8203 8207)::(S138.mk 8234 8238)::(S138.mk 8288 8292)::(S138.mk 8400 8447)::(S138.mk 12330 12333)::(S138.mk 12441 12442)::(S138.mk 65024 65039)::(S138.mk 65056 65071)::(S138.mk 65279 65279)::(S138.mk 917760 917999)::[]))) rfl rfl rfl rfl rfl (by kernel_rfl) sz141 rfl (by kernel_rfl) ?_)
 refine nt' ?_
 have h_:=oi' H;subst h_
 exact BQ_RL (rs:=[.cell 0 141]) (vs:=[.agg (List.toArray (iw' 768::iw' 879::iw' 1155::iw' 1161::iw' 1425::iw' 1469::iw' 1471::iw' 1471::iw' 1473::iw' 1474::iw' 1552::iw' 1562::iw' 1611::iw' 1631::iw' 1750::iw' 1756::iw' 2304::iw' 2306::iw' 2364::iw' 2364::iw' 2369::iw' 2376::iw' 2381::iw' 2381::iw' 3633::iw' 3633::iw' 3636::iw' 3642::iw' 6832::iw' 6911::iw' 7616::iw' 7679::iw' 8203::iw' 8207::iw' 8234::iw' 8238::iw' 8288::iw' 8292::iw' 8400::iw' 8447::iw' 12330::iw' 12333::iw' 12441::iw' 12442::iw' 65024::iw' 65039::iw' 65056::iw' 65071::iw' 65279::iw' 65279::iw' 917760::iw' 917999::[]))]) [] rfl ⟨RV.cell (k:=0) rfl rfl Tryz.underlying141 rfl sz141,trivial⟩ rfl (gs' []) ⟨(by kernel_rfl),rfl⟩

end Go.Proofs.YtckilbegmbaeeaaGreat.Z5

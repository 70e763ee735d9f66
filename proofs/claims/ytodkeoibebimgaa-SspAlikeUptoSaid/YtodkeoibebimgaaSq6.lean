/- What functions compute, and that they do: 53, 55b0, 56, 61, 92, 98b0, 99. -/
import Derived.Test.YtodkeoibebimgaaSq0
import Derived.Test.YtodkeoibebimgaaSq1
import Derived.Test.YtodkeoibebimgaaSq5
namespace Go.Proofs.Ytodkeoibebimgaa.Sq
open Go Go.RowKit Go.Proofs.Ytodkeoibebimgaa.SL
set_option linter.unusedVariables false
set_option linter.unusedSimpArgs false
attribute [local irreducible] IntKind.wrap minI maxI shrI shlI andI orI xorI andNotI cplI rd sub bytesOf strOf slA
/-! ### function 98: (*wayfarer/wayfarerref23.Receiver).throw -/
def F98b0.l0 (p0 : S121) (a1 : Int) : Nat → (List S63) → Int → Option ((List S63))
  | 0, _, _ => none
  | k + 1, x4_6, x5_6 => if x5_6 < (p0.f0.length : Int) then (if 0 ≤ x5_6 ∧ x5_6 < (p0.f0.length : Int) then (lt ((decide (((rd p0.f0 x5_6).f0) ≥ a1)) || (decide (x5_6 = (IntKind.i64.wrap ((p0.f0.length : Int) - 1))))) fun q16 => if q16 = true then (if 0 ≤ x5_6 ∧ x5_6 < (p0.f0.length : Int) then (if x4_6.length + ([(rd p0.f0 x5_6)] : (List S63)).length ≤ 4398046511104 then lt (x4_6 ++ ([(rd p0.f0 x5_6)] : (List S63))) fun n28 => (lt (IntKind.i64.wrap (x5_6 + 1)) fun n29 => F98b0.l0 p0 a1 k n28 n29) else none) else none) else (lt (IntKind.i64.wrap (x5_6 + 1)) fun n30 => F98b0.l0 p0 a1 k x4_6 n30)) else none) else (some x4_6)
def F98b0.f (k : Nat) (p0 : S121) (a1 : Int) : Option (S121) := (F98b0.l0 p0 a1 k ([]) 0 : Option ((List S63))).bind (fun t3 => some ((S121.mk t3)))
set_option maxHeartbeats 2000000 in
set_option maxRecDepth 100000 in
theorem F98b0.ok {k : Nat} {p0 : S121} {a1 : Int} {b0_ : Nat} {A0_0 : Option Addr} {c0_0 : Nat} {r : S121} (H : F98b0.f k p0 a1 = some r) : SCA Try.prog 98 #[.pointer (some ⟨b0_, 0, none⟩), .int .u64 a1] [Blk b0_ 121 [.slice A0_0 p0.f0.length c0_0], Buf k63 63 A0_0 c0_0 p0.f0] (fun v B => ∃ (P0_0_ : Option Addr) (q0_0_ : Nat), v = .tuple #[] ∧ B = [Blk b0_ 121 [.slice P0_0_ r.f0.length q0_0_], Buf k63 63 P0_0_ q0_0_ r.f0]) := by
  refine SCA_of_body Try.func98 rfl rfl ?_
  unfold F98b0.f at H
  refine SA_seq ?_
  refine SA_region ?_
  refine RA_step rfl (OA_v (v := .slice none 0 0) rfl (V_assign rfl) ?_)
  refine RA_nil ?_
  refine at_normal ?_
  refine SA_seq ?_
  refine SA_seq ?_
  refine SA_region ?_
  refine RA_step rfl (OA_v (v := .int .i64 0) rfl (V_assign rfl) ?_)
  refine RA_nil ?_
  refine at_normal ?_
  obtain ⟨t3, H, Bt3⟩ := g_bind H
  refine SA_mid (fun e ds As => ∃ (A4 : Option Addr) (c5 : Nat), St [(0, .pointer (some ⟨b0_, 0, none⟩)), (4, .slice A4 t3.length c5)] [Buf k63 63 A4 c5 t3, Blk b0_ 121 [.slice A0_0 p0.f0.length c0_0], Buf k63 63 A0_0 c0_0 p0.f0] e ds As) ?_ ?_
  · refine SA_block ?_
    refine SA_loop (fun k_ e ds As => ∃ (x4_6 : (List S63)) (x5_6 : Int), ∃ (A7 : Option Addr) (c8 : Nat), F98b0.l0 p0 a1 k_ x4_6 x5_6 = some t3 ∧ St [(0, .pointer (some ⟨b0_, 0, none⟩)), (1, .int .u64 a1), (4, .slice A7 x4_6.length c8), (5, .int .i64 x5_6)] [Blk b0_ 121 [.slice A0_0 p0.f0.length c0_0], Buf k63 63 A0_0 c0_0 p0.f0, Buf k63 63 A7 c8 x4_6] e ds As) (k := k) ⟨_, _, none, 0, H, St.mk1 (aeq rfl (aeq rfl (aeq rfl (aeq rfl aeq0)))) ((Gh.nilBuf k63 63).trans (Gh.sel [0, 1, 2] rfl rfl))⟩ ?_
    clear H
    rintro k11 e ds As ⟨x4_6, x5_6, A7, c8, H, hst12⟩
    obtain _ | k11 := k11
    · cases H
    rw [F98b0.l0] at H
    refine SA.of_St hst12 fun junk => ?_
    refine SA_seq ?_
    refine SA_seq ?_
    refine SA_region ?_
    refine RA_step rfl (OA_v (v := .int .i64 x5_6) rfl (V_move rfl) ?_)
    refine RA_step rfl (OA_v (v := .pointer (some ⟨b0_, 0, none⟩)) rfl (V_move rfl) ?_)
    refine RA_step rfl (OA_v (v := .pointer (some ⟨b0_, 0, none⟩)) rfl (V_nilCheck rfl) ?_)
    refine RA_step rfl (OA_v (v := .pointer (some ⟨b0_, 0, none⟩)) rfl (V_fieldAddrN (B := ⟨b0_, 0, none⟩) (m := 0) (o := 0) Try.underlying121 rfl nz47 rfl rfl) ?_)
    refine RA_step rfl (OA_r rfl (VR_load_blk (b := b0_) (m := 0) (k := 0) Try.underlying47 rfl rfl rfl rfl) ?_)
    refine RA_step rfl (OA_v (v := .int .i64 (p0.f0.length : Int)) rfl (V_len Try.underlying47 rfl) ?_)
    refine RA_step rfl (OA_v (v := .bool (decide (x5_6 < (p0.f0.length : Int)))) rfl (V_lss rfl rfl) ?_)
    refine RA_nil ?_
    refine at_normal ?_
    by_cases h13 : x5_6 < (p0.f0.length : Int)
    · replace H := g_ift h13 H
      refine SA_condT rfl h13 ?_
      refine SA_skip ?_
      refine at_normal ?_
      refine SA_seq ?_
      refine SA_block ?_
      refine SA_seq ?_
      refine SA_region ?_
      refine RA_step rfl (OA_v (v := .pointer (some ⟨b0_, 0, none⟩)) rfl (V_move rfl) ?_)
      refine RA_step rfl (OA_v (v := .pointer (some ⟨b0_, 0, none⟩)) rfl (V_nilCheck rfl) ?_)
      refine RA_step rfl (OA_v (v := .pointer (some ⟨b0_, 0, none⟩)) rfl (V_fieldAddrN (B := ⟨b0_, 0, none⟩) (m := 0) (o := 0) Try.underlying121 rfl nz47 rfl rfl) ?_)
      refine RA_step rfl (OA_r rfl (VR_load_blk (b := b0_) (m := 0) (k := 0) Try.underlying47 rfl rfl rfl rfl) ?_)
      refine RA_step rfl (OA_v (v := .int .i64 x5_6) rfl (V_move rfl) ?_)
      obtain ⟨⟨g14, g15⟩, H⟩ := g_pos H
      refine RA_step rfl (OA_r rfl (VR_index (i := x5_6) Try.underlying47 sz63 rfl rfl (Src.buf (k := 1) rfl) g14 g15) ?_)
      refine RA_step rfl (OA_v (v := .pointer (some ((el A0_0 (x5_6.toNat * 3)).add 0))) rfl (V_fieldAddrN (B := el A0_0 (x5_6.toNat * 3)) (m := 0) (o := 0) Try.underlying63 rfl nz44 rfl rfl) ?_)
      refine RA_step rfl (OA_r rfl (VR_load_el (enc := enc63) (i := x5_6) (j := x5_6.toNat * 3) (m := 0) (sz := 3) Try.underlying44 rfl rfl rfl rfl (Src.buf (k := 1) rfl) g14 g15 (fun _ _ h => h) rfl) ?_)
      refine RA_step rfl (OA_v (v := .int .u64 a1) rfl (V_move rfl) ?_)
      refine RA_step rfl (OA_v (v := .bool (decide (((rd p0.f0 x5_6).f0) ≥ a1))) rfl (V_geq rfl rfl) ?_)
      refine RA_step rfl (OA_v (v := .bool (decide (((rd p0.f0 x5_6).f0) ≥ a1))) rfl (V_move rfl) ?_)
      obtain ⟨q16, hq16, H⟩ := g_lt H
      refine RA_cut 9 (fun e ds As => St [(0, .pointer (some ⟨b0_, 0, none⟩)), (1, .int .u64 a1), (4, .slice A7 x4_6.length c8), (5, .int .i64 x5_6), (34, .bool q16)] [Blk b0_ 121 [.slice A0_0 p0.f0.length c0_0], Buf k63 63 A0_0 c0_0 p0.f0, Buf k63 63 A7 c8 x4_6] e ds As) ?_ ?_
      · by_cases h17 : ((rd p0.f0 x5_6).f0) ≥ a1
        · refine RA_noB rfl rfl rfl rfl (dec_t h17) rfl ?_
          refine RA_noB rfl rfl rfl rfl (dec_t h17) rfl ?_
          refine RA_noB rfl rfl rfl rfl (dec_t h17) rfl ?_
          refine RA_noB rfl rfl rfl rfl (dec_t h17) rfl ?_
          refine RA_noB rfl rfl rfl rfl (dec_t h17) rfl ?_
          refine RA_noB rfl rfl rfl rfl (dec_t h17) rfl ?_
          refine RA_noB rfl rfl rfl rfl (dec_t h17) rfl ?_
          refine RA_noB rfl rfl rfl rfl (dec_t h17) rfl ?_
          refine RA_step rfl (OA_v rfl (V_pickT rfl (dec_t h17) rfl) ?_)
          refine RA_nil ?_
          exact at_normal (St.mk1 (aeq rfl (aeq rfl (aeq rfl (aeq rfl (aeq (congrArg Value.bool (or_t hq16 (dec_t h17))) aeq0))))) (Gh.sel [0, 1, 2] rfl rfl))
        refine RA_yesB rfl rfl rfl rfl (dec_f h17) (OA_v (v := .int .i64 x5_6) rfl (V_move rfl) ?_)
        refine RA_yesB rfl rfl rfl rfl (dec_f h17) (OA_v (v := .pointer (some ⟨b0_, 0, none⟩)) rfl (V_move rfl) ?_)
        refine RA_yesB rfl rfl rfl rfl (dec_f h17) (OA_v (v := .pointer (some ⟨b0_, 0, none⟩)) rfl (V_nilCheck rfl) ?_)
        refine RA_yesB rfl rfl rfl rfl (dec_f h17) (OA_v (v := .pointer (some ⟨b0_, 0, none⟩)) rfl (V_fieldAddrN (B := ⟨b0_, 0, none⟩) (m := 0) (o := 0) Try.underlying121 rfl nz47 rfl rfl) ?_)
        refine RA_yesB rfl rfl rfl rfl (dec_f h17) (OA_r rfl (VR_load_blk (b := b0_) (m := 0) (k := 0) Try.underlying47 rfl rfl rfl rfl) ?_)
        refine RA_yesB rfl rfl rfl rfl (dec_f h17) (OA_v (v := .int .i64 (p0.f0.length : Int)) rfl (V_len Try.underlying47 rfl) ?_)
        refine RA_yesB rfl rfl rfl rfl (dec_f h17) (OA_v (v := .int .i64 (IntKind.i64.wrap ((p0.f0.length : Int) - 1))) rfl (V_sub rfl rfl) ?_)
        refine RA_yesB rfl rfl rfl rfl (dec_f h17) (OA_v (v := .bool (decide (x5_6 = (IntKind.i64.wrap ((p0.f0.length : Int) - 1))))) rfl (V_eql rfl rfl) ?_)
        refine RA_step rfl (OA_v rfl (V_pickF rfl (dec_f h17) rfl) ?_)
        refine RA_nil ?_
        exact at_normal (St.mk1 (aeq rfl (aeq rfl (aeq rfl (aeq rfl (aeq (congrArg Value.bool (or_f hq16 (dec_f h17))) aeq0))))) (Gh.sel [0, 1, 2] rfl rfl))
      rintro e ds As hst18
      refine RA_nil ?_
      refine at_normal ?_
      refine SA.of_St hst18 fun junk => ?_
      by_cases h19 : q16 = true
      · replace H := g_ift h19 H
        refine SA_condTb rfl h19 ?_
        refine SA_region ?_
        refine RA_step rfl (OA_v (v := .slice A7 x4_6.length c8) rfl (V_move rfl) ?_)
        refine RA_step rfl (OA_v (v := .pointer (some ⟨b0_, 0, none⟩)) rfl (V_move rfl) ?_)
        refine RA_step rfl (OA_v (v := .pointer (some ⟨b0_, 0, none⟩)) rfl (V_nilCheck rfl) ?_)
        refine RA_step rfl (OA_v (v := .pointer (some ⟨b0_, 0, none⟩)) rfl (V_fieldAddrN (B := ⟨b0_, 0, none⟩) (m := 0) (o := 0) Try.underlying121 rfl nz47 rfl rfl) ?_)
        refine RA_step rfl (OA_r rfl (VR_load_blk (b := b0_) (m := 0) (k := 0) Try.underlying47 rfl rfl rfl rfl) ?_)
        refine RA_step rfl (OA_v (v := .int .i64 x5_6) rfl (V_move rfl) ?_)
        obtain ⟨⟨g20, g21⟩, H⟩ := g_pos H
        refine RA_step rfl (OA_r rfl (VR_index (i := x5_6) Try.underlying47 sz63 rfl rfl (Src.buf (k := 1) rfl) g20 g21) ?_)
        refine RA_step rfl (OA_r rfl (VR_loadA_el (enc := enc63) (i := x5_6) (j := x5_6.toNat * 3) (m := 0) (sz := 3) (vs := [.int .u64 ((rd p0.f0 x5_6).f0), .string ((rd p0.f0 x5_6).f1), .int .u64 ((rd p0.f0 x5_6).f2)]) Try.underlying63 rfl sz63 rfl rfl rfl (Src.buf (k := 1) rfl) g20 g21 (fun _ _ h => h) rfl) ?_)
        refine RA_step rfl (OA_bs (kd := k63) (zv := (.agg #[.int .u64 0, .string ByteArray.empty, .int .u64 0])) (sz := 3) (cells := [.int .u64 ((rd p0.f0 x5_6).f0), .string ((rd p0.f0 x5_6).f1), .int .u64 ((rd p0.f0 x5_6).f2)]) (xs := ([(rd p0.f0 x5_6)] : (List S63))) rfl Try.underlying47 zero63 sz63 rfl rfl rfl (by kernel_rfl) rfl rfl (RL_enc enc63 (fun _ _ => rfl) (by kernel_rfl)) fun b22 => ?_)
        obtain ⟨g25, H⟩ := g_pos H
        obtain ⟨n28, hn28, H⟩ := g_lt H
        refine RA_step rfl (OA_app (k := 2) (A := A7) (c := c8) (xs := x4_6) (ys := ([(rd p0.f0 x5_6)] : (List S63))) n28 hn28 rfl Try.underlying47 inf63 rfl rfl rfl rfl rfl (Yld.slice Try.underlying47 (Src.buf (k := 3) rfl)) (by omega) (by omega) fun A26 c27 => ?_)
        refine RA_step rfl (OA_v (v := .slice A26 n28.length c27) rfl (V_assign rfl) ?_)
        refine RA_nil ?_
        refine inb_normal ?_
        refine at_normal ?_
        refine SA_region ?_
        refine RA_step rfl (OA_v (v := .int .i64 x5_6) rfl (V_move rfl) ?_)
        refine RA_step rfl (OA_v (v := .int .i64 (IntKind.i64.wrap (x5_6 + 1))) rfl (V_add rfl rfl) ?_)
        obtain ⟨n29, hn29, H⟩ := g_lt H
        refine RA_step rfl (OA_v (v := .int .i64 n29) rfl (V_assign (v := .int .i64 n29) (congrArg (Value.int .i64) hn29.symm)) ?_)
        refine RA_nil ?_
        exact at_normal ⟨k11, Nat.lt_succ_self _, _, _, A26, c27, H, St.mk1 (aeq rfl (aeq rfl (aeq rfl (aeq rfl aeq0)))) (Gh.sel [0, 1, 2] rfl rfl)⟩
      replace H := g_iff h19 H
      refine SA_condFb rfl h19 ?_
      refine SA_skip ?_
      refine inb_normal ?_
      refine at_normal ?_
      refine SA_region ?_
      refine RA_step rfl (OA_v (v := .int .i64 x5_6) rfl (V_move rfl) ?_)
      refine RA_step rfl (OA_v (v := .int .i64 (IntKind.i64.wrap (x5_6 + 1))) rfl (V_add rfl rfl) ?_)
      obtain ⟨n30, hn30, H⟩ := g_lt H
      refine RA_step rfl (OA_v (v := .int .i64 n30) rfl (V_assign (v := .int .i64 n30) (congrArg (Value.int .i64) hn30.symm)) ?_)
      refine RA_nil ?_
      exact at_normal ⟨k11, Nat.lt_succ_self _, _, _, A7, c8, H, St.mk1 (aeq rfl (aeq rfl (aeq rfl (aeq rfl aeq0)))) (Gh.sel [0, 1, 2] rfl rfl)⟩
    replace H := g_iff h13 H
    refine SA_condF rfl h13 ?_
    refine SA_exit ?_
    refine thn_exit ?_
    refine thn_exit ?_
    refine inb_hit ?_
    have hr_ := Option.some.inj H
    subst hr_
    exact at_normal ⟨A7, c8, St.mk1 (aeq rfl (aeq rfl aeq0)) (Gh.sel [2, 0, 1] rfl rfl)⟩
  rintro e ds As ⟨A4, c5, hst31⟩
  clear H
  have H := Bt3
  clear Bt3
  refine at_normal ?_
  refine SA.of_St hst31 fun junk => ?_
  refine SA_region ?_
  refine RA_step rfl (OA_v (v := .pointer (some ⟨b0_, 0, none⟩)) rfl (V_move rfl) ?_)
  refine RA_step rfl (OA_v (v := .slice A4 t3.length c5) rfl (V_move rfl) ?_)
  refine RA_step rfl (OA_v (v := .pointer (some ⟨b0_, 0, none⟩)) rfl (V_nilCheck rfl) ?_)
  refine RA_step rfl (OA_v (v := .pointer (some ⟨b0_, 0, none⟩)) rfl (V_fieldAddrN (B := ⟨b0_, 0, none⟩) (m := 0) (o := 0) Try.underlying121 rfl nz47 rfl rfl) ?_)
  refine RA_step rfl (OA_st (b := b0_) (m := 0) (k := 1) (vs := [.slice A4 t3.length c5]) (cs' := [.slice A4 t3.length c5]) rfl rfl rfl rfl rfl rfl sz47 rfl rfl ?_)
  refine RA_nil ?_
  have hr_ := Option.some.inj H
  subst hr_
  exact BQ_n0 [Blk b0_ 121 [.slice A4 t3.length c5], Buf k63 63 A4 c5 t3] rfl (Gh.sel [1, 0] rfl rfl) ⟨A4, c5, rfl, rfl⟩

/-! ### function 55: (*wayfarer/wayfarerref23.Receiver).Take -/
def F55b0.l2 (p0 : S121) (a1 : S54) : Nat → (List S63) → Int → Option ((List S63))
  | 0, _, _ => none
  | k + 1, x10_3009, x13_3009 => if x13_3009 < (p0.f0.length : Int) then (if 0 ≤ x13_3009 ∧ x13_3009 < (p0.f0.length : Int) then (if ((rd p0.f0 x13_3009).f0) > a1.f1 then (if 0 ≤ x13_3009 ∧ x13_3009 < (p0.f0.length : Int) then (if x10_3009.length + ([(rd p0.f0 x13_3009)] : (List S63)).length ≤ 4398046511104 then lt (x10_3009 ++ ([(rd p0.f0 x13_3009)] : (List S63))) fun n3686 => (lt (IntKind.i64.wrap (x13_3009 + 1)) fun n3687 => F55b0.l2 p0 a1 k n3686 n3687) else none) else none) else (lt (IntKind.i64.wrap (x13_3009 + 1)) fun n3688 => F55b0.l2 p0 a1 k x10_3009 n3688)) else none) else (some x10_3009)
def F55b0.l1 (p0 : S121) (a1 : S54) : Nat → (List S63) → Int → Option ((List S63))
  | 0, _, _ => none
  | k + 1, x10_2317, x11_2317 => if x11_2317 < (p0.f0.length : Int) then (if 0 ≤ x11_2317 ∧ x11_2317 < (p0.f0.length : Int) then (if ((rd p0.f0 x11_2317).f0) < a1.f1 then (if 0 ≤ x11_2317 ∧ x11_2317 < (p0.f0.length : Int) then (if x10_2317.length + ([(rd p0.f0 x11_2317)] : (List S63)).length ≤ 4398046511104 then lt (x10_2317 ++ ([(rd p0.f0 x11_2317)] : (List S63))) fun n2995 => (lt (IntKind.i64.wrap (x11_2317 + 1)) fun n2996 => F55b0.l1 p0 a1 k n2995 n2996) else none) else none) else (lt (IntKind.i64.wrap (x11_2317 + 1)) fun n2997 => F55b0.l1 p0 a1 k x10_2317 n2997)) else none) else (some x10_2317)
def F55b0.l0 (p0 : S121) (a1 : S54) : Nat → Int → Int → Option (Int)
  | 0, _, _ => none
  | k + 1, x7_19, x8_19 => if x8_19 < (p0.f0.length : Int) then ((if 0 ≤ x8_19 ∧ x8_19 < (p0.f0.length : Int) then (if ((rd p0.f0 x8_19).f0) ≥ a1.f3 then (some true) else (some (decide (x8_19 = (IntKind.i64.wrap ((p0.f0.length : Int) - 1)))))) else none : Option (Bool)).bind (fun t23 => if t23 = true then (lt (IntKind.i64.wrap (x7_19 + 1)) fun n1288 => lt (IntKind.i64.wrap (x8_19 + 1)) fun n1289 => F55b0.l0 p0 a1 k n1288 n1289) else (lt (IntKind.i64.wrap (x8_19 + 1)) fun n1290 => F55b0.l0 p0 a1 k x7_19 n1290))) else (some x7_19)
def F55b0.f (k : Nat) (p0 : S121) (a1 : S54) : Option (Bool × Int × S121) := (F97b0.f k p0 a1.f1).bind (fun r7 => if r7 ≥ 0 then ((F98b0.f k p0 a1.f3).bind (fun r9 => some ((false, 0, r9)))) else ((F97b0.f k p0 a1.f0).bind (fun r14 => lt ((decide (r14 < 0)) || (decide (a1.f1 < a1.f0))) fun q15 => if q15 = true then (some ((false, 230, p0))) else ((F55b0.l0 p0 a1 k 0 0 : Option (Int)).bind (fun t19 => if t19 ≥ 32 then (some ((false, 231, p0))) else (if 0 ≤ r14 ∧ r14 < (p0.f0.length : Int) then (if ((rd p0.f0 r14).f1).size + (strOf a1.f4).size ≤ 9223372036854775807 then ((F55b0.l1 p0 a1 k ([]) 0 : Option ((List S63))).bind (fun t2314 => if t2314.length + ([(S63.mk a1.f1 (((rd p0.f0 r14).f1) ++ (strOf a1.f4)) 0)] : (List S63)).length ≤ 4398046511104 then lt (t2314 ++ ([(S63.mk a1.f1 (((rd p0.f0 r14).f1) ++ (strOf a1.f4)) 0)] : (List S63))) fun n3005 => ((F55b0.l2 p0 a1 k n3005 0 : Option ((List S63))).bind (fun t3006 => (F98b0.f k (S121.mk t3006) a1.f3).bind (fun r3691 => some ((decide ((t2314.length : Int) = (p0.f0.length : Int)), 0, r3691))))) else none)) else none) else none))))))
set_option maxHeartbeats 2000000 in
set_option maxRecDepth 100000 in
theorem F55b0.ok {k : Nat} {p0 : S121} {a1 : S54} {b0_ : Nat} {A0_0 : Option Addr} {c0_0 : Nat} {A1_0 : Option Addr} {c1_0 : Nat} {r : Bool × Int × S121} (H : F55b0.f k p0 a1 = some r) : SCA Try.prog 55 #[.pointer (some ⟨b0_, 0, none⟩), .agg #[.int .u64 a1.f0, .int .u64 a1.f1, .int .u64 a1.f2, .int .u64 a1.f3, .slice A1_0 a1.f4.length c1_0]] [Blk b0_ 121 [.slice A0_0 p0.f0.length c0_0], Buf k63 63 A0_0 c0_0 p0.f0, Ro (Kd.int .u8) A1_0 c1_0 a1.f4] (fun v B => ∃ (P0_0_ : Option Addr) (q0_0_ : Nat), v = .tuple #[.bool r.1, .int .i64 r.2.1] ∧ B = [Blk b0_ 121 [.slice P0_0_ r.2.2.f0.length q0_0_], Buf k63 63 P0_0_ q0_0_ r.2.2.f0]) := by
  refine SCA_of_body Try.func55 rfl rfl ?_
  unfold F55b0.f at H
  refine SA_seq ?_
  refine SA_region ?_
  refine RA_step rfl (OA_box rfl rfl fun b4 => ?_)
  refine RA_step rfl (OA_v (v := .bool false) rfl (V_assign rfl) ?_)
  refine RA_step rfl (OA_v (v := .int .i64 0) rfl (V_assign rfl) ?_)
  refine RA_nil ?_
  refine at_normal ?_
  refine SA_seq ?_
  refine SA_seq ?_
  refine SA.fact (cap_of (k := 1) rfl) fun hc6 => ?_
  refine SA_region ?_
  refine RA_step rfl (OA_v (v := .pointer (some ⟨b0_, 0, none⟩)) rfl (V_move rfl) ?_)
  refine RA_step rfl (OA_v (v := .pointer (some ((⟨b4, 0, none⟩ : Addr).add 1))) rfl (V_fieldAddrN (B := ⟨b4, 0, none⟩) (m := 0) (o := 1) Try.underlying54 rfl nz44 rfl rfl) ?_)
  refine RA_step rfl (OA_r rfl (VR_load_blk (b := b4) (m := 1) (k := 3) Try.underlying44 rfl rfl rfl rfl) ?_)
  obtain ⟨r7, C3697, H⟩ := g_bind H
  refine RA_step rfl (OA_callA [0, 1] [2, 3] rfl (X_fn (vs := [.pointer (some ⟨b0_, 0, none⟩), .int .u64 a1.f1]) Try.func97 nm97 rfl rfl) rfl (F97b0.ok (b0_ := b0_) (A0_0 := A0_0) (c0_0 := c0_0) (p0 := p0) (a1 := a1.f1) C3697) rfl ?_)
  rintro _ _ ⟨rfl, rfl⟩
  refine RA_step rfl (OA_v (v := .bool (decide (r7 ≥ 0))) rfl (V_geq rfl rfl) ?_)
  refine RA_nil ?_
  refine at_normal ?_
  by_cases h8 : r7 ≥ 0
  · replace H := g_ift h8 H
    refine SA_condT rfl h8 ?_
    refine SA_seq ?_
    refine SA_region ?_
    refine RA_step rfl (OA_v (v := .pointer (some ⟨b0_, 0, none⟩)) rfl (V_move rfl) ?_)
    refine RA_step rfl (OA_v (v := .pointer (some ((⟨b4, 0, none⟩ : Addr).add 3))) rfl (V_fieldAddrN (B := ⟨b4, 0, none⟩) (m := 0) (o := 3) Try.underlying54 rfl nz44 rfl rfl) ?_)
    refine RA_step rfl (OA_r rfl (VR_load_blk (b := b4) (m := 3) (k := 3) Try.underlying44 rfl rfl rfl rfl) ?_)
    obtain ⟨r9, C13, H⟩ := g_bind H
    refine RA_step rfl (OA_callA [0, 1] [2, 3] rfl (X_fn (vs := [.pointer (some ⟨b0_, 0, none⟩), .int .u64 a1.f3]) Try.func98 nm98 rfl rfl) rfl (F98b0.ok (b0_ := b0_) (A0_0 := A0_0) (c0_0 := c0_0) (p0 := p0) (a1 := a1.f3) C13) rfl ?_)
    rintro _ _ ⟨A10, c11, rfl, rfl⟩
    refine RA_nil ?_
    refine at_normal ?_
    refine SA_seq ?_
    refine SA_region ?_
    refine RA_step rfl (OA_v (v := .bool false) rfl (V_assign rfl) ?_)
    refine RA_step rfl (OA_v (v := .int .i64 0) rfl (V_assign rfl) ?_)
    refine RA_nil ?_
    refine at_normal ?_
    refine SA_ret ?_
    refine thn_ret ?_
    have hr_ := Option.some.inj H
    subst hr_
    exact BQ_R2 [Blk b0_ 121 [.slice A10 r9.f0.length c11], Buf k63 63 A10 c11 r9.f0] rfl rfl rfl (Gh.sel [0, 1] rfl rfl) ⟨A10, c11, rfl, rfl⟩
  replace H := g_iff h8 H
  refine SA_condF rfl h8 ?_
  refine SA_skip ?_
  refine at_normal ?_
  refine SA_seq ?_
  refine SA_region ?_
  refine RA_step rfl (OA_v (v := .pointer (some ⟨b0_, 0, none⟩)) rfl (V_move rfl) ?_)
  refine RA_step rfl (OA_v (v := .pointer (some ⟨b4, 0, none⟩)) rfl (V_fieldAddrN (B := ⟨b4, 0, none⟩) (m := 0) (o := 0) Try.underlying54 rfl nz44 rfl rfl) ?_)
  refine RA_step rfl (OA_r rfl (VR_load_blk (b := b4) (m := 0) (k := 3) Try.underlying44 rfl rfl rfl rfl) ?_)
  obtain ⟨r14, C3696, H⟩ := g_bind H
  refine RA_step rfl (OA_callA [0, 1] [2, 3] rfl (X_fn (vs := [.pointer (some ⟨b0_, 0, none⟩), .int .u64 a1.f0]) Try.func97 nm97 rfl rfl) rfl (F97b0.ok (b0_ := b0_) (A0_0 := A0_0) (c0_0 := c0_0) (p0 := p0) (a1 := a1.f0) C3696) rfl ?_)
  rintro _ _ ⟨rfl, rfl⟩
  refine RA_step rfl (OA_v (v := .int .i64 r14) rfl (V_assign rfl) ?_)
  refine RA_nil ?_
  refine at_normal ?_
  refine SA_seq ?_
  refine SA_seq ?_
  refine SA_region ?_
  refine RA_step rfl (OA_v (v := .int .i64 r14) rfl (V_move rfl) ?_)
  refine RA_step rfl (OA_v (v := .bool (decide (r14 < 0))) rfl (V_lss rfl rfl) ?_)
  refine RA_step rfl (OA_v (v := .bool (decide (r14 < 0))) rfl (V_move rfl) ?_)
  obtain ⟨q15, hq15, H⟩ := g_lt H
  refine RA_cut 6 (fun e ds As => St [(0, .pointer (some ⟨b0_, 0, none⟩)), (3, .pointer (some ⟨b4, 0, none⟩)), (6, .int .i64 r14), (35, .bool q15)] [Blk b0_ 121 [.slice A0_0 p0.f0.length c0_0], Buf k63 63 A0_0 c0_0 p0.f0, Blk b4 54 [.int .u64 a1.f0, .int .u64 a1.f1, .int .u64 a1.f2, .int .u64 a1.f3, .slice A1_0 a1.f4.length c1_0], Ro (Kd.int .u8) A1_0 c1_0 a1.f4] e ds As) ?_ ?_
  · by_cases h16 : r14 < 0
    · refine RA_noB rfl rfl rfl rfl (dec_t h16) rfl ?_
      refine RA_noB rfl rfl rfl rfl (dec_t h16) rfl ?_
      refine RA_noB rfl rfl rfl rfl (dec_t h16) rfl ?_
      refine RA_noB rfl rfl rfl rfl (dec_t h16) rfl ?_
      refine RA_noB rfl rfl rfl rfl (dec_t h16) rfl ?_
      refine RA_step rfl (OA_v rfl (V_pickT rfl (dec_t h16) rfl) ?_)
      refine RA_nil ?_
      exact at_normal (St.mk1 (aeq rfl (aeq rfl (aeq rfl (aeq (congrArg Value.bool (or_t hq15 (dec_t h16))) aeq0)))) (Gh.sel [0, 1, 3, 2] rfl rfl))
    refine RA_yesB rfl rfl rfl rfl (dec_f h16) (OA_v (v := .pointer (some ((⟨b4, 0, none⟩ : Addr).add 1))) rfl (V_fieldAddrN (B := ⟨b4, 0, none⟩) (m := 0) (o := 1) Try.underlying54 rfl nz44 rfl rfl) ?_)
    refine RA_yesB rfl rfl rfl rfl (dec_f h16) (OA_r rfl (VR_load_blk (b := b4) (m := 1) (k := 3) Try.underlying44 rfl rfl rfl rfl) ?_)
    refine RA_yesB rfl rfl rfl rfl (dec_f h16) (OA_v (v := .pointer (some ⟨b4, 0, none⟩)) rfl (V_fieldAddrN (B := ⟨b4, 0, none⟩) (m := 0) (o := 0) Try.underlying54 rfl nz44 rfl rfl) ?_)
    refine RA_yesB rfl rfl rfl rfl (dec_f h16) (OA_r rfl (VR_load_blk (b := b4) (m := 0) (k := 3) Try.underlying44 rfl rfl rfl rfl) ?_)
    refine RA_yesB rfl rfl rfl rfl (dec_f h16) (OA_v (v := .bool (decide (a1.f1 < a1.f0))) rfl (V_lss rfl rfl) ?_)
    refine RA_step rfl (OA_v rfl (V_pickF rfl (dec_f h16) rfl) ?_)
    refine RA_nil ?_
    exact at_normal (St.mk1 (aeq rfl (aeq rfl (aeq rfl (aeq (congrArg Value.bool (or_f hq15 (dec_f h16))) aeq0)))) (Gh.sel [0, 1, 3, 2] rfl rfl))
  rintro e ds As hst17
  refine RA_nil ?_
  refine at_normal ?_
  refine SA.of_St hst17 fun junk => ?_
  by_cases h18 : q15 = true
  · replace H := g_ift h18 H
    refine SA_condTb rfl h18 ?_
    refine SA_seq ?_
    refine SA_region ?_
    refine RA_step rfl (OA_v (v := .bool false) rfl (V_assign rfl) ?_)
    refine RA_step rfl (OA_v (v := .int .i64 230) rfl (V_assign rfl) ?_)
    refine RA_nil ?_
    refine at_normal ?_
    refine SA_ret ?_
    refine thn_ret ?_
    have hr_ := Option.some.inj H
    subst hr_
    exact BQ_R2 [Blk b0_ 121 [.slice A0_0 p0.f0.length c0_0], Buf k63 63 A0_0 c0_0 p0.f0] rfl rfl rfl (Gh.sel [0, 1] rfl rfl) ⟨A0_0, c0_0, rfl, rfl⟩
  replace H := g_iff h18 H
  refine SA_condFb rfl h18 ?_
  refine SA_skip ?_
  refine at_normal ?_
  refine SA_seq ?_
  refine SA_region ?_
  refine RA_step rfl (OA_v (v := .int .i64 0) rfl (V_assign rfl) ?_)
  refine RA_nil ?_
  refine at_normal ?_
  refine SA_seq ?_
  refine SA_seq ?_
  refine SA_region ?_
  refine RA_step rfl (OA_v (v := .int .i64 0) rfl (V_assign rfl) ?_)
  refine RA_nil ?_
  refine at_normal ?_
  obtain ⟨t19, H, Bt19⟩ := g_bind H
  refine SA_mid (fun e ds As => St [(0, .pointer (some ⟨b0_, 0, none⟩)), (3, .pointer (some ⟨b4, 0, none⟩)), (6, .int .i64 r14), (7, .int .i64 t19)] [Blk b0_ 121 [.slice A0_0 p0.f0.length c0_0], Buf k63 63 A0_0 c0_0 p0.f0, Blk b4 54 [.int .u64 a1.f0, .int .u64 a1.f1, .int .u64 a1.f2, .int .u64 a1.f3, .slice A1_0 a1.f4.length c1_0], Ro (Kd.int .u8) A1_0 c1_0 a1.f4] e ds As) ?_ ?_
  · refine SA_block ?_
    refine SA_loop (fun k_ e ds As => ∃ (x7_19 : Int) (x8_19 : Int), F55b0.l0 p0 a1 k_ x7_19 x8_19 = some t19 ∧ St [(0, .pointer (some ⟨b0_, 0, none⟩)), (3, .pointer (some ⟨b4, 0, none⟩)), (6, .int .i64 r14), (7, .int .i64 x7_19), (8, .int .i64 x8_19)] [Blk b0_ 121 [.slice A0_0 p0.f0.length c0_0], Buf k63 63 A0_0 c0_0 p0.f0, Blk b4 54 [.int .u64 a1.f0, .int .u64 a1.f1, .int .u64 a1.f2, .int .u64 a1.f3, .slice A1_0 a1.f4.length c1_0], Ro (Kd.int .u8) A1_0 c1_0 a1.f4] e ds As) (k := k) ⟨_, _, H, St.mk1 (aeq rfl (aeq rfl (aeq rfl (aeq rfl (aeq rfl aeq0))))) (Gh.sel [0, 1, 2, 3] rfl rfl)⟩ ?_
    clear H
    rintro k20 e ds As ⟨x7_19, x8_19, H, hst21⟩
    obtain _ | k20 := k20
    · cases H
    rw [F55b0.l0] at H
    refine SA.of_St hst21 fun junk => ?_
    refine SA_seq ?_
    refine SA_seq ?_
    refine SA_region ?_
    refine RA_step rfl (OA_v (v := .int .i64 x8_19) rfl (V_move rfl) ?_)
    refine RA_step rfl (OA_v (v := .pointer (some ⟨b0_, 0, none⟩)) rfl (V_move rfl) ?_)
    refine RA_step rfl (OA_v (v := .pointer (some ⟨b0_, 0, none⟩)) rfl (V_nilCheck rfl) ?_)
    refine RA_step rfl (OA_v (v := .pointer (some ⟨b0_, 0, none⟩)) rfl (V_fieldAddrN (B := ⟨b0_, 0, none⟩) (m := 0) (o := 0) Try.underlying121 rfl nz47 rfl rfl) ?_)
    refine RA_step rfl (OA_r rfl (VR_load_blk (b := b0_) (m := 0) (k := 0) Try.underlying47 rfl rfl rfl rfl) ?_)
    refine RA_step rfl (OA_v (v := .int .i64 (p0.f0.length : Int)) rfl (V_len Try.underlying47 rfl) ?_)
    refine RA_step rfl (OA_v (v := .bool (decide (x8_19 < (p0.f0.length : Int)))) rfl (V_lss rfl rfl) ?_)
    refine RA_nil ?_
    refine at_normal ?_
    by_cases h22 : x8_19 < (p0.f0.length : Int)
    · replace H := g_ift h22 H
      refine SA_condT rfl h22 ?_
      refine SA_skip ?_
      refine at_normal ?_
      refine SA_seq ?_
      refine SA_block ?_
      refine SA_seq ?_
      obtain ⟨t23, H, Bt23⟩ := g_bind H
      refine SA_mid (fun e ds As => St [(0, .pointer (some ⟨b0_, 0, none⟩)), (3, .pointer (some ⟨b4, 0, none⟩)), (6, .int .i64 r14), (7, .int .i64 x7_19), (8, .int .i64 x8_19), (65, .bool t23)] [Blk b0_ 121 [.slice A0_0 p0.f0.length c0_0], Buf k63 63 A0_0 c0_0 p0.f0, Blk b4 54 [.int .u64 a1.f0, .int .u64 a1.f1, .int .u64 a1.f2, .int .u64 a1.f3, .slice A1_0 a1.f4.length c1_0], Ro (Kd.int .u8) A1_0 c1_0 a1.f4] e ds As) ?_ ?_
      · refine SA_drawHq (0 :: 1 :: 2 :: 3 :: 4 :: 5 :: 6 :: 7 :: 8 :: 9 :: 10 :: 11 :: 12 :: 13 :: 14 :: 15 :: 16 :: 17 :: 18 :: 19 :: 20 :: []) (List.toArray ([] :: [0] :: [0, 1] :: [0, 1, 2] :: [] :: [0, 1, 2, 3, 4] :: [0, 1, 2, 3, 4, 5] :: [0, 1, 2, 3, 4, 5, 6] :: [] :: [8] :: [0, 1, 2, 3, 4, 5, 6, 7, 8, 9] :: [0, 1, 2, 3, 4, 5, 6, 7, 8, 9, 10] :: [0, 1, 2, 3, 4, 5, 6, 7, 8, 9, 10, 11] :: [0, 1, 2, 3, 4, 5, 6, 7, 8, 9, 10, 11] :: (0 :: 1 :: 2 :: 3 :: 4 :: 5 :: 6 :: 7 :: 8 :: 9 :: 10 :: 11 :: 13 :: []) :: (0 :: 1 :: 2 :: 3 :: 4 :: 5 :: 6 :: 7 :: 8 :: 9 :: 10 :: 11 :: 13 :: 14 :: []) :: (0 :: 1 :: 2 :: 3 :: 4 :: 5 :: 6 :: 7 :: 8 :: 9 :: 10 :: 11 :: 13 :: 14 :: 15 :: []) :: (0 :: 1 :: 2 :: 3 :: 4 :: 5 :: 6 :: 7 :: 8 :: 9 :: 10 :: 11 :: 13 :: 14 :: 15 :: 16 :: []) :: (0 :: 1 :: 2 :: 3 :: 4 :: 5 :: 6 :: 7 :: 8 :: 9 :: 10 :: 11 :: 13 :: 14 :: 15 :: 16 :: 17 :: []) :: (0 :: 1 :: 2 :: 3 :: 4 :: 5 :: 6 :: 7 :: 8 :: 9 :: 10 :: 11 :: 12 :: 13 :: 14 :: 15 :: 16 :: 17 :: 18 :: []) :: (0 :: 1 :: 2 :: 3 :: 4 :: 5 :: 6 :: 7 :: 8 :: 9 :: 10 :: 11 :: 12 :: 13 :: 14 :: 15 :: 16 :: 17 :: 18 :: 19 :: []) :: [])) [0, 1, 2, 3] [3] mixed rfl rfl rfl (PanOk.thn (PanOk.thn (PanOk.inb (PanOk.thn (PanOk.thn (PanOk.inb (PanOk.thn (PanOk.thn PanOk.body)))))))) fun I0 hS h0 hh0 w0 sH dd pk => ?_
        refine DH_take (v := .pointer (some ⟨b0_, 0, none⟩)) 0 (by kernel_rfl) rfl rfl (.no rfl) pk sH rfl (VR.ofV (V_move rfl)) ?_
        refine DH_take (v := .pointer (some ⟨b0_, 0, none⟩)) 1 (by kernel_rfl) rfl rfl (.no rfl) pk sH rfl (VR.ofV (V_nilCheck rfl)) ?_
        refine DH_take (v := .pointer (some ⟨b0_, 0, none⟩)) 2 (by kernel_rfl) rfl rfl (.no rfl) pk sH rfl (VR.ofV (V_fieldAddrN (B := ⟨b0_, 0, none⟩) (m := 0) (o := 0) Try.underlying121 rfl nz47 rfl rfl)) ?_
        refine DH_take 3 (by kernel_rfl) rfl rfl (.no rfl) pk sH rfl (VR_load_blk (b := b0_) (m := 0) (k := 0) Try.underlying47 rfl rfl rfl rfl) ?_
        refine DH_take (v := .int .i64 x8_19) 4 (by kernel_rfl) rfl rfl (.no rfl) pk sH rfl (VR.ofV (V_move rfl)) ?_
        obtain ⟨⟨g324, g325⟩, H⟩ := g_pos H
        refine DH_take 5 (by kernel_rfl) rfl rfl (.no rfl) pk sH rfl (VR_index (i := x8_19) Try.underlying47 sz63 rfl rfl (Src.buf (k := 1) rfl) g324 g325) ?_
        refine DH_take (v := .pointer (some ((el A0_0 (x8_19.toNat * 3)).add 0))) 6 (by kernel_rfl) rfl rfl (.no rfl) pk sH rfl (VR.ofV (V_fieldAddrN (B := el A0_0 (x8_19.toNat * 3)) (m := 0) (o := 0) Try.underlying63 rfl nz44 rfl rfl)) ?_
        refine DH_take 7 (by kernel_rfl) rfl rfl (.no rfl) pk sH rfl (VR_load_el (enc := enc63) (i := x8_19) (j := x8_19.toNat * 3) (m := 0) (sz := 3) Try.underlying44 rfl rfl rfl rfl (Src.buf (k := 1) rfl) g324 g325 (fun _ _ h => h) rfl) ?_
        refine DH_take (v := .pointer (some ((⟨b4, 0, none⟩ : Addr).add 3))) 8 (by kernel_rfl) rfl rfl (.no rfl) pk sH rfl (VR.ofV (V_fieldAddrN (B := ⟨b4, 0, none⟩) (m := 0) (o := 3) Try.underlying54 rfl nz44 rfl rfl)) ?_
        refine DH_take 9 (by kernel_rfl) rfl rfl (.no rfl) pk sH rfl (VR_load_blk (b := b4) (m := 3) (k := 2) Try.underlying44 rfl rfl rfl rfl) ?_
        refine DH_take (v := .bool (decide (((rd p0.f0 x8_19).f0) ≥ a1.f3))) 10 (by kernel_rfl) rfl rfl (.no rfl) pk sH rfl (VR.ofV (V_geq rfl rfl)) ?_
        refine DH_take (v := .bool (decide (((rd p0.f0 x8_19).f0) ≥ a1.f3))) 11 (by kernel_rfl) rfl rfl (.no rfl) pk sH rfl (VR.ofV (V_move rfl)) ?_
        by_cases h1285 : ((rd p0.f0 x8_19).f0) ≥ a1.f3
        · replace H := g_ift h1285 H
          refine DH_skip 12 (by kernel_rfl) rfl rfl (.no rfl rfl rfl rfl (dec_t h1285)) pk rfl ?_
          refine DH_skip 13 (by kernel_rfl) rfl rfl (.no rfl rfl rfl rfl (dec_t h1285)) pk rfl ?_
          refine DH_skip 14 (by kernel_rfl) rfl rfl (.no rfl rfl rfl rfl (dec_t h1285)) pk rfl ?_
          refine DH_skip 15 (by kernel_rfl) rfl rfl (.no rfl rfl rfl rfl (dec_t h1285)) pk rfl ?_
          refine DH_skip 16 (by kernel_rfl) rfl rfl (.no rfl rfl rfl rfl (dec_t h1285)) pk rfl ?_
          refine DH_skip 17 (by kernel_rfl) rfl rfl (.no rfl rfl rfl rfl (dec_t h1285)) pk rfl ?_
          refine DH_skip 18 (by kernel_rfl) rfl rfl (.no rfl rfl rfl rfl (dec_t h1285)) pk rfl ?_
          refine DH_skip 19 (by kernel_rfl) rfl rfl (.no rfl rfl rfl rfl (dec_t h1285)) pk rfl ?_
          refine DH_take 20 (by kernel_rfl) rfl rfl (.no rfl) pk sH rfl (VR.ofV (V_pickT rfl (dec_t h1285) rfl)) ?_
          refine DH_open dd sH ?_
          refine DN_done (by kernel_rfl) ?_
          have hr_ := Option.some.inj H
          subst hr_
          exact at_normal (St.mk1 (aeq rfl (aeq rfl (aeq rfl (aeq rfl (aeq rfl (aeq rfl aeq0)))))) (Gh.sel [0, 1, 2, 3] rfl rfl))
        replace H := g_iff h1285 H
        refine DH_take (v := .int .i64 x8_19) 12 (by kernel_rfl) rfl rfl (.yes rfl rfl rfl rfl (dec_f h1285)) pk sH rfl (VR.ofV (V_move rfl)) ?_
        refine DH_take (v := .pointer (some ⟨b0_, 0, none⟩)) 13 (by kernel_rfl) rfl rfl (.yes rfl rfl rfl rfl (dec_f h1285)) pk sH rfl (VR.ofV (V_move rfl)) ?_
        refine DH_take (v := .pointer (some ⟨b0_, 0, none⟩)) 14 (by kernel_rfl) rfl rfl (.yes rfl rfl rfl rfl (dec_f h1285)) pk sH rfl (VR.ofV (V_nilCheck rfl)) ?_
        refine DH_take (v := .pointer (some ⟨b0_, 0, none⟩)) 15 (by kernel_rfl) rfl rfl (.yes rfl rfl rfl rfl (dec_f h1285)) pk sH rfl (VR.ofV (V_fieldAddrN (B := ⟨b0_, 0, none⟩) (m := 0) (o := 0) Try.underlying121 rfl nz47 rfl rfl)) ?_
        refine DH_take 16 (by kernel_rfl) rfl rfl (.yes rfl rfl rfl rfl (dec_f h1285)) pk sH rfl (VR_load_blk (b := b0_) (m := 0) (k := 0) Try.underlying47 rfl rfl rfl rfl) ?_
        refine DH_take (v := .int .i64 (p0.f0.length : Int)) 17 (by kernel_rfl) rfl rfl (.yes rfl rfl rfl rfl (dec_f h1285)) pk sH rfl (VR.ofV (V_len Try.underlying47 rfl)) ?_
        refine DH_take (v := .int .i64 (IntKind.i64.wrap ((p0.f0.length : Int) - 1))) 18 (by kernel_rfl) rfl rfl (.yes rfl rfl rfl rfl (dec_f h1285)) pk sH rfl (VR.ofV (V_sub rfl rfl)) ?_
        refine DH_take (v := .bool (decide (x8_19 = (IntKind.i64.wrap ((p0.f0.length : Int) - 1))))) 19 (by kernel_rfl) rfl rfl (.yes rfl rfl rfl rfl (dec_f h1285)) pk sH rfl (VR.ofV (V_eql rfl rfl)) ?_
        refine DH_take 20 (by kernel_rfl) rfl rfl (.no rfl) pk sH rfl (VR.ofV (V_pickF rfl (dec_f h1285) rfl)) ?_
        refine DH_open dd sH ?_
        refine DN_done (by kernel_rfl) ?_
        have hr_ := Option.some.inj H
        subst hr_
        exact at_normal (St.mk1 (aeq rfl (aeq rfl (aeq rfl (aeq rfl (aeq rfl (aeq rfl aeq0)))))) (Gh.sel [0, 1, 2, 3] rfl rfl))
      rintro e ds As hst1286
      clear H
      have H := Bt23
      clear Bt23
      refine at_normal ?_
      refine SA.of_St hst1286 fun junk => ?_
      by_cases h1287 : t23 = true
      · replace H := g_ift h1287 H
        refine SA_condTb rfl h1287 ?_
        refine SA_region ?_
        refine RA_step rfl (OA_v (v := .int .i64 x7_19) rfl (V_move rfl) ?_)
        refine RA_step rfl (OA_v (v := .int .i64 (IntKind.i64.wrap (x7_19 + 1))) rfl (V_add rfl rfl) ?_)
        obtain ⟨n1288, hn1288, H⟩ := g_lt H
        refine RA_step rfl (OA_v (v := .int .i64 n1288) rfl (V_assign (v := .int .i64 n1288) (congrArg (Value.int .i64) hn1288.symm)) ?_)
        refine RA_nil ?_
        refine inb_normal ?_
        refine at_normal ?_
        refine SA_region ?_
        refine RA_step rfl (OA_v (v := .int .i64 x8_19) rfl (V_move rfl) ?_)
        refine RA_step rfl (OA_v (v := .int .i64 (IntKind.i64.wrap (x8_19 + 1))) rfl (V_add rfl rfl) ?_)
        obtain ⟨n1289, hn1289, H⟩ := g_lt H
        refine RA_step rfl (OA_v (v := .int .i64 n1289) rfl (V_assign (v := .int .i64 n1289) (congrArg (Value.int .i64) hn1289.symm)) ?_)
        refine RA_nil ?_
        exact at_normal ⟨k20, Nat.lt_succ_self _, _, _, H, St.mk1 (aeq rfl (aeq rfl (aeq rfl (aeq rfl (aeq rfl aeq0))))) (Gh.sel [0, 1, 2, 3] rfl rfl)⟩
      replace H := g_iff h1287 H
      refine SA_condFb rfl h1287 ?_
      refine SA_skip ?_
      refine inb_normal ?_
      refine at_normal ?_
      refine SA_region ?_
      refine RA_step rfl (OA_v (v := .int .i64 x8_19) rfl (V_move rfl) ?_)
      refine RA_step rfl (OA_v (v := .int .i64 (IntKind.i64.wrap (x8_19 + 1))) rfl (V_add rfl rfl) ?_)
      obtain ⟨n1290, hn1290, H⟩ := g_lt H
      refine RA_step rfl (OA_v (v := .int .i64 n1290) rfl (V_assign (v := .int .i64 n1290) (congrArg (Value.int .i64) hn1290.symm)) ?_)
      refine RA_nil ?_
      exact at_normal ⟨k20, Nat.lt_succ_self _, _, _, H, St.mk1 (aeq rfl (aeq rfl (aeq rfl (aeq rfl (aeq rfl aeq0))))) (Gh.sel [0, 1, 2, 3] rfl rfl)⟩
    replace H := g_iff h22 H
    refine SA_condF rfl h22 ?_
    refine SA_exit ?_
    refine thn_exit ?_
    refine thn_exit ?_
    refine inb_hit ?_
    have hr_ := Option.some.inj H
    subst hr_
    exact at_normal (St.mk1 (aeq rfl (aeq rfl (aeq rfl (aeq rfl aeq0)))) (Gh.sel [0, 1, 2, 3] rfl rfl))
  rintro e ds As hst1291
  clear H
  have H := Bt19
  clear Bt19
  refine at_normal ?_
  refine SA.of_St hst1291 fun junk => ?_
  refine SA_seq ?_
  refine SA_seq ?_
  refine SA_region ?_
  refine RA_step rfl (OA_v (v := .int .i64 t19) rfl (V_move rfl) ?_)
  refine RA_step rfl (OA_v (v := .bool (decide (t19 ≥ 32))) rfl (V_geq rfl rfl) ?_)
  refine RA_nil ?_
  refine at_normal ?_
  by_cases h1292 : t19 ≥ 32
  · replace H := g_ift h1292 H
    refine SA_condT rfl h1292 ?_
    refine SA_seq ?_
    refine SA_region ?_
    refine RA_step rfl (OA_v (v := .bool false) rfl (V_assign rfl) ?_)
    refine RA_step rfl (OA_v (v := .int .i64 231) rfl (V_assign rfl) ?_)
    refine RA_nil ?_
    refine at_normal ?_
    refine SA_ret ?_
    refine thn_ret ?_
    have hr_ := Option.some.inj H
    subst hr_
    exact BQ_R2 [Blk b0_ 121 [.slice A0_0 p0.f0.length c0_0], Buf k63 63 A0_0 c0_0 p0.f0] rfl rfl rfl (Gh.sel [0, 1] rfl rfl) ⟨A0_0, c0_0, rfl, rfl⟩
  replace H := g_iff h1292 H
  refine SA_condF rfl h1292 ?_
  refine SA_skip ?_
  refine at_normal ?_
  refine SA_seq ?_
  refine SA_drawHq (0 :: 1 :: 2 :: 3 :: 4 :: 5 :: 6 :: 7 :: 8 :: 9 :: 10 :: 11 :: 12 :: 13 :: 14 :: []) (List.toArray ([] :: [0] :: [] :: [2] :: [2, 3] :: [2, 3, 4] :: [] :: [2, 3, 4, 5, 6] :: [2, 3, 4, 5, 6, 7] :: [2, 3, 4, 5, 6, 7, 8] :: [] :: [10] :: [10, 11] :: [2, 3, 4, 5, 6, 7, 8, 9, 10, 11, 12] :: (0 :: 1 :: 2 :: 3 :: 4 :: 5 :: 6 :: 7 :: 8 :: 9 :: 10 :: 11 :: 12 :: 13 :: []) :: [] :: (0 :: 1 :: 2 :: 3 :: 4 :: 5 :: 6 :: 7 :: 8 :: 9 :: 10 :: 11 :: 12 :: 13 :: 14 :: []) :: [])) [0, 1, 2, 3] [3] mixed rfl rfl rfl (PanOk.thn PanOk.body) fun I0 hS h0 hh0 w0 sH dd pk => ?_
  refine DH_take (v := .pointer (some ((⟨b4, 0, none⟩ : Addr).add 1))) 0 (by kernel_rfl) rfl rfl (.no rfl) pk sH rfl (VR.ofV (V_fieldAddrN (B := ⟨b4, 0, none⟩) (m := 0) (o := 1) Try.underlying54 rfl nz44 rfl rfl)) ?_
  refine DH_take 1 (by kernel_rfl) rfl rfl (.no rfl) pk sH rfl (VR_load_blk (b := b4) (m := 1) (k := 2) Try.underlying44 rfl rfl rfl rfl) ?_
  refine DH_take (v := .pointer (some ⟨b0_, 0, none⟩)) 2 (by kernel_rfl) rfl rfl (.no rfl) pk sH rfl (VR.ofV (V_move rfl)) ?_
  refine DH_take (v := .pointer (some ⟨b0_, 0, none⟩)) 3 (by kernel_rfl) rfl rfl (.no rfl) pk sH rfl (VR.ofV (V_nilCheck rfl)) ?_
  refine DH_take (v := .pointer (some ⟨b0_, 0, none⟩)) 4 (by kernel_rfl) rfl rfl (.no rfl) pk sH rfl (VR.ofV (V_fieldAddrN (B := ⟨b0_, 0, none⟩) (m := 0) (o := 0) Try.underlying121 rfl nz47 rfl rfl)) ?_
  refine DH_take 5 (by kernel_rfl) rfl rfl (.no rfl) pk sH rfl (VR_load_blk (b := b0_) (m := 0) (k := 0) Try.underlying47 rfl rfl rfl rfl) ?_
  refine DH_take (v := .int .i64 r14) 6 (by kernel_rfl) rfl rfl (.no rfl) pk sH rfl (VR.ofV (V_move rfl)) ?_
  obtain ⟨⟨g1713, g1714⟩, H⟩ := g_pos H
  refine DH_take 7 (by kernel_rfl) rfl rfl (.no rfl) pk sH rfl (VR_index (i := r14) Try.underlying47 sz63 rfl rfl (Src.buf (k := 1) rfl) g1713 g1714) ?_
  refine DH_take (v := .pointer (some ((el A0_0 (r14.toNat * 3)).add 1))) 8 (by kernel_rfl) rfl rfl (.no rfl) pk sH rfl (VR.ofV (V_fieldAddrN (B := el A0_0 (r14.toNat * 3)) (m := 0) (o := 1) Try.underlying63 rfl nz9 rfl rfl)) ?_
  refine DH_take 9 (by kernel_rfl) rfl rfl (.no rfl) pk sH rfl (VR_load_el (enc := enc63) (i := r14) (j := r14.toNat * 3) (m := 1) (sz := 3) Try.underlying9 rfl rfl rfl rfl (Src.buf (k := 1) rfl) g1713 g1714 (fun _ _ h => h) rfl) ?_
  refine DH_take (v := .pointer (some ((⟨b4, 0, none⟩ : Addr).add 4))) 10 (by kernel_rfl) rfl rfl (.no rfl) pk sH rfl (VR.ofV (V_fieldAddrN (B := ⟨b4, 0, none⟩) (m := 0) (o := 4) Try.underlying54 rfl nz23 rfl rfl)) ?_
  refine DH_take 11 (by kernel_rfl) rfl rfl (.no rfl) pk sH rfl (VR_load_blk (b := b4) (m := 4) (k := 2) Try.underlying23 rfl rfl rfl rfl) ?_
  refine DH_take 12 (by kernel_rfl) rfl rfl (.no rfl) pk sH rfl (VR_str Try.underlying23 Try.underlying5 Try.underlying9 rfl (Src.ro (k := 3) rfl)) ?_
  obtain ⟨g2073, H⟩ := g_pos H
  refine DH_take (v := .string (((rd p0.f0 r14).f1) ++ (strOf a1.f4))) 13 (by kernel_rfl) rfl rfl (.no rfl) pk sH rfl (VR.ofV (V_addS rfl rfl g2073)) ?_
  refine DH_take (v := .agg #[.int .u64 a1.f1, .string (((rd p0.f0 r14).f1) ++ (strOf a1.f4)), .int .u64 0]) 14 (by kernel_rfl) rfl rfl (.no rfl) pk sH rfl (VR.ofV (V_build (cells := [.int .u64 a1.f1, .string (((rd p0.f0 r14).f1) ++ (strOf a1.f4)), .int .u64 0]) zero63 Try.underlying63 plc63 (by kernel_rfl))) ?_
  refine DH_one 15 dd (by kernel_rfl) rfl (.no rfl) (OA_alloc rfl zero63 fun b2193 => ?_)
  refine DH_one 16 dd (by kernel_rfl) rfl (.no rfl) (OA_st (b := b2193) (m := 0) (k := 1) (vs := [.int .u64 a1.f1, .string (((rd p0.f0 r14).f1) ++ (strOf a1.f4)), .int .u64 0]) (cs' := [.int .u64 a1.f1, .string (((rd p0.f0 r14).f1) ++ (strOf a1.f4)), .int .u64 0]) rfl rfl rfl rfl rfl rfl sz63 rfl rfl ?_)
  refine DH_open dd sH ?_
  refine DN_done (by kernel_rfl) ?_
  refine at_normal ?_
  refine SA_seq ?_
  refine SA_region ?_
  refine RA_step rfl (OA_v (v := .slice none 0 0) rfl (V_assign rfl) ?_)
  refine RA_nil ?_
  refine at_normal ?_
  refine SA_seq ?_
  refine SA_seq ?_
  refine SA_region ?_
  refine RA_step rfl (OA_v (v := .int .i64 0) rfl (V_assign rfl) ?_)
  refine RA_nil ?_
  refine at_normal ?_
  obtain ⟨t2314, H, Bt2314⟩ := g_bind H
  refine SA_mid (fun e ds As => ∃ (A2315 : Option Addr) (c2316 : Nat), St [(0, .pointer (some ⟨b0_, 0, none⟩)), (3, .pointer (some ⟨b4, 0, none⟩)), (9, .pointer (some ⟨b2193, 0, none⟩)), (10, .slice A2315 t2314.length c2316)] [Buf k63 63 A2315 c2316 t2314, Blk b0_ 121 [.slice A0_0 p0.f0.length c0_0], Buf k63 63 A0_0 c0_0 p0.f0, Blk b4 54 [.int .u64 a1.f0, .int .u64 a1.f1, .int .u64 a1.f2, .int .u64 a1.f3, .slice A1_0 a1.f4.length c1_0], Ro (Kd.int .u8) A1_0 c1_0 a1.f4, Blk b2193 63 [.int .u64 a1.f1, .string (((rd p0.f0 r14).f1) ++ (strOf a1.f4)), .int .u64 0]] e ds As) ?_ ?_
  · refine SA_block ?_
    refine SA_loop (fun k_ e ds As => ∃ (x10_2317 : (List S63)) (x11_2317 : Int), ∃ (A2318 : Option Addr) (c2319 : Nat), F55b0.l1 p0 a1 k_ x10_2317 x11_2317 = some t2314 ∧ St [(0, .pointer (some ⟨b0_, 0, none⟩)), (3, .pointer (some ⟨b4, 0, none⟩)), (9, .pointer (some ⟨b2193, 0, none⟩)), (10, .slice A2318 x10_2317.length c2319), (11, .int .i64 x11_2317)] [Blk b0_ 121 [.slice A0_0 p0.f0.length c0_0], Buf k63 63 A0_0 c0_0 p0.f0, Blk b4 54 [.int .u64 a1.f0, .int .u64 a1.f1, .int .u64 a1.f2, .int .u64 a1.f3, .slice A1_0 a1.f4.length c1_0], Ro (Kd.int .u8) A1_0 c1_0 a1.f4, Blk b2193 63 [.int .u64 a1.f1, .string (((rd p0.f0 r14).f1) ++ (strOf a1.f4)), .int .u64 0], Buf k63 63 A2318 c2319 x10_2317] e ds As) (k := k) ⟨_, _, none, 0, H, St.mk1 (aeq rfl (aeq rfl (aeq rfl (aeq rfl (aeq rfl aeq0))))) ((Gh.nilBuf k63 63).trans (Gh.sel [0, 1, 2, 3, 5, 6] rfl rfl))⟩ ?_
    clear H
    rintro k2322 e ds As ⟨x10_2317, x11_2317, A2318, c2319, H, hst2323⟩
    obtain _ | k2322 := k2322
    · cases H
    rw [F55b0.l1] at H
    refine SA.of_St hst2323 fun junk => ?_
    refine SA_seq ?_
    refine SA_seq ?_
    refine SA_region ?_
    refine RA_step rfl (OA_v (v := .int .i64 x11_2317) rfl (V_move rfl) ?_)
    refine RA_step rfl (OA_v (v := .pointer (some ⟨b0_, 0, none⟩)) rfl (V_move rfl) ?_)
    refine RA_step rfl (OA_v (v := .pointer (some ⟨b0_, 0, none⟩)) rfl (V_nilCheck rfl) ?_)
    refine RA_step rfl (OA_v (v := .pointer (some ⟨b0_, 0, none⟩)) rfl (V_fieldAddrN (B := ⟨b0_, 0, none⟩) (m := 0) (o := 0) Try.underlying121 rfl nz47 rfl rfl) ?_)
    refine RA_step rfl (OA_r rfl (VR_load_blk (b := b0_) (m := 0) (k := 0) Try.underlying47 rfl rfl rfl rfl) ?_)
    refine RA_step rfl (OA_v (v := .int .i64 (p0.f0.length : Int)) rfl (V_len Try.underlying47 rfl) ?_)
    refine RA_step rfl (OA_v (v := .bool (decide (x11_2317 < (p0.f0.length : Int)))) rfl (V_lss rfl rfl) ?_)
    refine RA_nil ?_
    refine at_normal ?_
    by_cases h2324 : x11_2317 < (p0.f0.length : Int)
    · replace H := g_ift h2324 H
      refine SA_condT rfl h2324 ?_
      refine SA_skip ?_
      refine at_normal ?_
      refine SA_seq ?_
      refine SA_block ?_
      refine SA_seq ?_
      refine SA_drawHq [0, 1, 2, 3, 4, 5, 6, 7, 8, 9, 10] #[[], [0], [0, 1], [0, 1, 2], [], [0, 1, 2, 3, 4], [0, 1, 2, 3, 4, 5], [0, 1, 2, 3, 4, 5, 6], [], [8], [0, 1, 2, 3, 4, 5, 6, 7, 8, 9]] [0, 1, 2, 3] [3, 4, 5] mixed rfl rfl rfl (PanOk.thn (PanOk.inb (PanOk.thn (PanOk.thn (PanOk.inb (PanOk.thn (PanOk.thn PanOk.body))))))) fun I0 hS h0 hh0 w0 sH dd pk => ?_
      refine DH_take (v := .pointer (some ⟨b0_, 0, none⟩)) 0 (by kernel_rfl) rfl rfl (.no rfl) pk sH rfl (VR.ofV (V_move rfl)) ?_
      refine DH_take (v := .pointer (some ⟨b0_, 0, none⟩)) 1 (by kernel_rfl) rfl rfl (.no rfl) pk sH rfl (VR.ofV (V_nilCheck rfl)) ?_
      refine DH_take (v := .pointer (some ⟨b0_, 0, none⟩)) 2 (by kernel_rfl) rfl rfl (.no rfl) pk sH rfl (VR.ofV (V_fieldAddrN (B := ⟨b0_, 0, none⟩) (m := 0) (o := 0) Try.underlying121 rfl nz47 rfl rfl)) ?_
      refine DH_take 3 (by kernel_rfl) rfl rfl (.no rfl) pk sH rfl (VR_load_blk (b := b0_) (m := 0) (k := 0) Try.underlying47 rfl rfl rfl rfl) ?_
      refine DH_take (v := .int .i64 x11_2317) 4 (by kernel_rfl) rfl rfl (.no rfl) pk sH rfl (VR.ofV (V_move rfl)) ?_
      obtain ⟨⟨g2625, g2626⟩, H⟩ := g_pos H
      refine DH_take 5 (by kernel_rfl) rfl rfl (.no rfl) pk sH rfl (VR_index (i := x11_2317) Try.underlying47 sz63 rfl rfl (Src.buf (k := 1) rfl) g2625 g2626) ?_
      refine DH_take (v := .pointer (some ((el A0_0 (x11_2317.toNat * 3)).add 0))) 6 (by kernel_rfl) rfl rfl (.no rfl) pk sH rfl (VR.ofV (V_fieldAddrN (B := el A0_0 (x11_2317.toNat * 3)) (m := 0) (o := 0) Try.underlying63 rfl nz44 rfl rfl)) ?_
      refine DH_take 7 (by kernel_rfl) rfl rfl (.no rfl) pk sH rfl (VR_load_el (enc := enc63) (i := x11_2317) (j := x11_2317.toNat * 3) (m := 0) (sz := 3) Try.underlying44 rfl rfl rfl rfl (Src.buf (k := 1) rfl) g2625 g2626 (fun _ _ h => h) rfl) ?_
      refine DH_take (v := .pointer (some ((⟨b4, 0, none⟩ : Addr).add 1))) 8 (by kernel_rfl) rfl rfl (.no rfl) pk sH rfl (VR.ofV (V_fieldAddrN (B := ⟨b4, 0, none⟩) (m := 0) (o := 1) Try.underlying54 rfl nz44 rfl rfl)) ?_
      refine DH_take 9 (by kernel_rfl) rfl rfl (.no rfl) pk sH rfl (VR_load_blk (b := b4) (m := 1) (k := 2) Try.underlying44 rfl rfl rfl rfl) ?_
      refine DH_take (v := .bool (decide (((rd p0.f0 x11_2317).f0) < a1.f1))) 10 (by kernel_rfl) rfl rfl (.no rfl) pk sH rfl (VR.ofV (V_lss rfl rfl)) ?_
      refine DH_open dd sH ?_
      refine DN_done (by kernel_rfl) ?_
      refine at_normal ?_
      by_cases h2986 : ((rd p0.f0 x11_2317).f0) < a1.f1
      · replace H := g_ift h2986 H
        refine SA_condT rfl h2986 ?_
        refine SA_region ?_
        refine RA_step rfl (OA_v (v := .slice A2318 x10_2317.length c2319) rfl (V_move rfl) ?_)
        refine RA_step rfl (OA_v (v := .pointer (some ⟨b0_, 0, none⟩)) rfl (V_move rfl) ?_)
        refine RA_step rfl (OA_v (v := .pointer (some ⟨b0_, 0, none⟩)) rfl (V_nilCheck rfl) ?_)
        refine RA_step rfl (OA_v (v := .pointer (some ⟨b0_, 0, none⟩)) rfl (V_fieldAddrN (B := ⟨b0_, 0, none⟩) (m := 0) (o := 0) Try.underlying121 rfl nz47 rfl rfl) ?_)
        refine RA_step rfl (OA_r rfl (VR_load_blk (b := b0_) (m := 0) (k := 0) Try.underlying47 rfl rfl rfl rfl) ?_)
        refine RA_step rfl (OA_v (v := .int .i64 x11_2317) rfl (V_move rfl) ?_)
        obtain ⟨⟨g2987, g2988⟩, H⟩ := g_pos H
        refine RA_step rfl (OA_r rfl (VR_index (i := x11_2317) Try.underlying47 sz63 rfl rfl (Src.buf (k := 1) rfl) g2987 g2988) ?_)
        refine RA_step rfl (OA_r rfl (VR_loadA_el (enc := enc63) (i := x11_2317) (j := x11_2317.toNat * 3) (m := 0) (sz := 3) (vs := [.int .u64 ((rd p0.f0 x11_2317).f0), .string ((rd p0.f0 x11_2317).f1), .int .u64 ((rd p0.f0 x11_2317).f2)]) Try.underlying63 rfl sz63 rfl rfl rfl (Src.buf (k := 1) rfl) g2987 g2988 (fun _ _ h => h) rfl) ?_)
        refine RA_step rfl (OA_bs (kd := k63) (zv := (.agg #[.int .u64 0, .string ByteArray.empty, .int .u64 0])) (sz := 3) (cells := [.int .u64 ((rd p0.f0 x11_2317).f0), .string ((rd p0.f0 x11_2317).f1), .int .u64 ((rd p0.f0 x11_2317).f2)]) (xs := ([(rd p0.f0 x11_2317)] : (List S63))) rfl Try.underlying47 zero63 sz63 rfl rfl rfl (by kernel_rfl) rfl rfl (RL_enc enc63 (fun _ _ => rfl) (by kernel_rfl)) fun b2989 => ?_)
        obtain ⟨g2992, H⟩ := g_pos H
        obtain ⟨n2995, hn2995, H⟩ := g_lt H
        refine RA_step rfl (OA_app (k := 6) (A := A2318) (c := c2319) (xs := x10_2317) (ys := ([(rd p0.f0 x11_2317)] : (List S63))) n2995 hn2995 rfl Try.underlying47 inf63 rfl rfl rfl rfl rfl (Yld.slice Try.underlying47 (Src.buf (k := 7) rfl)) (by omega) (by omega) fun A2993 c2994 => ?_)
        refine RA_step rfl (OA_v (v := .slice A2993 n2995.length c2994) rfl (V_assign rfl) ?_)
        refine RA_nil ?_
        refine inb_normal ?_
        refine at_normal ?_
        refine SA.of_St (l := [(0, .pointer (some ⟨b0_, 0, none⟩)), (3, .pointer (some ⟨b4, 0, none⟩)), (9, .pointer (some ⟨b2193, 0, none⟩)), (10, .slice A2993 n2995.length c2994), (11, .int .i64 x11_2317)]) (B := [Blk b0_ 121 [.slice A0_0 p0.f0.length c0_0], Buf k63 63 A0_0 c0_0 p0.f0, Blk b4 54 [.int .u64 a1.f0, .int .u64 a1.f1, .int .u64 a1.f2, .int .u64 a1.f3, .slice A1_0 a1.f4.length c1_0], Ro (Kd.int .u8) A1_0 c1_0 a1.f4, Blk b2193 63 [.int .u64 a1.f1, .string (((rd p0.f0 r14).f1) ++ (strOf a1.f4)), .int .u64 0], Buf k63 63 A2993 c2994 n2995]) (St.mk1 (aeq rfl (aeq rfl (aeq rfl (aeq rfl (aeq rfl aeq0))))) (Gh.sel [0, 1, 2, 3, 5, 6] (by kernel_rfl) (by kernel_rfl))) fun junk => ?_
        refine SA_region ?_
        refine RA_step rfl (OA_v (v := .int .i64 x11_2317) rfl (V_move rfl) ?_)
        refine RA_step rfl (OA_v (v := .int .i64 (IntKind.i64.wrap (x11_2317 + 1))) rfl (V_add rfl rfl) ?_)
        obtain ⟨n2996, hn2996, H⟩ := g_lt H
        refine RA_step rfl (OA_v (v := .int .i64 n2996) rfl (V_assign (v := .int .i64 n2996) (congrArg (Value.int .i64) hn2996.symm)) ?_)
        refine RA_nil ?_
        exact at_normal ⟨k2322, Nat.lt_succ_self _, _, _, A2993, c2994, H, St.mk1 (aeq rfl (aeq rfl (aeq rfl (aeq rfl (aeq rfl aeq0))))) (Gh.sel [0, 1, 2, 3, 4, 5] rfl rfl)⟩
      replace H := g_iff h2986 H
      refine SA_condF rfl h2986 ?_
      refine SA_skip ?_
      refine inb_normal ?_
      refine at_normal ?_
      refine SA_region ?_
      refine RA_step rfl (OA_v (v := .int .i64 x11_2317) rfl (V_move rfl) ?_)
      refine RA_step rfl (OA_v (v := .int .i64 (IntKind.i64.wrap (x11_2317 + 1))) rfl (V_add rfl rfl) ?_)
      obtain ⟨n2997, hn2997, H⟩ := g_lt H
      refine RA_step rfl (OA_v (v := .int .i64 n2997) rfl (V_assign (v := .int .i64 n2997) (congrArg (Value.int .i64) hn2997.symm)) ?_)
      refine RA_nil ?_
      exact at_normal ⟨k2322, Nat.lt_succ_self _, _, _, A2318, c2319, H, St.mk1 (aeq rfl (aeq rfl (aeq rfl (aeq rfl (aeq rfl aeq0))))) (Gh.sel [0, 1, 2, 3, 5, 6] rfl rfl)⟩
    replace H := g_iff h2324 H
    refine SA_condF rfl h2324 ?_
    refine SA_exit ?_
    refine thn_exit ?_
    refine thn_exit ?_
    refine inb_hit ?_
    have hr_ := Option.some.inj H
    subst hr_
    exact at_normal ⟨A2318, c2319, St.mk1 (aeq rfl (aeq rfl (aeq rfl (aeq rfl aeq0)))) (Gh.sel [5, 0, 1, 2, 3, 4] rfl rfl)⟩
  rintro e ds As ⟨A2315, c2316, hst2998⟩
  clear H
  have H := Bt2314
  clear Bt2314
  refine at_normal ?_
  refine SA.of_St hst2998 fun junk => ?_
  refine SA_seq ?_
  refine SA_region ?_
  refine RA_step rfl (OA_v (v := .slice A2315 t2314.length c2316) rfl (V_move rfl) ?_)
  refine RA_step rfl (OA_v (v := .int .i64 (t2314.length : Int)) rfl (V_len Try.underlying47 rfl) ?_)
  refine RA_step rfl (OA_v (v := .pointer (some ⟨b0_, 0, none⟩)) rfl (V_move rfl) ?_)
  refine RA_step rfl (OA_v (v := .pointer (some ⟨b0_, 0, none⟩)) rfl (V_nilCheck rfl) ?_)
  refine RA_step rfl (OA_v (v := .pointer (some ⟨b0_, 0, none⟩)) rfl (V_fieldAddrN (B := ⟨b0_, 0, none⟩) (m := 0) (o := 0) Try.underlying121 rfl nz47 rfl rfl) ?_)
  refine RA_step rfl (OA_r rfl (VR_load_blk (b := b0_) (m := 0) (k := 1) Try.underlying47 rfl rfl rfl rfl) ?_)
  refine RA_step rfl (OA_v (v := .int .i64 (p0.f0.length : Int)) rfl (V_len Try.underlying47 rfl) ?_)
  refine RA_step rfl (OA_v (v := .bool (decide ((t2314.length : Int) = (p0.f0.length : Int)))) rfl (V_eql rfl rfl) ?_)
  refine RA_step rfl (OA_v (v := .bool (decide ((t2314.length : Int) = (p0.f0.length : Int)))) rfl (V_assign rfl) ?_)
  refine RA_nil ?_
  refine at_normal ?_
  refine SA_seq ?_
  refine SA_region ?_
  refine RA_step rfl (OA_v (v := .slice A2315 t2314.length c2316) rfl (V_move rfl) ?_)
  refine RA_step rfl (OA_r rfl (VR_loadA_blk (b := b2193) (m := 0) (k := 5) (vs := [.int .u64 a1.f1, .string (((rd p0.f0 r14).f1) ++ (strOf a1.f4)), .int .u64 0]) Try.underlying63 rfl sz63 rfl rfl rfl) ?_)
  refine RA_step rfl (OA_bs (kd := k63) (zv := (.agg #[.int .u64 0, .string ByteArray.empty, .int .u64 0])) (sz := 3) (cells := [.int .u64 a1.f1, .string (((rd p0.f0 r14).f1) ++ (strOf a1.f4)), .int .u64 0]) (xs := ([(S63.mk a1.f1 (((rd p0.f0 r14).f1) ++ (strOf a1.f4)) 0)] : (List S63))) rfl Try.underlying47 zero63 sz63 rfl rfl rfl (by kernel_rfl) rfl rfl (RL_enc enc63 (fun _ _ => rfl) (by kernel_rfl)) fun b2999 => ?_)
  obtain ⟨g3002, H⟩ := g_pos H
  obtain ⟨n3005, hn3005, H⟩ := g_lt H
  refine RA_step rfl (OA_app (k := 0) (A := A2315) (c := c2316) (xs := t2314) (ys := ([(S63.mk a1.f1 (((rd p0.f0 r14).f1) ++ (strOf a1.f4)) 0)] : (List S63))) n3005 hn3005 rfl Try.underlying47 inf63 rfl rfl rfl rfl rfl (Yld.slice Try.underlying47 (Src.buf (k := 6) rfl)) (by omega) (by omega) fun A3003 c3004 => ?_)
  refine RA_step rfl (OA_v (v := .slice A3003 n3005.length c3004) rfl (V_assign rfl) ?_)
  refine RA_nil ?_
  refine at_normal ?_
  refine SA_seq ?_
  refine SA_seq ?_
  refine SA_region ?_
  refine RA_step rfl (OA_v (v := .int .i64 0) rfl (V_assign rfl) ?_)
  refine RA_nil ?_
  refine at_normal ?_
  obtain ⟨t3006, H, Bt3006⟩ := g_bind H
  refine SA_mid (fun e ds As => ∃ (A3007 : Option Addr) (c3008 : Nat), St [(0, .pointer (some ⟨b0_, 0, none⟩)), (3, .pointer (some ⟨b4, 0, none⟩)), (10, .slice A3007 t3006.length c3008), (12, .bool (decide ((t2314.length : Int) = (p0.f0.length : Int))))] [Buf k63 63 A3007 c3008 t3006, Blk b0_ 121 [.slice A0_0 p0.f0.length c0_0], Buf k63 63 A0_0 c0_0 p0.f0, Blk b4 54 [.int .u64 a1.f0, .int .u64 a1.f1, .int .u64 a1.f2, .int .u64 a1.f3, .slice A1_0 a1.f4.length c1_0], Ro (Kd.int .u8) A1_0 c1_0 a1.f4] e ds As) ?_ ?_
  · refine SA_block ?_
    refine SA_loop (fun k_ e ds As => ∃ (x10_3009 : (List S63)) (x13_3009 : Int), ∃ (A3010 : Option Addr) (c3011 : Nat), F55b0.l2 p0 a1 k_ x10_3009 x13_3009 = some t3006 ∧ St [(0, .pointer (some ⟨b0_, 0, none⟩)), (3, .pointer (some ⟨b4, 0, none⟩)), (10, .slice A3010 x10_3009.length c3011), (12, .bool (decide ((t2314.length : Int) = (p0.f0.length : Int)))), (13, .int .i64 x13_3009)] [Blk b0_ 121 [.slice A0_0 p0.f0.length c0_0], Buf k63 63 A0_0 c0_0 p0.f0, Blk b4 54 [.int .u64 a1.f0, .int .u64 a1.f1, .int .u64 a1.f2, .int .u64 a1.f3, .slice A1_0 a1.f4.length c1_0], Ro (Kd.int .u8) A1_0 c1_0 a1.f4, Buf k63 63 A3010 c3011 x10_3009] e ds As) (k := k) ⟨_, _, A3003, c3004, H, St.mk1 (aeq rfl (aeq rfl (aeq rfl (aeq rfl (aeq rfl aeq0))))) (Gh.sel [1, 2, 3, 4, 0] rfl rfl)⟩ ?_
    clear H
    rintro k3013 e ds As ⟨x10_3009, x13_3009, A3010, c3011, H, hst3014⟩
    obtain _ | k3013 := k3013
    · cases H
    rw [F55b0.l2] at H
    refine SA.of_St hst3014 fun junk => ?_
    refine SA_seq ?_
    refine SA_seq ?_
    refine SA_region ?_
    refine RA_step rfl (OA_v (v := .int .i64 x13_3009) rfl (V_move rfl) ?_)
    refine RA_step rfl (OA_v (v := .pointer (some ⟨b0_, 0, none⟩)) rfl (V_move rfl) ?_)
    refine RA_step rfl (OA_v (v := .pointer (some ⟨b0_, 0, none⟩)) rfl (V_nilCheck rfl) ?_)
    refine RA_step rfl (OA_v (v := .pointer (some ⟨b0_, 0, none⟩)) rfl (V_fieldAddrN (B := ⟨b0_, 0, none⟩) (m := 0) (o := 0) Try.underlying121 rfl nz47 rfl rfl) ?_)
    refine RA_step rfl (OA_r rfl (VR_load_blk (b := b0_) (m := 0) (k := 0) Try.underlying47 rfl rfl rfl rfl) ?_)
    refine RA_step rfl (OA_v (v := .int .i64 (p0.f0.length : Int)) rfl (V_len Try.underlying47 rfl) ?_)
    refine RA_step rfl (OA_v (v := .bool (decide (x13_3009 < (p0.f0.length : Int)))) rfl (V_lss rfl rfl) ?_)
    refine RA_nil ?_
    refine at_normal ?_
    by_cases h3015 : x13_3009 < (p0.f0.length : Int)
    · replace H := g_ift h3015 H
      refine SA_condT rfl h3015 ?_
      refine SA_skip ?_
      refine at_normal ?_
      refine SA_seq ?_
      refine SA_block ?_
      refine SA_seq ?_
      refine SA_drawHq [0, 1, 2, 3, 4, 5, 6, 7, 8, 9, 10] #[[], [0], [0, 1], [0, 1, 2], [], [0, 1, 2, 3, 4], [0, 1, 2, 3, 4, 5], [0, 1, 2, 3, 4, 5, 6], [], [8], [0, 1, 2, 3, 4, 5, 6, 7, 8, 9]] [0, 1, 2, 3] [3, 4] mixed rfl rfl rfl (PanOk.thn (PanOk.inb (PanOk.thn (PanOk.thn (PanOk.inb (PanOk.thn (PanOk.thn PanOk.body))))))) fun I0 hS h0 hh0 w0 sH dd pk => ?_
      refine DH_take (v := .pointer (some ⟨b0_, 0, none⟩)) 0 (by kernel_rfl) rfl rfl (.no rfl) pk sH rfl (VR.ofV (V_move rfl)) ?_
      refine DH_take (v := .pointer (some ⟨b0_, 0, none⟩)) 1 (by kernel_rfl) rfl rfl (.no rfl) pk sH rfl (VR.ofV (V_nilCheck rfl)) ?_
      refine DH_take (v := .pointer (some ⟨b0_, 0, none⟩)) 2 (by kernel_rfl) rfl rfl (.no rfl) pk sH rfl (VR.ofV (V_fieldAddrN (B := ⟨b0_, 0, none⟩) (m := 0) (o := 0) Try.underlying121 rfl nz47 rfl rfl)) ?_
      refine DH_take 3 (by kernel_rfl) rfl rfl (.no rfl) pk sH rfl (VR_load_blk (b := b0_) (m := 0) (k := 0) Try.underlying47 rfl rfl rfl rfl) ?_
      refine DH_take (v := .int .i64 x13_3009) 4 (by kernel_rfl) rfl rfl (.no rfl) pk sH rfl (VR.ofV (V_move rfl)) ?_
      obtain ⟨⟨g3316, g3317⟩, H⟩ := g_pos H
      refine DH_take 5 (by kernel_rfl) rfl rfl (.no rfl) pk sH rfl (VR_index (i := x13_3009) Try.underlying47 sz63 rfl rfl (Src.buf (k := 1) rfl) g3316 g3317) ?_
      refine DH_take (v := .pointer (some ((el A0_0 (x13_3009.toNat * 3)).add 0))) 6 (by kernel_rfl) rfl rfl (.no rfl) pk sH rfl (VR.ofV (V_fieldAddrN (B := el A0_0 (x13_3009.toNat * 3)) (m := 0) (o := 0) Try.underlying63 rfl nz44 rfl rfl)) ?_
      refine DH_take 7 (by kernel_rfl) rfl rfl (.no rfl) pk sH rfl (VR_load_el (enc := enc63) (i := x13_3009) (j := x13_3009.toNat * 3) (m := 0) (sz := 3) Try.underlying44 rfl rfl rfl rfl (Src.buf (k := 1) rfl) g3316 g3317 (fun _ _ h => h) rfl) ?_
      refine DH_take (v := .pointer (some ((⟨b4, 0, none⟩ : Addr).add 1))) 8 (by kernel_rfl) rfl rfl (.no rfl) pk sH rfl (VR.ofV (V_fieldAddrN (B := ⟨b4, 0, none⟩) (m := 0) (o := 1) Try.underlying54 rfl nz44 rfl rfl)) ?_
      refine DH_take 9 (by kernel_rfl) rfl rfl (.no rfl) pk sH rfl (VR_load_blk (b := b4) (m := 1) (k := 2) Try.underlying44 rfl rfl rfl rfl) ?_
      refine DH_take (v := .bool (decide (((rd p0.f0 x13_3009).f0) > a1.f1))) 10 (by kernel_rfl) rfl rfl (.no rfl) pk sH rfl (VR.ofV (V_gtr rfl rfl)) ?_
      refine DH_open dd sH ?_
      refine DN_done (by kernel_rfl) ?_
      refine at_normal ?_
      by_cases h3677 : ((rd p0.f0 x13_3009).f0) > a1.f1
      · replace H := g_ift h3677 H
        refine SA_condT rfl h3677 ?_
        refine SA_region ?_
        refine RA_step rfl (OA_v (v := .slice A3010 x10_3009.length c3011) rfl (V_move rfl) ?_)
        refine RA_step rfl (OA_v (v := .pointer (some ⟨b0_, 0, none⟩)) rfl (V_move rfl) ?_)
        refine RA_step rfl (OA_v (v := .pointer (some ⟨b0_, 0, none⟩)) rfl (V_nilCheck rfl) ?_)
        refine RA_step rfl (OA_v (v := .pointer (some ⟨b0_, 0, none⟩)) rfl (V_fieldAddrN (B := ⟨b0_, 0, none⟩) (m := 0) (o := 0) Try.underlying121 rfl nz47 rfl rfl) ?_)
        refine RA_step rfl (OA_r rfl (VR_load_blk (b := b0_) (m := 0) (k := 0) Try.underlying47 rfl rfl rfl rfl) ?_)
        refine RA_step rfl (OA_v (v := .int .i64 x13_3009) rfl (V_move rfl) ?_)
        obtain ⟨⟨g3678, g3679⟩, H⟩ := g_pos H
        refine RA_step rfl (OA_r rfl (VR_index (i := x13_3009) Try.underlying47 sz63 rfl rfl (Src.buf (k := 1) rfl) g3678 g3679) ?_)
        refine RA_step rfl (OA_r rfl (VR_loadA_el (enc := enc63) (i := x13_3009) (j := x13_3009.toNat * 3) (m := 0) (sz := 3) (vs := [.int .u64 ((rd p0.f0 x13_3009).f0), .string ((rd p0.f0 x13_3009).f1), .int .u64 ((rd p0.f0 x13_3009).f2)]) Try.underlying63 rfl sz63 rfl rfl rfl (Src.buf (k := 1) rfl) g3678 g3679 (fun _ _ h => h) rfl) ?_)
        refine RA_step rfl (OA_bs (kd := k63) (zv := (.agg #[.int .u64 0, .string ByteArray.empty, .int .u64 0])) (sz := 3) (cells := [.int .u64 ((rd p0.f0 x13_3009).f0), .string ((rd p0.f0 x13_3009).f1), .int .u64 ((rd p0.f0 x13_3009).f2)]) (xs := ([(rd p0.f0 x13_3009)] : (List S63))) rfl Try.underlying47 zero63 sz63 rfl rfl rfl (by kernel_rfl) rfl rfl (RL_enc enc63 (fun _ _ => rfl) (by kernel_rfl)) fun b3680 => ?_)
        obtain ⟨g3683, H⟩ := g_pos H
        obtain ⟨n3686, hn3686, H⟩ := g_lt H
        refine RA_step rfl (OA_app (k := 5) (A := A3010) (c := c3011) (xs := x10_3009) (ys := ([(rd p0.f0 x13_3009)] : (List S63))) n3686 hn3686 rfl Try.underlying47 inf63 rfl rfl rfl rfl rfl (Yld.slice Try.underlying47 (Src.buf (k := 6) rfl)) (by omega) (by omega) fun A3684 c3685 => ?_)
        refine RA_step rfl (OA_v (v := .slice A3684 n3686.length c3685) rfl (V_assign rfl) ?_)
        refine RA_nil ?_
        refine inb_normal ?_
        refine at_normal ?_
        refine SA.of_St (l := [(0, .pointer (some ⟨b0_, 0, none⟩)), (3, .pointer (some ⟨b4, 0, none⟩)), (10, .slice A3684 n3686.length c3685), (12, .bool (decide ((t2314.length : Int) = (p0.f0.length : Int)))), (13, .int .i64 x13_3009)]) (B := [Blk b0_ 121 [.slice A0_0 p0.f0.length c0_0], Buf k63 63 A0_0 c0_0 p0.f0, Blk b4 54 [.int .u64 a1.f0, .int .u64 a1.f1, .int .u64 a1.f2, .int .u64 a1.f3, .slice A1_0 a1.f4.length c1_0], Ro (Kd.int .u8) A1_0 c1_0 a1.f4, Buf k63 63 A3684 c3685 n3686]) (St.mk1 (aeq rfl (aeq rfl (aeq rfl (aeq rfl (aeq rfl aeq0))))) (Gh.sel [0, 1, 2, 3, 5] (by kernel_rfl) (by kernel_rfl))) fun junk => ?_
        refine SA_region ?_
        refine RA_step rfl (OA_v (v := .int .i64 x13_3009) rfl (V_move rfl) ?_)
        refine RA_step rfl (OA_v (v := .int .i64 (IntKind.i64.wrap (x13_3009 + 1))) rfl (V_add rfl rfl) ?_)
        obtain ⟨n3687, hn3687, H⟩ := g_lt H
        refine RA_step rfl (OA_v (v := .int .i64 n3687) rfl (V_assign (v := .int .i64 n3687) (congrArg (Value.int .i64) hn3687.symm)) ?_)
        refine RA_nil ?_
        exact at_normal ⟨k3013, Nat.lt_succ_self _, _, _, A3684, c3685, H, St.mk1 (aeq rfl (aeq rfl (aeq rfl (aeq rfl (aeq rfl aeq0))))) (Gh.sel [0, 1, 2, 3, 4] rfl rfl)⟩
      replace H := g_iff h3677 H
      refine SA_condF rfl h3677 ?_
      refine SA_skip ?_
      refine inb_normal ?_
      refine at_normal ?_
      refine SA_region ?_
      refine RA_step rfl (OA_v (v := .int .i64 x13_3009) rfl (V_move rfl) ?_)
      refine RA_step rfl (OA_v (v := .int .i64 (IntKind.i64.wrap (x13_3009 + 1))) rfl (V_add rfl rfl) ?_)
      obtain ⟨n3688, hn3688, H⟩ := g_lt H
      refine RA_step rfl (OA_v (v := .int .i64 n3688) rfl (V_assign (v := .int .i64 n3688) (congrArg (Value.int .i64) hn3688.symm)) ?_)
      refine RA_nil ?_
      exact at_normal ⟨k3013, Nat.lt_succ_self _, _, _, A3010, c3011, H, St.mk1 (aeq rfl (aeq rfl (aeq rfl (aeq rfl (aeq rfl aeq0))))) (Gh.sel [0, 1, 2, 3, 5] rfl rfl)⟩
    replace H := g_iff h3015 H
    refine SA_condF rfl h3015 ?_
    refine SA_exit ?_
    refine thn_exit ?_
    refine thn_exit ?_
    refine inb_hit ?_
    have hr_ := Option.some.inj H
    subst hr_
    exact at_normal ⟨A3010, c3011, St.mk1 (aeq rfl (aeq rfl (aeq rfl (aeq rfl aeq0)))) (Gh.sel [4, 0, 1, 2, 3] rfl rfl)⟩
  rintro e ds As ⟨A3007, c3008, hst3689⟩
  clear H
  have H := Bt3006
  clear Bt3006
  refine at_normal ?_
  refine SA.of_St hst3689 fun junk => ?_
  refine SA_seq ?_
  refine SA_region ?_
  refine RA_step rfl (OA_v (v := .pointer (some ⟨b0_, 0, none⟩)) rfl (V_move rfl) ?_)
  refine RA_step rfl (OA_v (v := .slice A3007 t3006.length c3008) rfl (V_move rfl) ?_)
  refine RA_step rfl (OA_v (v := .pointer (some ⟨b0_, 0, none⟩)) rfl (V_nilCheck rfl) ?_)
  refine RA_step rfl (OA_v (v := .pointer (some ⟨b0_, 0, none⟩)) rfl (V_fieldAddrN (B := ⟨b0_, 0, none⟩) (m := 0) (o := 0) Try.underlying121 rfl nz47 rfl rfl) ?_)
  refine RA_step rfl (OA_st (b := b0_) (m := 0) (k := 1) (vs := [.slice A3007 t3006.length c3008]) (cs' := [.slice A3007 t3006.length c3008]) rfl rfl rfl rfl rfl rfl sz47 rfl rfl ?_)
  refine RA_nil ?_
  refine at_normal ?_
  refine SA_seq ?_
  refine SA.fact (cap_of (k := 0) rfl) fun hc3690 => ?_
  refine SA_region ?_
  refine RA_step rfl (OA_v (v := .pointer (some ⟨b0_, 0, none⟩)) rfl (V_move rfl) ?_)
  refine RA_step rfl (OA_v (v := .pointer (some ((⟨b4, 0, none⟩ : Addr).add 3))) rfl (V_fieldAddrN (B := ⟨b4, 0, none⟩) (m := 0) (o := 3) Try.underlying54 rfl nz44 rfl rfl) ?_)
  refine RA_step rfl (OA_r rfl (VR_load_blk (b := b4) (m := 3) (k := 3) Try.underlying44 rfl rfl rfl rfl) ?_)
  obtain ⟨r3691, C3695, H⟩ := g_bind H
  refine RA_step rfl (OA_callA [1, 0] [2, 3, 4] rfl (X_fn (vs := [.pointer (some ⟨b0_, 0, none⟩), .int .u64 a1.f3]) Try.func98 nm98 rfl rfl) rfl (F98b0.ok (b0_ := b0_) (A0_0 := A3007) (c0_0 := c3008) (p0 := (S121.mk t3006)) (a1 := a1.f3) C3695) rfl ?_)
  rintro _ _ ⟨A3692, c3693, rfl, rfl⟩
  refine RA_nil ?_
  refine at_normal ?_
  refine SA_seq ?_
  refine SA_region ?_
  refine RA_step rfl (OA_v (v := .bool (decide ((t2314.length : Int) = (p0.f0.length : Int)))) rfl (V_move rfl) ?_)
  refine RA_step rfl (OA_v (v := .bool (decide ((t2314.length : Int) = (p0.f0.length : Int)))) rfl (V_assign rfl) ?_)
  refine RA_step rfl (OA_v (v := .int .i64 0) rfl (V_assign rfl) ?_)
  refine RA_nil ?_
  refine at_normal ?_
  refine SA_ret ?_
  have hr_ := Option.some.inj H
  subst hr_
  exact BQ_R2 [Blk b0_ 121 [.slice A3692 r3691.f0.length c3693], Buf k63 63 A3692 c3693 r3691.f0] rfl rfl rfl (Gh.sel [0, 1] rfl rfl) ⟨A3692, c3693, rfl, rfl⟩

/-! ### function 92: (*wayfarer/ssp.Receiver[wayfarer/wayfarerlaw23.text]).there -/
def F92.f (p0 : S162) : Option (Bool) := some (decide ((p0.f0.length : Int) > 0))
set_option maxHeartbeats 2000000 in
set_option maxRecDepth 100000 in
theorem F92.ok {p0 : S162} {b0_ : Nat} {A0_0 : Option Addr} {c0_0 : Nat} {r : Bool} (H : F92.f p0 = some r) : SCA Try.prog 92 #[.pointer (some ⟨b0_, 0, none⟩)] [Blk b0_ 162 [.slice A0_0 p0.f0.length c0_0], Ro k128 A0_0 c0_0 p0.f0] (fun v B => v = .bool r ∧ B = [Blk b0_ 162 [.slice A0_0 p0.f0.length c0_0]]) := by
  refine SCA_of_body Try.func92 rfl rfl ?_
  unfold F92.f at H
  refine SA_seq ?_
  refine SA_region ?_
  refine RA_step rfl (OA_v (v := .bool false) rfl (V_assign rfl) ?_)
  refine RA_nil ?_
  refine at_normal ?_
  refine SA_seq ?_
  refine SA_region ?_
  refine RA_step rfl (OA_v (v := .pointer (some ⟨b0_, 0, none⟩)) rfl (V_move rfl) ?_)
  refine RA_step rfl (OA_v (v := .bool true) rfl (V_neqPN Try.underlying106 rfl rfl) ?_)
  refine RA_step rfl (OA_v (v := .bool true) rfl (V_move rfl) ?_)
  refine RA_yesB rfl rfl rfl rfl (rfl) (OA_v (v := .pointer (some ⟨b0_, 0, none⟩)) rfl (V_move rfl) ?_)
  refine RA_yesB rfl rfl rfl rfl (rfl) (OA_v (v := .pointer (some ⟨b0_, 0, none⟩)) rfl (V_nilCheck rfl) ?_)
  refine RA_yesB rfl rfl rfl rfl (rfl) (OA_v (v := .pointer (some ⟨b0_, 0, none⟩)) rfl (V_fieldAddrN (B := ⟨b0_, 0, none⟩) (m := 0) (o := 0) Try.underlying162 rfl nz129 rfl rfl) ?_)
  refine RA_yesB rfl rfl rfl rfl (rfl) (OA_r rfl (VR_load_blk (b := b0_) (m := 0) (k := 0) Try.underlying129 rfl rfl rfl rfl) ?_)
  refine RA_yesB rfl rfl rfl rfl (rfl) (OA_v (v := .int .i64 (p0.f0.length : Int)) rfl (V_len Try.underlying129 rfl) ?_)
  refine RA_yesB rfl rfl rfl rfl (rfl) (OA_v (v := .bool (decide ((p0.f0.length : Int) > 0))) rfl (V_gtr rfl rfl) ?_)
  refine RA_step rfl (OA_v rfl (V_pickT rfl (rfl) rfl) ?_)
  refine RA_step rfl (OA_v (v := .bool (decide ((p0.f0.length : Int) > 0))) rfl (V_assign rfl) ?_)
  refine RA_nil ?_
  refine at_normal ?_
  refine SA_ret ?_
  have hr_ := Option.some.inj H
  subst hr_
  exact BQ_R1 [Blk b0_ 162 [.slice A0_0 p0.f0.length c0_0]] rfl rfl (Gh.sel [0] rfl rfl) ⟨rfl, rfl⟩

/-! ### function 53: (*wayfarer/ssp.Receiver[wayfarer/wayfarerlaw23.text]).Latest -/
def F53.f (p0 : S162) : Option (Int × S41) := (F92.f p0).bind (fun r5 => if (!r5) = true then (some ((0, (S41.mk ByteArray.empty)))) else (if 0 ≤ (IntKind.i64.wrap ((p0.f0.length : Int) - 1)) ∧ (IntKind.i64.wrap ((p0.f0.length : Int) - 1)) < (p0.f0.length : Int) then ((F143.f ((rd p0.f0 (IntKind.i64.wrap ((p0.f0.length : Int) - 1))).f1)).bind (fun r1329 => lt ((rd p0.f0 (IntKind.i64.wrap ((p0.f0.length : Int) - 1))).f0) fun n1389 => some ((n1389, r1329)))) else none))
set_option maxHeartbeats 2000000 in
set_option maxRecDepth 100000 in
theorem F53.ok {p0 : S162} {b0_ : Nat} {A0_0 : Option Addr} {c0_0 : Nat} {r : Int × S41} (H : F53.f p0 = some r) : SCA Try.prog 53 #[.pointer (some ⟨b0_, 0, none⟩)] [Blk b0_ 162 [.slice A0_0 p0.f0.length c0_0], Ro k128 A0_0 c0_0 p0.f0] (fun v B => v = .tuple #[.int .u64 r.1, .agg #[.string r.2.f0]] ∧ B = [Blk b0_ 162 [.slice A0_0 p0.f0.length c0_0]]) := by
  refine SCA_of_body Try.func53 rfl rfl ?_
  unfold F53.f at H
  refine SA_seq ?_
  refine SA_region ?_
  refine RA_step rfl (OA_v (v := .int .u64 0) rfl (V_assign rfl) ?_)
  refine RA_step rfl (OA_alloc rfl zero41 fun b3 => ?_)
  refine RA_nil ?_
  refine at_normal ?_
  refine SA_seq ?_
  refine SA_seq ?_
  refine SA_region ?_
  refine RA_step rfl (OA_v (v := .pointer (some ⟨b0_, 0, none⟩)) rfl (V_move rfl) ?_)
  obtain ⟨r5, C1510, H⟩ := g_bind H
  refine RA_step rfl (OA_callA [0, 1] [1, 2] rfl (X_fn (vs := [.pointer (some ⟨b0_, 0, none⟩)]) Try.func92 nm92 rfl rfl) rfl (F92.ok (b0_ := b0_) (A0_0 := A0_0) (c0_0 := c0_0) (p0 := p0) C1510) rfl ?_)
  rintro _ _ ⟨rfl, rfl⟩
  refine RA_step rfl (OA_v (v := .bool (!r5)) rfl (V_not rfl) ?_)
  refine RA_nil ?_
  refine at_normal ?_
  by_cases h6 : (!r5) = true
  · replace H := g_ift h6 H
    refine SA_condTb rfl h6 ?_
    refine SA_seq ?_
    refine SA_drawHq [0, 1] #[[], [], [0, 1]] [1, 2] [0, 1] mixed rfl rfl rfl (PanOk.thn (PanOk.thn PanOk.body)) fun I0 hS h0 hh0 w0 sH dd pk => ?_
    refine DH_take 0 (by kernel_rfl) rfl rfl (.no rfl) pk sH rfl (VR_loadA_blk (b := b3) (m := 0) (k := 1) (vs := [.string ByteArray.empty]) Try.underlying41 rfl sz41 rfl rfl rfl) ?_
    refine DH_take (v := .int .u64 0) 1 (by kernel_rfl) rfl rfl (.no rfl) pk sH rfl (VR.ofV (V_assign rfl)) ?_
    refine DH_open dd sH ?_
    refine DN_one 2 (by kernel_rfl) rfl rfl (.no rfl) (OA_st (b := b3) (m := 0) (k := 1) (vs := [.string ByteArray.empty]) (cs' := [.string ByteArray.empty]) rfl rfl rfl rfl rfl rfl sz41 rfl rfl ?_)
    refine DN_done (by kernel_rfl) ?_
    refine at_normal ?_
    refine SA_ret ?_
    refine thn_ret ?_
    have hr_ := Option.some.inj H
    subst hr_
    exact BQ_RL (rs := [.tmp 2, .cell 3 41]) (vs := [.int .u64 0, .agg #[.string ByteArray.empty]]) [Blk b0_ 162 [.slice A0_0 p0.f0.length c0_0]] rfl ⟨RV.tmp rfl, RV.cell (k := 1) rfl rfl Try.underlying41 rfl sz41, trivial⟩ rfl (Gh.sel [2] rfl rfl) ⟨rfl, rfl⟩
  replace H := g_iff h6 H
  refine SA_condFb rfl h6 ?_
  refine SA_skip ?_
  refine at_normal ?_
  refine SA_seq ?_
  refine SA_drawHq [0, 1, 2, 3, 4, 5, 6, 7, 8, 9, 10, 11] (List.toArray ([] :: [0] :: [0, 1] :: [0, 1, 2] :: [] :: [4] :: [4, 5] :: [4, 5, 6] :: [4, 5, 6, 7] :: [4, 5, 6, 7, 8] :: [0, 1, 2, 3, 4, 5, 6, 7, 8, 9] :: [0, 1, 2, 3, 4, 5, 6, 7, 8, 9, 10] :: [] :: [0, 1, 2, 3, 4, 5, 6, 7, 8, 9, 10, 11] :: [])) [0, 1] [1, 2] mixed rfl rfl rfl (PanOk.thn PanOk.body) fun I0 hS h0 hh0 w0 sH dd pk => ?_
  refine DH_take (v := .pointer (some ⟨b0_, 0, none⟩)) 0 (by kernel_rfl) rfl rfl (.no rfl) pk sH rfl (VR.ofV (V_move rfl)) ?_
  refine DH_take (v := .pointer (some ⟨b0_, 0, none⟩)) 1 (by kernel_rfl) rfl rfl (.no rfl) pk sH rfl (VR.ofV (V_nilCheck rfl)) ?_
  refine DH_take (v := .pointer (some ⟨b0_, 0, none⟩)) 2 (by kernel_rfl) rfl rfl (.no rfl) pk sH rfl (VR.ofV (V_fieldAddrN (B := ⟨b0_, 0, none⟩) (m := 0) (o := 0) Try.underlying162 rfl nz129 rfl rfl)) ?_
  refine DH_take 3 (by kernel_rfl) rfl rfl (.no rfl) pk sH rfl (VR_load_blk (b := b0_) (m := 0) (k := 0) Try.underlying129 rfl rfl rfl rfl) ?_
  refine DH_take (v := .pointer (some ⟨b0_, 0, none⟩)) 4 (by kernel_rfl) rfl rfl (.no rfl) pk sH rfl (VR.ofV (V_move rfl)) ?_
  refine DH_take (v := .pointer (some ⟨b0_, 0, none⟩)) 5 (by kernel_rfl) rfl rfl (.no rfl) pk sH rfl (VR.ofV (V_nilCheck rfl)) ?_
  refine DH_take (v := .pointer (some ⟨b0_, 0, none⟩)) 6 (by kernel_rfl) rfl rfl (.no rfl) pk sH rfl (VR.ofV (V_fieldAddrN (B := ⟨b0_, 0, none⟩) (m := 0) (o := 0) Try.underlying162 rfl nz129 rfl rfl)) ?_
  refine DH_take 7 (by kernel_rfl) rfl rfl (.no rfl) pk sH rfl (VR_load_blk (b := b0_) (m := 0) (k := 0) Try.underlying129 rfl rfl rfl rfl) ?_
  refine DH_take (v := .int .i64 (p0.f0.length : Int)) 8 (by kernel_rfl) rfl rfl (.no rfl) pk sH rfl (VR.ofV (V_len Try.underlying129 rfl)) ?_
  refine DH_take (v := .int .i64 (IntKind.i64.wrap ((p0.f0.length : Int) - 1))) 9 (by kernel_rfl) rfl rfl (.no rfl) pk sH rfl (VR.ofV (V_sub rfl rfl)) ?_
  obtain ⟨⟨g788, g789⟩, H⟩ := g_pos H
  refine DH_take 10 (by kernel_rfl) rfl rfl (.no rfl) pk sH rfl (VR_index (i := IntKind.i64.wrap ((p0.f0.length : Int) - 1)) Try.underlying129 sz128 rfl rfl (Src.ro (k := 1) rfl) g788 g789) ?_
  refine DH_take 11 (by kernel_rfl) rfl rfl (.no rfl) pk sH rfl (VR_loadA_el (enc := enc128) (i := IntKind.i64.wrap ((p0.f0.length : Int) - 1)) (j := (IntKind.i64.wrap ((p0.f0.length : Int) - 1)).toNat * 3) (m := 0) (sz := 3) (vs := [.int .u64 ((rd p0.f0 (IntKind.i64.wrap ((p0.f0.length : Int) - 1))).f0), .string (((rd p0.f0 (IntKind.i64.wrap ((p0.f0.length : Int) - 1))).f1).f0), .int .u64 ((rd p0.f0 (IntKind.i64.wrap ((p0.f0.length : Int) - 1))).f2)]) Try.underlying128 rfl sz128 rfl rfl rfl (Src.ro (k := 1) rfl) g788 g789 (fun _ _ h => h) rfl) ?_
  refine DH_one 12 dd (by kernel_rfl) rfl (.no rfl) (OA_alloc rfl zero128 fun b908 => ?_)
  refine DH_one 13 dd (by kernel_rfl) rfl (.no rfl) (OA_st (b := b908) (m := 0) (k := 2) (vs := [.int .u64 ((rd p0.f0 (IntKind.i64.wrap ((p0.f0.length : Int) - 1))).f0), .string (((rd p0.f0 (IntKind.i64.wrap ((p0.f0.length : Int) - 1))).f1).f0), .int .u64 ((rd p0.f0 (IntKind.i64.wrap ((p0.f0.length : Int) - 1))).f2)]) (cs' := [.int .u64 ((rd p0.f0 (IntKind.i64.wrap ((p0.f0.length : Int) - 1))).f0), .string (((rd p0.f0 (IntKind.i64.wrap ((p0.f0.length : Int) - 1))).f1).f0), .int .u64 ((rd p0.f0 (IntKind.i64.wrap ((p0.f0.length : Int) - 1))).f2)]) rfl rfl rfl rfl rfl rfl sz128 rfl rfl ?_)
  refine DH_open dd sH ?_
  refine DN_done (by kernel_rfl) ?_
  refine at_normal ?_
  refine SA_seq ?_
  refine SA_drawHq [0, 1, 2, 3, 4, 6] #[[], [0], [], [2], [2, 3], [2, 3, 4], [0, 1, 2, 3, 4], [0, 1, 2, 3, 4, 6]] [1, 1, 4] [0, 1, 1, 3] mixed rfl rfl rfl (PanOk.thn PanOk.body) fun I0 hS h0 hh0 w0 sH dd pk => ?_
  refine DH_take (v := .pointer (some ⟨b908, 0, none⟩)) 0 (by kernel_rfl) rfl rfl (.no rfl) pk sH rfl (VR.ofV (V_fieldAddrN (B := ⟨b908, 0, none⟩) (m := 0) (o := 0) Try.underlying128 rfl nz44 rfl rfl)) ?_
  refine DH_take 1 (by kernel_rfl) rfl rfl (.no rfl) pk sH rfl (VR_load_blk (b := b908) (m := 0) (k := 2) Try.underlying44 rfl rfl rfl rfl) ?_
  refine DH_take (v := .pointer (some ((⟨b908, 0, none⟩ : Addr).add 1))) 2 (by kernel_rfl) rfl rfl (.no rfl) pk sH rfl (VR.ofV (V_fieldAddrN (B := ⟨b908, 0, none⟩) (m := 0) (o := 1) Try.underlying128 rfl nz41 rfl rfl)) ?_
  refine DH_take 3 (by kernel_rfl) rfl rfl (.no rfl) pk sH rfl (VR_loadA_blk (b := b908) (m := 1) (k := 2) (vs := [.string (((rd p0.f0 (IntKind.i64.wrap ((p0.f0.length : Int) - 1))).f1).f0)]) Try.underlying41 rfl sz41 rfl rfl rfl) ?_
  refine DH_take (v := .iface 41 (.agg #[.string (((rd p0.f0 (IntKind.i64.wrap ((p0.f0.length : Int) - 1))).f1).f0)])) 4 (by kernel_rfl) rfl rfl (.no rfl) pk sH rfl (VR.ofV (V_iface con41 rfl)) ?_
  obtain ⟨r1329, C1330, H⟩ := g_bind H
  refine DH_one 5 dd (by kernel_rfl) rfl (.no rfl) (OA_callA [] [0, 1, 2, 3] rfl (X_inv (vs := []) rfl met41_143 Try.func143 nm143 rfl rfl) rfl (F143.ok (a0 := ((rd p0.f0 (IntKind.i64.wrap ((p0.f0.length : Int) - 1))).f1)) C1330) rfl ?_)
  rintro _ _ ⟨rfl, rfl⟩
  obtain ⟨n1389, hn1389, H⟩ := g_lt H
  refine DH_take (v := .int .u64 n1389) 6 (by kernel_rfl) rfl rfl (.no rfl) pk sH rfl (VR.ofV (V_assign (v := .int .u64 n1389) (congrArg (Value.int .u64) hn1389.symm))) ?_
  refine DH_one 7 dd (by kernel_rfl) rfl (.no rfl) (OA_st (b := b3) (m := 0) (k := 3) (vs := [.string r1329.f0]) (cs' := [.string r1329.f0]) rfl rfl rfl rfl rfl rfl sz41 rfl rfl ?_)
  refine DH_open dd sH ?_
  refine DN_done (by kernel_rfl) ?_
  refine at_normal ?_
  refine SA_ret ?_
  have hr_ := Option.some.inj H
  subst hr_
  exact BQ_RL (rs := [.tmp 2, .cell 3 41]) (vs := [.int .u64 n1389, .agg #[.string r1329.f0]]) [Blk b0_ 162 [.slice A0_0 p0.f0.length c0_0]] rfl ⟨RV.tmp rfl, RV.cell (k := 6) rfl rfl Try.underlying41 rfl sz41, trivial⟩ rfl (Gh.sel [3] rfl rfl) ⟨rfl, rfl⟩

/-! ### function 56: (*wayfarer/ssp.Receiver[wayfarer/wayfarerlaw23.text]).Holds -/
def F56.l0 (p0 : S162) : Nat → (List Int) → Int → Option ((List Int))
  | 0, _, _ => none
  | k + 1, x3_14, x20_14 => if x20_14 < (p0.f0.length : Int) then (if 0 ≤ x20_14 ∧ x20_14 < (p0.f0.length : Int) then (if 0 ≤ x20_14 ∧ x20_14 < (x3_14.length : Int) then (lt (x3_14.set x20_14.toNat ((rd p0.f0 x20_14).f0)) fun n27 => (F56.l0 p0 k n27 (IntKind.i64.wrap (x20_14 + 1)))) else none) else none) else (some x3_14)
def F56.f (k : Nat) (p0 : S162) : Option ((List Int)) := (F92.f p0).bind (fun r3 => if (!r3) = true then (some (([] : (List Int)))) else (if 0 ≤ (p0.f0.length : Int) ∧ (p0.f0.length : Int) ≤ 17592186044416 then lt (List.replicate (p0.f0.length : Int).toNat 0) fun n10 => ((F56.l0 p0 k n10 0 : Option ((List Int))).bind (fun t11 => some (t11))) else none))
set_option maxHeartbeats 2000000 in
set_option maxRecDepth 100000 in
theorem F56.ok {k : Nat} {p0 : S162} {b0_ : Nat} {A0_0 : Option Addr} {c0_0 : Nat} {r : (List Int)} (H : F56.f k p0 = some r) : SCA Try.prog 56 #[.pointer (some ⟨b0_, 0, none⟩)] [Blk b0_ 162 [.slice A0_0 p0.f0.length c0_0], Ro k128 A0_0 c0_0 p0.f0] (fun v B => ∃ (A0_0_ : Option Addr) (c0_0_ : Nat), v = .slice A0_0_ r.length c0_0_ ∧ B = [Buf (Kd.int .u64) 44 A0_0_ c0_0_ r, Blk b0_ 162 [.slice A0_0 p0.f0.length c0_0]]) := by
  refine SCA_of_body Try.func56 rfl rfl ?_
  unfold F56.f at H
  refine SA_seq ?_
  refine SA_region ?_
  refine RA_step rfl (OA_v (v := .slice none 0 0) rfl (V_assign rfl) ?_)
  refine RA_nil ?_
  refine at_normal ?_
  refine SA_seq ?_
  refine SA_seq ?_
  refine SA_region ?_
  refine RA_step rfl (OA_v (v := .pointer (some ⟨b0_, 0, none⟩)) rfl (V_move rfl) ?_)
  obtain ⟨r3, C29, H⟩ := g_bind H
  refine RA_step rfl (OA_callA [0, 1] [1] rfl (X_fn (vs := [.pointer (some ⟨b0_, 0, none⟩)]) Try.func92 nm92 rfl rfl) rfl (F92.ok (b0_ := b0_) (A0_0 := A0_0) (c0_0 := c0_0) (p0 := p0) C29) rfl ?_)
  rintro _ _ ⟨rfl, rfl⟩
  refine RA_step rfl (OA_v (v := .bool (!r3)) rfl (V_not rfl) ?_)
  refine RA_nil ?_
  refine at_normal ?_
  by_cases h4 : (!r3) = true
  · replace H := g_ift h4 H
    refine SA_condTb rfl h4 ?_
    refine SA_seq ?_
    refine SA_region ?_
    refine RA_step rfl (OA_v (v := .slice none 0 0) rfl (V_assign rfl) ?_)
    refine RA_nil ?_
    refine at_normal ?_
    refine SA_ret ?_
    refine thn_ret ?_
    have hr_ := Option.some.inj H
    subst hr_
    exact BQ_R1 [Buf (Kd.int .u64) 44 none 0 ([] : (List Int)), Blk b0_ 162 [.slice A0_0 p0.f0.length c0_0]] rfl rfl ((Gh.nilBuf (Kd.int .u64) 44).trans (Gh.sel [2, 0] rfl rfl)) ⟨none, 0, rfl, rfl⟩
  replace H := g_iff h4 H
  refine SA_condFb rfl h4 ?_
  refine SA_skip ?_
  refine at_normal ?_
  refine SA_seq ?_
  refine SA_region ?_
  refine RA_step rfl (OA_v (v := .pointer (some ⟨b0_, 0, none⟩)) rfl (V_move rfl) ?_)
  refine RA_step rfl (OA_v (v := .pointer (some ⟨b0_, 0, none⟩)) rfl (V_nilCheck rfl) ?_)
  refine RA_step rfl (OA_v (v := .pointer (some ⟨b0_, 0, none⟩)) rfl (V_fieldAddrN (B := ⟨b0_, 0, none⟩) (m := 0) (o := 0) Try.underlying162 rfl nz129 rfl rfl) ?_)
  refine RA_step rfl (OA_r rfl (VR_load_blk (b := b0_) (m := 0) (k := 0) Try.underlying129 rfl rfl rfl rfl) ?_)
  refine RA_step rfl (OA_v (v := .int .i64 (p0.f0.length : Int)) rfl (V_len Try.underlying129 rfl) ?_)
  obtain ⟨⟨g8, g9⟩, H⟩ := g_pos H
  obtain ⟨n10, hn10, H⟩ := g_lt H
  refine RA_step rfl (OA_mk (kd := (Kd.int .u64)) (sz := 1) (l := (p0.f0.length : Int)) 0 n10 hn10 rfl Try.underlying118 inf44 rfl rfl g8 (by omega) (by omega) rfl rfl (fun _ => rfl) fun b6 => ?_)
  refine RA_step rfl (OA_v (v := .slice (some ⟨b6, 0, none⟩) n10.length ((p0.f0.length : Int).toNat)) rfl (V_assign rfl) ?_)
  refine RA_nil ?_
  refine at_normal ?_
  refine SA_seq ?_
  refine SA_seq ?_
  refine SA_region ?_
  refine RA_step rfl (OA_v (v := .pointer (some ⟨b0_, 0, none⟩)) rfl (V_move rfl) ?_)
  refine RA_step rfl (OA_v (v := .pointer (some ⟨b0_, 0, none⟩)) rfl (V_nilCheck rfl) ?_)
  refine RA_step rfl (OA_v (v := .pointer (some ⟨b0_, 0, none⟩)) rfl (V_fieldAddrN (B := ⟨b0_, 0, none⟩) (m := 0) (o := 0) Try.underlying162 rfl nz129 rfl rfl) ?_)
  refine RA_step rfl (OA_r rfl (VR_load_blk (b := b0_) (m := 0) (k := 0) Try.underlying129 rfl rfl rfl rfl) ?_)
  refine RA_step rfl (OA_v (v := .int .i64 (p0.f0.length : Int)) rfl (V_len Try.underlying129 rfl) ?_)
  refine RA_step rfl (OA_v (v := .int .i64 0) rfl (V_move rfl) ?_)
  refine RA_nil ?_
  refine at_normal ?_
  obtain ⟨t11, H, Bt11⟩ := g_bind H
  refine SA_mid (fun e ds As => ∃ (A12 : Option Addr) (c13 : Nat), St [(3, .slice A12 t11.length c13)] [Buf (Kd.int .u64) 44 A12 c13 t11, Blk b0_ 162 [.slice A0_0 p0.f0.length c0_0], Ro k128 A0_0 c0_0 p0.f0] e ds As) ?_ ?_
  · refine SA_block ?_
    refine SA_loop (fun k_ e ds As => ∃ (x3_14 : (List Int)) (x20_14 : Int), ∃ (A15 : Option Addr) (c16 : Nat), F56.l0 p0 k_ x3_14 x20_14 = some t11 ∧ St [(3, .slice A15 x3_14.length c16), (18, .slice A0_0 p0.f0.length c0_0), (19, .int .i64 (p0.f0.length : Int)), (20, .int .i64 x20_14)] [Blk b0_ 162 [.slice A0_0 p0.f0.length c0_0], Ro k128 A0_0 c0_0 p0.f0, Buf (Kd.int .u64) 44 A15 c16 x3_14] e ds As) (k := k) ⟨_, _, some ⟨b6, 0, none⟩, (p0.f0.length : Int).toNat, H, St.mk1 (aeq rfl (aeq rfl (aeq rfl (aeq rfl aeq0)))) (Gh.sel [0, 1, 2] rfl rfl)⟩ ?_
    clear H
    rintro k18 e ds As ⟨x3_14, x20_14, A15, c16, H, hst19⟩
    obtain _ | k18 := k18
    · cases H
    rw [F56.l0] at H
    refine SA.of_St hst19 fun junk => ?_
    refine SA_seq ?_
    refine SA_region ?_
    refine RA_step rfl (OA_v (v := .bool (decide (x20_14 < (p0.f0.length : Int)))) rfl (V_lss rfl rfl) ?_)
    refine RA_nil ?_
    refine at_normal ?_
    refine SA_seq ?_
    by_cases h20 : x20_14 < (p0.f0.length : Int)
    · replace H := g_ift h20 H
      refine SA_condT rfl h20 ?_
      refine SA_skip ?_
      refine at_normal ?_
      refine SA_seq ?_
      refine SA_block ?_
      refine SA_seq ?_
      refine SA_region ?_
      refine RA_step rfl (OA_v (v := .int .i64 x20_14) rfl (V_move rfl) ?_)
      obtain ⟨⟨g21, g22⟩, H⟩ := g_pos H
      refine RA_step rfl (OA_r rfl (VR_index (i := x20_14) Try.underlying129 sz128 rfl rfl (Src.ro (k := 1) rfl) g21 g22) ?_)
      refine RA_step rfl (OA_r rfl (VR_loadA_el (enc := enc128) (i := x20_14) (j := x20_14.toNat * 3) (m := 0) (sz := 3) (vs := [.int .u64 ((rd p0.f0 x20_14).f0), .string (((rd p0.f0 x20_14).f1).f0), .int .u64 ((rd p0.f0 x20_14).f2)]) Try.underlying128 rfl sz128 rfl rfl rfl (Src.ro (k := 1) rfl) g21 g22 (fun _ _ h => h) rfl) ?_)
      refine RA_step rfl (OA_alloc rfl zero128 fun b23 => ?_)
      refine RA_step rfl (OA_v (v := .int .i64 x20_14) rfl (V_assign rfl) ?_)
      refine RA_step rfl (OA_st (b := b23) (m := 0) (k := 3) (vs := [.int .u64 ((rd p0.f0 x20_14).f0), .string (((rd p0.f0 x20_14).f1).f0), .int .u64 ((rd p0.f0 x20_14).f2)]) (cs' := [.int .u64 ((rd p0.f0 x20_14).f0), .string (((rd p0.f0 x20_14).f1).f0), .int .u64 ((rd p0.f0 x20_14).f2)]) rfl rfl rfl rfl rfl rfl sz128 rfl rfl ?_)
      refine RA_nil ?_
      refine at_normal ?_
      refine SA_region ?_
      refine RA_step rfl (OA_v (v := .slice A15 x3_14.length c16) rfl (V_move rfl) ?_)
      refine RA_step rfl (OA_v (v := .int .i64 x20_14) rfl (V_move rfl) ?_)
      refine RA_step rfl (OA_v (v := .pointer (some ⟨b23, 0, none⟩)) rfl (V_fieldAddrN (B := ⟨b23, 0, none⟩) (m := 0) (o := 0) Try.underlying128 rfl nz44 rfl rfl) ?_)
      refine RA_step rfl (OA_r rfl (VR_load_blk (b := b23) (m := 0) (k := 3) Try.underlying44 rfl rfl rfl rfl) ?_)
      obtain ⟨⟨g25, g26⟩, H⟩ := g_pos H
      refine RA_step rfl (OA_r rfl (VR_index (i := x20_14) Try.underlying118 sz44 rfl rfl (Src.buf (k := 2) rfl) g25 g26) ?_)
      obtain ⟨n27, hn27, H⟩ := g_lt H
      have hl_n27 : n27.length = x3_14.length := by rw [hn27]; exact List.length_set
      refine RA_step rfl (OA_stEl (k := 2) (i := x20_14) (j := x20_14.toNat * 1) (m := 0) (sz := 1) (xs := x3_14) (vs := [.int .u64 ((rd p0.f0 x20_14).f0)]) ((rd p0.f0 x20_14).f0) rfl rfl rfl rfl rfl rfl rfl rfl sz44 g25 g26 rfl (fun _ _ h_ => by subst h_; rfl) ?_)
      rewrite [← hn27]
      try rewrite [← hl_n27]
      refine RA_nil ?_
      refine inb_normal ?_
      refine at_normal ?_
      refine SA_region ?_
      refine RA_step rfl (OA_v (v := .int .i64 (IntKind.i64.wrap (x20_14 + 1))) rfl (V_add rfl rfl) ?_)
      refine RA_step rfl (OA_v (v := .int .i64 (IntKind.i64.wrap (x20_14 + 1))) rfl (V_move rfl) ?_)
      refine RA_nil ?_
      exact at_normal ⟨k18, Nat.lt_succ_self _, _, _, A15, c16, H, St.mk1 (aeq rfl (aeq rfl (aeq rfl (aeq rfl aeq0)))) (Gh.sel [0, 1, 2] rfl rfl)⟩
    replace H := g_iff h20 H
    refine SA_condF rfl h20 ?_
    refine SA_exit ?_
    refine thn_exit ?_
    refine thn_exit ?_
    refine inb_hit ?_
    have hr_ := Option.some.inj H
    subst hr_
    exact at_normal ⟨A15, c16, St.mk1 (aeq rfl aeq0) (Gh.sel [2, 0, 1] rfl rfl)⟩
  rintro e ds As ⟨A12, c13, hst28⟩
  clear H
  have H := Bt11
  clear Bt11
  refine at_normal ?_
  refine SA.of_St hst28 fun junk => ?_
  refine SA_seq ?_
  refine SA_region ?_
  refine RA_step rfl (OA_v (v := .slice A12 t11.length c13) rfl (V_move rfl) ?_)
  refine RA_step rfl (OA_v (v := .slice A12 t11.length c13) rfl (V_assign rfl) ?_)
  refine RA_nil ?_
  refine at_normal ?_
  refine SA_ret ?_
  have hr_ := Option.some.inj H
  subst hr_
  exact BQ_R1 [Buf (Kd.int .u64) 44 A12 c13 t11, Blk b0_ 162 [.slice A0_0 p0.f0.length c0_0]] rfl rfl (Gh.sel [0, 1] rfl rfl) ⟨A12, c13, rfl, rfl⟩

/-! ### function 99: slices.IndexFunc[[]wayfarer/ssp.sent[wayfarer/wayfarerlaw23.text],wayfarer/ssp.sent[wayfarer/wayfarerlaw23.text]] -/
def F99.l0 (l0 : (List S128)) (g1 : S128 → Option (Bool)) : Nat → Int → Option (Out (Int) (Unit))
  | 0, _ => none
  | k + 1, x8_4 => if x8_4 < (l0.length : Int) then (if 0 ≤ x8_4 ∧ x8_4 < (l0.length : Int) then ((g1 (rd l0 x8_4)).bind (fun r10 => if r10 = true then (some (Out.ret (x8_4))) else (F99.l0 l0 g1 k (IntKind.i64.wrap (x8_4 + 1))))) else none) else (some (Out.go ()))
def F99.f (k : Nat) (l0 : (List S128)) (g1 : S128 → Option (Bool)) : Option (Int) := (F99.l0 l0 g1 k 0 : Option (Out (Int) (Unit))).bind (fun t3 => Out.el t3 (fun r_ => some r_) (fun s4 => some ((-1))))
set_option maxHeartbeats 2000000 in
set_option maxRecDepth 100000 in
theorem F99.ok {k : Nat} {l0 : (List S128)} {g1 : S128 → Option (Bool)} {A0 : Option Addr} {c0 : Nat} {fv1 : Value} {Fr1 : Asrt} (hg1 : ∀ {x0_ : S128} {r_ : Bool}, g1 x0_ = some r_ → FC Try.prog fv1 [.agg #[.int .u64 x0_.f0, .string x0_.f1.f0, .int .u64 x0_.f2]] [Fr1] (fun v B => ∃ B0, (v = .bool r_ ∧ B0 = []) ∧ B = B0 ++ [Fr1])) {r : Int} (H : F99.f k l0 g1 = some r) : SCA Try.prog 99 #[.slice A0 l0.length c0, fv1] [Ro k128 A0 c0 l0, Fr1] (fun v B => v = .int .i64 r ∧ B = [Fr1]) := by
  refine SCA_of_body Try.func99 rfl rfl ?_
  unfold F99.f at H
  refine SA_seq ?_
  refine SA_region ?_
  refine RA_step rfl (OA_v (v := .int .i64 0) rfl (V_assign rfl) ?_)
  refine RA_nil ?_
  refine at_normal ?_
  refine SA_seq ?_
  refine SA_seq ?_
  refine SA_region ?_
  refine RA_step rfl (OA_v (v := .slice A0 l0.length c0) rfl (V_move rfl) ?_)
  refine RA_step rfl (OA_v (v := .int .i64 (l0.length : Int)) rfl (V_len Try.underlying129 rfl) ?_)
  refine RA_step rfl (OA_v (v := .int .i64 0) rfl (V_move rfl) ?_)
  refine RA_nil ?_
  refine at_normal ?_
  obtain ⟨t3, H, Bt3⟩ := g_bind H
  refine SA_mid (fun e ds As => ∃ (s4 : Unit), t3 = Out.go s4 ∧ St [] [Fr1] e ds As) ?_ ?_
  · refine SA_block ?_
    refine SA_loop (fun k_ e ds As => ∃ (x8_4 : Int), F99.l0 l0 g1 k_ x8_4 = some t3 ∧ St [(0, .slice A0 l0.length c0), (1, fv1), (7, .int .i64 (l0.length : Int)), (8, .int .i64 x8_4)] [Fr1, Ro k128 A0 c0 l0] e ds As) (k := k) ⟨_, H, St.mk1 (aeq rfl (aeq rfl (aeq rfl (aeq rfl aeq0)))) (Gh.sel [1, 0] rfl rfl)⟩ ?_
    clear H
    rintro k5 e ds As ⟨x8_4, H, hst6⟩
    obtain _ | k5 := k5
    · cases H
    rw [F99.l0] at H
    refine SA.of_St hst6 fun junk => ?_
    refine SA_seq ?_
    refine SA_region ?_
    refine RA_step rfl (OA_v (v := .bool (decide (x8_4 < (l0.length : Int)))) rfl (V_lss rfl rfl) ?_)
    refine RA_nil ?_
    refine at_normal ?_
    refine SA_seq ?_
    by_cases h7 : x8_4 < (l0.length : Int)
    · replace H := g_ift h7 H
      refine SA_condT rfl h7 ?_
      refine SA_skip ?_
      refine at_normal ?_
      refine SA_seq ?_
      refine SA_block ?_
      refine SA_seq ?_
      refine SA_region ?_
      refine RA_step rfl (OA_v (v := .int .i64 x8_4) rfl (V_move rfl) ?_)
      refine RA_step rfl (OA_v (v := .int .i64 x8_4) rfl (V_assign rfl) ?_)
      refine RA_nil ?_
      refine at_normal ?_
      refine SA_seq ?_
      refine SA_region ?_
      refine RA_step rfl (OA_v (v := fv1) rfl (V_move rfl) ?_)
      refine RA_step rfl (OA_v (v := .slice A0 l0.length c0) rfl (V_move rfl) ?_)
      refine RA_step rfl (OA_v (v := .int .i64 x8_4) rfl (V_move rfl) ?_)
      obtain ⟨⟨g8, g9⟩, H⟩ := g_pos H
      refine RA_step rfl (OA_r rfl (VR_index (i := x8_4) Try.underlying129 sz128 rfl rfl (Src.ro (k := 1) rfl) g8 g9) ?_)
      refine RA_step rfl (OA_r rfl (VR_loadA_el (enc := enc128) (i := x8_4) (j := x8_4.toNat * 3) (m := 0) (sz := 3) (vs := [.int .u64 ((rd l0 x8_4).f0), .string (((rd l0 x8_4).f1).f0), .int .u64 ((rd l0 x8_4).f2)]) Try.underlying128 rfl sz128 rfl rfl rfl (Src.ro (k := 1) rfl) g8 g9 (fun _ _ h => h) rfl) ?_)
      obtain ⟨r10, C12, H⟩ := g_bind H
      refine RA_step rfl (OA_callF (vs := [.agg #[.int .u64 ((rd l0 x8_4).f0), .string (((rd l0 x8_4).f1).f0), .int .u64 ((rd l0 x8_4).f2)]]) [0] [1] rfl rfl rfl rfl (hg1 (x0_ := rd l0 x8_4) C12) rfl ?_)
      rintro _ _ ⟨_, ⟨rfl, rfl⟩, rfl⟩
      refine RA_nil ?_
      refine at_normal ?_
      by_cases h11 : r10 = true
      · replace H := g_ift h11 H
        refine SA_condTb rfl h11 ?_
        refine SA_seq ?_
        refine SA_region ?_
        refine RA_step rfl (OA_v (v := .int .i64 x8_4) rfl (V_move rfl) ?_)
        refine RA_step rfl (OA_v (v := .int .i64 x8_4) rfl (V_assign rfl) ?_)
        refine RA_nil ?_
        refine at_normal ?_
        refine SA_ret ?_
        refine inb_ret ?_
        refine thn_ret ?_
        refine thn_ret ?_
        refine inb_ret ?_
        refine thn_ret ?_
        refine thn_ret ?_
        have hr_ := Option.some.inj H
        subst hr_
        have hb_ := el_ret Bt3
        have hr_ := Option.some.inj hb_
        clear hb_
        subst hr_
        exact BQ_R1 [Fr1] rfl rfl (Gh.sel [0] rfl rfl) ⟨rfl, rfl⟩
      replace H := g_iff h11 H
      refine SA_condFb rfl h11 ?_
      refine SA_skip ?_
      refine inb_normal ?_
      refine at_normal ?_
      refine SA_region ?_
      refine RA_step rfl (OA_v (v := .int .i64 (IntKind.i64.wrap (x8_4 + 1))) rfl (V_add rfl rfl) ?_)
      refine RA_step rfl (OA_v (v := .int .i64 (IntKind.i64.wrap (x8_4 + 1))) rfl (V_move rfl) ?_)
      refine RA_nil ?_
      exact at_normal ⟨k5, Nat.lt_succ_self _, _, H, St.mk1 (aeq rfl (aeq rfl (aeq rfl (aeq rfl aeq0)))) (Gh.sel [0, 1] rfl rfl)⟩
    replace H := g_iff h7 H
    refine SA_condF rfl h7 ?_
    refine SA_exit ?_
    refine thn_exit ?_
    refine thn_exit ?_
    refine inb_hit ?_
    have hr_ := Option.some.inj H
    subst hr_
    exact at_normal ⟨(), rfl, St.mk1 aeq0 (Gh.sel [0] rfl rfl)⟩
  rintro e ds As ⟨s4, ht, hst13⟩
  clear H
  subst ht
  replace Bt3 := el_go Bt3
  have H := Bt3
  clear Bt3
  refine at_normal ?_
  refine SA.of_St hst13 fun junk => ?_
  refine SA_seq ?_
  refine SA_region ?_
  refine RA_step rfl (OA_v (v := .int .i64 (-1)) rfl (V_assign rfl) ?_)
  refine RA_nil ?_
  refine at_normal ?_
  refine SA_ret ?_
  have hr_ := Option.some.inj H
  subst hr_
  exact BQ_R1 [Fr1] rfl rfl (Gh.sel [0] rfl rfl) ⟨rfl, rfl⟩

/-! ### function 61: wayfarer/ssp.find[wayfarer/wayfarerlaw23.text] -/
def F61.f (k : Nat) (l0 : (List S128)) (a1 : Int) : Option (Int) := (F99.f k l0 (fun (x0_ : S128) => F100.f x0_ a1)).bind (fun r4 => some (r4))
set_option maxHeartbeats 2000000 in
set_option maxRecDepth 100000 in
theorem F61.ok {k : Nat} {l0 : (List S128)} {a1 : Int} {A0 : Option Addr} {c0 : Nat} {r : Int} (H : F61.f k l0 a1 = some r) : SCA Try.prog 61 #[.slice A0 l0.length c0, .int .u64 a1] [Ro k128 A0 c0 l0] (fun v B => v = .int .i64 r ∧ B = []) := by
  refine SCA_of_body Try.func61 rfl rfl ?_
  unfold F61.f at H
  refine SA_seq ?_
  refine SA_region ?_
  refine RA_step rfl (OA_box rfl rfl fun b2 => ?_)
  refine RA_step rfl (OA_v (v := .int .i64 0) rfl (V_assign rfl) ?_)
  refine RA_nil ?_
  refine at_normal ?_
  refine SA_seq ?_
  refine SA_region ?_
  refine RA_step rfl (OA_v (v := .slice A0 l0.length c0) rfl (V_move rfl) ?_)
  refine RA_step rfl (OA_v (v := .func (.func 100) #[] #[.pointer (some ⟨b2, 0, none⟩)]) rfl (V_makeFuncL (us := [.pointer (some ⟨b2, 0, none⟩)]) rfl) ?_)
  obtain ⟨r4, C5, H⟩ := g_bind H
  refine RA_step rfl (OA_callA [0, 1] [0] rfl (X_fn (vs := [.slice A0 l0.length c0, .func (.func 100) #[] #[.pointer (some ⟨b2, 0, none⟩)]]) Try.func99 nm99 rfl rfl) rfl (SCA.unpk (pre0 := [Ro k128 A0 c0 l0]) (Bs := [Blk b2 44 [.int .u64 a1]]) ((F99.ok (l0 := l0) (A0 := A0) (c0 := c0) (g1 := (fun (x0_ : S128) => F100.f x0_ a1)) (fv1 := .func (.func 100) #[] #[.pointer (some ⟨b2, 0, none⟩)]) (Fr1 := Pk [Blk b2 44 [.int .u64 a1]]) (hg1 := (fun {x0_} {r_} C_ => FC.of (pre0 := []) (Bs := [Blk b2 44 [.int .u64 a1]]) (cap := [.pointer (some ⟨b2, 0, none⟩)]) Try.func100 nm100 rfl ((F100.ok (a0 := x0_) (b1_ := b2) (p1 := a1) C_).mono (fun _ _ ⟨hv_, hB_⟩ => ⟨_, ⟨hv_, rfl⟩, hB_⟩)))) C5).mono (fun (v_ : Value) (B_ : List Asrt) ⟨hv_, hB_⟩ => (⟨[], ⟨hv_, rfl⟩, hB_⟩ : ∃ B0_ : List Asrt, (v_ = (.int .i64 r4 : Value) ∧ B0_ = []) ∧ B_ = B0_ ++ [Pk [Blk b2 44 [.int .u64 a1]]])))) rfl ?_)
  rintro _ _ ⟨_, ⟨rfl, rfl⟩, rfl⟩
  refine RA_step rfl (OA_v (v := .int .i64 r4) rfl (V_assign rfl) ?_)
  refine RA_nil ?_
  refine at_normal ?_
  refine SA_ret ?_
  have hr_ := Option.some.inj H
  subst hr_
  exact BQ_R1 [] rfl rfl (Gh.sel [] rfl rfl) ⟨rfl, rfl⟩
end Go.Proofs.Ytodkeoibebimgaa.Sq

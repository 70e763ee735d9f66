/- What functions compute, and that they do: 22n0, 23n0, 25n0, 27b0b1, 28b0, 28n0, 29, 51, 52n0, 53n0, 56n0, 60n0, 63n0, 92n0. -/
import Derived.Test.YtodkeoibebimgaaSq0
import Derived.Test.YtodkeoibebimgaaSq1
import Derived.Test.YtodkeoibebimgaaSq2
import Derived.Test.YtodkeoibebimgaaSq3
namespace Go.Proofs.Ytodkeoibebimgaa.Sq
open Go Go.RowKit Go.Proofs.Ytodkeoibebimgaa.SL
set_option linter.unusedVariables false
set_option linter.unusedSimpArgs false
attribute [local irreducible] IntKind.wrap minI maxI shrI shlI andI orI xorI andNotI cplI rd sub bytesOf strOf slA
/-! ### function 27: wayfarer/wayfarerref23.Instr -/
def F27b0b1.f (a0 : S54) (a1 : S54) : Option (Bool) := lt ((decide (a0.f0 = a1.f0)) && (decide (a0.f1 = a1.f1))) fun q9 => lt (q9 && (decide (a0.f2 = a1.f2))) fun q12 => lt (q12 && (decide (a0.f3 = a1.f3))) fun q15 => (if q15 = true then ((F16b0b1.f a0.f4 a1.f4).bind (fun r20 => some r20)) else (some false) : Option Bool).bind (fun q18 => some (q18))
set_option maxHeartbeats 2000000 in
set_option maxRecDepth 100000 in
theorem F27b0b1.ok {a0 : S54} {a1 : S54} {A0_0 : Option Addr} {c0_0 : Nat} {A1_0 : Option Addr} {c1_0 : Nat} {r : Bool} (H : F27b0b1.f a0 a1 = some r) : SCA Try.prog 27 #[.agg #[.int .u64 a0.f0, .int .u64 a0.f1, .int .u64 a0.f2, .int .u64 a0.f3, .slice A0_0 a0.f4.length c0_0], .agg #[.int .u64 a1.f0, .int .u64 a1.f1, .int .u64 a1.f2, .int .u64 a1.f3, .slice A1_0 a1.f4.length c1_0]] [Buf (Kd.int .u8) 5 A0_0 c0_0 a0.f4, Buf (Kd.int .u8) 5 A1_0 c1_0 a1.f4] (fun v B => v = .bool r ∧ B = [Buf (Kd.int .u8) 5 A0_0 c0_0 a0.f4, Buf (Kd.int .u8) 5 A1_0 c1_0 a1.f4]) := by
  refine SCA_of_body Try.func27 rfl rfl ?_
  unfold F27b0b1.f at H
  refine SA_seq ?_
  refine SA_region ?_
  refine RA_step rfl (OA_box rfl rfl fun b3 => ?_)
  refine RA_step rfl (OA_box rfl rfl fun b5 => ?_)
  refine RA_step rfl (OA_v (v := .bool false) rfl (V_assign rfl) ?_)
  refine RA_nil ?_
  refine at_normal ?_
  refine SA_seq ?_
  refine SA.fact (cap_of (k := 0) rfl) fun hc7 => ?_
  refine SA.fact (cap_of (k := 1) rfl) fun hc8 => ?_
  refine SA_region ?_
  refine RA_step rfl (OA_v (v := .pointer (some ⟨b3, 0, none⟩)) rfl (V_fieldAddrN (B := ⟨b3, 0, none⟩) (m := 0) (o := 0) Try.underlying54 rfl nz44 rfl rfl) ?_)
  refine RA_step rfl (OA_r rfl (VR_load_blk (b := b3) (m := 0) (k := 2) Try.underlying44 rfl rfl rfl rfl) ?_)
  refine RA_step rfl (OA_v (v := .pointer (some ⟨b5, 0, none⟩)) rfl (V_fieldAddrN (B := ⟨b5, 0, none⟩) (m := 0) (o := 0) Try.underlying54 rfl nz44 rfl rfl) ?_)
  refine RA_step rfl (OA_r rfl (VR_load_blk (b := b5) (m := 0) (k := 3) Try.underlying44 rfl rfl rfl rfl) ?_)
  refine RA_step rfl (OA_v (v := .bool (decide (a0.f0 = a1.f0))) rfl (V_eql rfl rfl) ?_)
  refine RA_step rfl (OA_v (v := .bool (decide (a0.f0 = a1.f0))) rfl (V_move rfl) ?_)
  obtain ⟨q9, hq9, H⟩ := g_lt H
  refine RA_cut 6 (fun e ds As => St [(2, .pointer (some ⟨b3, 0, none⟩)), (3, .pointer (some ⟨b5, 0, none⟩)), (16, .bool q9)] [Buf (Kd.int .u8) 5 A1_0 c1_0 a1.f4, Buf (Kd.int .u8) 5 A0_0 c0_0 a0.f4, Blk b3 54 [.int .u64 a0.f0, .int .u64 a0.f1, .int .u64 a0.f2, .int .u64 a0.f3, .slice A0_0 a0.f4.length c0_0], Blk b5 54 [.int .u64 a1.f0, .int .u64 a1.f1, .int .u64 a1.f2, .int .u64 a1.f3, .slice A1_0 a1.f4.length c1_0]] e ds As) ?_ ?_
  · by_cases h10 : a0.f0 = a1.f0
    · refine RA_yesB rfl rfl rfl rfl (dec_t h10) (OA_v (v := .pointer (some ((⟨b3, 0, none⟩ : Addr).add 1))) rfl (V_fieldAddrN (B := ⟨b3, 0, none⟩) (m := 0) (o := 1) Try.underlying54 rfl nz44 rfl rfl) ?_)
      refine RA_yesB rfl rfl rfl rfl (dec_t h10) (OA_r rfl (VR_load_blk (b := b3) (m := 1) (k := 2) Try.underlying44 rfl rfl rfl rfl) ?_)
      refine RA_yesB rfl rfl rfl rfl (dec_t h10) (OA_v (v := .pointer (some ((⟨b5, 0, none⟩ : Addr).add 1))) rfl (V_fieldAddrN (B := ⟨b5, 0, none⟩) (m := 0) (o := 1) Try.underlying54 rfl nz44 rfl rfl) ?_)
      refine RA_yesB rfl rfl rfl rfl (dec_t h10) (OA_r rfl (VR_load_blk (b := b5) (m := 1) (k := 3) Try.underlying44 rfl rfl rfl rfl) ?_)
      refine RA_yesB rfl rfl rfl rfl (dec_t h10) (OA_v (v := .bool (decide (a0.f1 = a1.f1))) rfl (V_eql rfl rfl) ?_)
      refine RA_step rfl (OA_v rfl (V_pickT rfl (dec_t h10) rfl) ?_)
      refine RA_nil ?_
      exact at_normal (St.mk1 (aeq rfl (aeq rfl (aeq (congrArg Value.bool (and_t hq9 (dec_t h10))) aeq0))) (Gh.sel [1, 0, 2, 3] rfl rfl))
    refine RA_noB rfl rfl rfl rfl (dec_f h10) rfl ?_
    refine RA_noB rfl rfl rfl rfl (dec_f h10) rfl ?_
    refine RA_noB rfl rfl rfl rfl (dec_f h10) rfl ?_
    refine RA_noB rfl rfl rfl rfl (dec_f h10) rfl ?_
    refine RA_noB rfl rfl rfl rfl (dec_f h10) rfl ?_
    refine RA_step rfl (OA_v rfl (V_pickF rfl (dec_f h10) rfl) ?_)
    refine RA_nil ?_
    exact at_normal (St.mk1 (aeq rfl (aeq rfl (aeq (congrArg Value.bool (and_f hq9 (dec_f h10))) aeq0))) (Gh.sel [1, 0, 2, 3] rfl rfl))
  rintro e ds As hst11
  refine RA.of_St rfl hst11 fun junk => ?_
  refine RA_step rfl (OA_v (v := .bool q9) rfl (V_move rfl) ?_)
  obtain ⟨q12, hq12, H⟩ := g_lt H
  refine RA_cut 6 (fun e ds As => St [(2, .pointer (some ⟨b3, 0, none⟩)), (3, .pointer (some ⟨b5, 0, none⟩)), (23, .bool q12)] [Buf (Kd.int .u8) 5 A1_0 c1_0 a1.f4, Buf (Kd.int .u8) 5 A0_0 c0_0 a0.f4, Blk b3 54 [.int .u64 a0.f0, .int .u64 a0.f1, .int .u64 a0.f2, .int .u64 a0.f3, .slice A0_0 a0.f4.length c0_0], Blk b5 54 [.int .u64 a1.f0, .int .u64 a1.f1, .int .u64 a1.f2, .int .u64 a1.f3, .slice A1_0 a1.f4.length c1_0]] e ds As) ?_ ?_
  · by_cases h13 : q9 = true
    · refine RA_yesB rfl rfl rfl rfl (h13) (OA_v (v := .pointer (some ((⟨b3, 0, none⟩ : Addr).add 2))) rfl (V_fieldAddrN (B := ⟨b3, 0, none⟩) (m := 0) (o := 2) Try.underlying54 rfl nz44 rfl rfl) ?_)
      refine RA_yesB rfl rfl rfl rfl (h13) (OA_r rfl (VR_load_blk (b := b3) (m := 2) (k := 2) Try.underlying44 rfl rfl rfl rfl) ?_)
      refine RA_yesB rfl rfl rfl rfl (h13) (OA_v (v := .pointer (some ((⟨b5, 0, none⟩ : Addr).add 2))) rfl (V_fieldAddrN (B := ⟨b5, 0, none⟩) (m := 0) (o := 2) Try.underlying54 rfl nz44 rfl rfl) ?_)
      refine RA_yesB rfl rfl rfl rfl (h13) (OA_r rfl (VR_load_blk (b := b5) (m := 2) (k := 3) Try.underlying44 rfl rfl rfl rfl) ?_)
      refine RA_yesB rfl rfl rfl rfl (h13) (OA_v (v := .bool (decide (a0.f2 = a1.f2))) rfl (V_eql rfl rfl) ?_)
      refine RA_step rfl (OA_v rfl (V_pickT rfl (h13) rfl) ?_)
      refine RA_nil ?_
      exact at_normal (St.mk1 (aeq rfl (aeq rfl (aeq (congrArg Value.bool (and_t hq12 (h13))) aeq0))) (Gh.sel [0, 1, 2, 3] rfl rfl))
    refine RA_noB rfl rfl rfl rfl (bno h13) rfl ?_
    refine RA_noB rfl rfl rfl rfl (bno h13) rfl ?_
    refine RA_noB rfl rfl rfl rfl (bno h13) rfl ?_
    refine RA_noB rfl rfl rfl rfl (bno h13) rfl ?_
    refine RA_noB rfl rfl rfl rfl (bno h13) rfl ?_
    refine RA_step rfl (OA_v rfl (V_pickF rfl (bno h13) rfl) ?_)
    refine RA_nil ?_
    exact at_normal (St.mk1 (aeq rfl (aeq rfl (aeq (congrArg Value.bool (and_f hq12 (bno h13))) aeq0))) (Gh.sel [0, 1, 2, 3] rfl rfl))
  rintro e ds As hst14
  refine RA.of_St rfl hst14 fun junk => ?_
  refine RA_step rfl (OA_v (v := .bool q12) rfl (V_move rfl) ?_)
  obtain ⟨q15, hq15, H⟩ := g_lt H
  refine RA_cut 6 (fun e ds As => St [(2, .pointer (some ⟨b3, 0, none⟩)), (3, .pointer (some ⟨b5, 0, none⟩)), (30, .bool q15)] [Buf (Kd.int .u8) 5 A1_0 c1_0 a1.f4, Buf (Kd.int .u8) 5 A0_0 c0_0 a0.f4, Blk b3 54 [.int .u64 a0.f0, .int .u64 a0.f1, .int .u64 a0.f2, .int .u64 a0.f3, .slice A0_0 a0.f4.length c0_0], Blk b5 54 [.int .u64 a1.f0, .int .u64 a1.f1, .int .u64 a1.f2, .int .u64 a1.f3, .slice A1_0 a1.f4.length c1_0]] e ds As) ?_ ?_
  · by_cases h16 : q12 = true
    · refine RA_yesB rfl rfl rfl rfl (h16) (OA_v (v := .pointer (some ((⟨b3, 0, none⟩ : Addr).add 3))) rfl (V_fieldAddrN (B := ⟨b3, 0, none⟩) (m := 0) (o := 3) Try.underlying54 rfl nz44 rfl rfl) ?_)
      refine RA_yesB rfl rfl rfl rfl (h16) (OA_r rfl (VR_load_blk (b := b3) (m := 3) (k := 2) Try.underlying44 rfl rfl rfl rfl) ?_)
      refine RA_yesB rfl rfl rfl rfl (h16) (OA_v (v := .pointer (some ((⟨b5, 0, none⟩ : Addr).add 3))) rfl (V_fieldAddrN (B := ⟨b5, 0, none⟩) (m := 0) (o := 3) Try.underlying54 rfl nz44 rfl rfl) ?_)
      refine RA_yesB rfl rfl rfl rfl (h16) (OA_r rfl (VR_load_blk (b := b5) (m := 3) (k := 3) Try.underlying44 rfl rfl rfl rfl) ?_)
      refine RA_yesB rfl rfl rfl rfl (h16) (OA_v (v := .bool (decide (a0.f3 = a1.f3))) rfl (V_eql rfl rfl) ?_)
      refine RA_step rfl (OA_v rfl (V_pickT rfl (h16) rfl) ?_)
      refine RA_nil ?_
      exact at_normal (St.mk1 (aeq rfl (aeq rfl (aeq (congrArg Value.bool (and_t hq15 (h16))) aeq0))) (Gh.sel [0, 1, 2, 3] rfl rfl))
    refine RA_noB rfl rfl rfl rfl (bno h16) rfl ?_
    refine RA_noB rfl rfl rfl rfl (bno h16) rfl ?_
    refine RA_noB rfl rfl rfl rfl (bno h16) rfl ?_
    refine RA_noB rfl rfl rfl rfl (bno h16) rfl ?_
    refine RA_noB rfl rfl rfl rfl (bno h16) rfl ?_
    refine RA_step rfl (OA_v rfl (V_pickF rfl (bno h16) rfl) ?_)
    refine RA_nil ?_
    exact at_normal (St.mk1 (aeq rfl (aeq rfl (aeq (congrArg Value.bool (and_f hq15 (bno h16))) aeq0))) (Gh.sel [0, 1, 2, 3] rfl rfl))
  rintro e ds As hst17
  refine RA.of_St rfl hst17 fun junk => ?_
  refine RA_step rfl (OA_v (v := .bool q15) rfl (V_move rfl) ?_)
  obtain ⟨q18, H, Bq18⟩ := g_bind H
  refine RA_cut 6 (fun e ds As => St [(37, .bool q18)] [Buf (Kd.int .u8) 5 A1_0 c1_0 a1.f4, Buf (Kd.int .u8) 5 A0_0 c0_0 a0.f4] e ds As) ?_ ?_
  · by_cases h19 : q15 = true
    · replace H := g_ift h19 H
      refine RA_yesB rfl rfl rfl rfl (h19) (OA_v (v := .pointer (some ((⟨b3, 0, none⟩ : Addr).add 4))) rfl (V_fieldAddrN (B := ⟨b3, 0, none⟩) (m := 0) (o := 4) Try.underlying54 rfl nz23 rfl rfl) ?_)
      refine RA_yesB rfl rfl rfl rfl (h19) (OA_r rfl (VR_load_blk (b := b3) (m := 4) (k := 2) Try.underlying23 rfl rfl rfl rfl) ?_)
      refine RA_yesB rfl rfl rfl rfl (h19) (OA_v (v := .pointer (some ((⟨b5, 0, none⟩ : Addr).add 4))) rfl (V_fieldAddrN (B := ⟨b5, 0, none⟩) (m := 0) (o := 4) Try.underlying54 rfl nz23 rfl rfl) ?_)
      refine RA_yesB rfl rfl rfl rfl (h19) (OA_r rfl (VR_load_blk (b := b5) (m := 4) (k := 3) Try.underlying23 rfl rfl rfl rfl) ?_)
      obtain ⟨r20, C21, H⟩ := g_bind H
      refine RA_yesB rfl rfl rfl rfl (h19) (OA_callA [1, 0] [2, 3] rfl (X_fn (vs := [.slice A0_0 a0.f4.length c0_0, .slice A1_0 a1.f4.length c1_0]) Try.func16 nm16 rfl rfl) rfl (F16b0b1.ok (l0 := a0.f4) (A0 := A0_0) (c0 := c0_0) (l1 := a1.f4) (A1 := A1_0) (c1 := c1_0) C21) rfl ?_)
      rintro _ _ ⟨rfl, rfl⟩
      refine RA_step rfl (OA_v rfl (V_pickT rfl (h19) rfl) ?_)
      have hr_ := Option.some.inj H
      subst hr_
      refine RA_nil ?_
      exact at_normal (St.mk1 (aeq rfl aeq0) (Gh.sel [1, 0] rfl rfl))
    replace H := g_iff h19 H
    refine RA_noB rfl rfl rfl rfl (bno h19) rfl ?_
    refine RA_noB rfl rfl rfl rfl (bno h19) rfl ?_
    refine RA_noB rfl rfl rfl rfl (bno h19) rfl ?_
    refine RA_noB rfl rfl rfl rfl (bno h19) rfl ?_
    refine RA_noB rfl rfl rfl rfl (bno h19) rfl ?_
    refine RA_step rfl (OA_v rfl (V_pickF rfl (bno h19) rfl) ?_)
    have hr_ := Option.some.inj H
    subst hr_
    refine RA_nil ?_
    exact at_normal (St.mk1 (aeq rfl aeq0) (Gh.sel [0, 1] rfl rfl))
  rintro e ds As hst22
  clear H
  have H := Bq18
  clear Bq18
  refine RA.of_St rfl hst22 fun junk => ?_
  refine RA_step rfl (OA_v (v := .bool q18) rfl (V_assign rfl) ?_)
  refine RA_nil ?_
  refine at_normal ?_
  refine SA_ret ?_
  have hr_ := Option.some.inj H
  subst hr_
  exact BQ_R1 [Buf (Kd.int .u8) 5 A0_0 c0_0 a0.f4, Buf (Kd.int .u8) 5 A1_0 c1_0 a1.f4] rfl rfl (Gh.sel [1, 0] rfl rfl) ⟨rfl, rfl⟩

/-! ### function 28: (*wayfarer/ssp.Sender[wayfarer/wayfarerlaw23.text]).Told -/
def F28b0.f (p0 : S131) : Option (Int × Int × Int) := (F60b0.f p0).bind (fun r4 => if (!r4) = true then (some ((0, 0, 0))) else (if 0 ≤ (0 : Int) ∧ (0 : Int) < (p0.f0.length : Int) then (if 0 ≤ (IntKind.i64.wrap ((p0.f0.length : Int) - 1)) ∧ (IntKind.i64.wrap ((p0.f0.length : Int) - 1)) < (p0.f0.length : Int) then (lt ((rd p0.f0 (0 : Int)).f0) fun n1506 => lt ((rd p0.f0 (IntKind.i64.wrap ((p0.f0.length : Int) - 1))).f0) fun n1566 => lt ((p0.f0.length : Int)) fun n1626 => some ((n1506, n1566, n1626))) else none) else none))
set_option maxHeartbeats 2000000 in
set_option maxRecDepth 100000 in
theorem F28b0.ok {p0 : S131} {b0_ : Nat} {A0_0 : Option Addr} {c0_0 : Nat} {r : Int × Int × Int} (H : F28b0.f p0 = some r) : SCA Try.prog 28 #[.pointer (some ⟨b0_, 0, none⟩)] [Blk b0_ 131 [.slice A0_0 p0.f0.length c0_0, .string p0.f1.f0, .int .u64 p0.f2, .bool p0.f3, .int .u64 p0.f4], Buf k128 128 A0_0 c0_0 p0.f0] (fun v B => v = .tuple #[.int .u64 r.1, .int .u64 r.2.1, .int .i64 r.2.2] ∧ B = [Blk b0_ 131 [.slice A0_0 p0.f0.length c0_0, .string p0.f1.f0, .int .u64 p0.f2, .bool p0.f3, .int .u64 p0.f4], Buf k128 128 A0_0 c0_0 p0.f0]) := by
  refine SCA_of_body Try.func28 rfl rfl ?_
  unfold F28b0.f at H
  refine SA_seq ?_
  refine SA_region ?_
  refine RA_step rfl (OA_v (v := .int .u64 0) rfl (V_assign rfl) ?_)
  refine RA_step rfl (OA_v (v := .int .u64 0) rfl (V_assign rfl) ?_)
  refine RA_step rfl (OA_v (v := .int .i64 0) rfl (V_assign rfl) ?_)
  refine RA_nil ?_
  refine at_normal ?_
  refine SA_seq ?_
  refine SA_seq ?_
  refine SA.fact (cap_of (k := 1) rfl) fun hc3 => ?_
  refine SA_region ?_
  refine RA_step rfl (OA_v (v := .pointer (some ⟨b0_, 0, none⟩)) rfl (V_move rfl) ?_)
  obtain ⟨r4, C1687, H⟩ := g_bind H
  refine RA_step rfl (OA_callA [0, 1] [] rfl (X_fn (vs := [.pointer (some ⟨b0_, 0, none⟩)]) Try.func60 nm60 rfl rfl) rfl (F60b0.ok (b0_ := b0_) (A0_0 := A0_0) (c0_0 := c0_0) (p0 := p0) C1687) rfl ?_)
  rintro _ _ ⟨rfl, rfl⟩
  refine RA_step rfl (OA_v (v := .bool (!r4)) rfl (V_not rfl) ?_)
  refine RA_nil ?_
  refine at_normal ?_
  by_cases h5 : (!r4) = true
  · replace H := g_ift h5 H
    refine SA_condTb rfl h5 ?_
    refine SA_seq ?_
    refine SA_region ?_
    refine RA_step rfl (OA_v (v := .int .u64 0) rfl (V_assign rfl) ?_)
    refine RA_step rfl (OA_v (v := .int .u64 0) rfl (V_assign rfl) ?_)
    refine RA_step rfl (OA_v (v := .int .i64 0) rfl (V_assign rfl) ?_)
    refine RA_nil ?_
    refine at_normal ?_
    refine SA_ret ?_
    refine thn_ret ?_
    have hr_ := Option.some.inj H
    subst hr_
    exact BQ_R3 [Blk b0_ 131 [.slice A0_0 p0.f0.length c0_0, .string p0.f1.f0, .int .u64 p0.f2, .bool p0.f3, .int .u64 p0.f4], Buf k128 128 A0_0 c0_0 p0.f0] rfl rfl rfl rfl (Gh.sel [0, 1] rfl rfl) ⟨rfl, rfl⟩
  replace H := g_iff h5 H
  refine SA_condFb rfl h5 ?_
  refine SA_skip ?_
  refine at_normal ?_
  refine SA_seq ?_
  refine SA_drawHq (0 :: 1 :: 2 :: 3 :: 4 :: 5 :: 6 :: 7 :: 8 :: 9 :: 10 :: 11 :: 12 :: 13 :: 14 :: 15 :: 16 :: 17 :: 18 :: 19 :: 20 :: 21 :: 22 :: 23 :: 24 :: 25 :: 26 :: 27 :: []) (List.toArray ([] :: [0] :: [0, 1] :: [0, 1, 2] :: [0, 1, 2, 3] :: [0, 1, 2, 3, 4] :: [0, 1, 2, 3, 4, 5] :: [] :: [7] :: [7, 8] :: [7, 8, 9] :: [] :: [11] :: [11, 12] :: [11, 12, 13] :: [11, 12, 13, 14] :: [11, 12, 13, 14, 15] :: [7, 8, 9, 10, 11, 12, 13, 14, 15, 16] :: [7, 8, 9, 10, 11, 12, 13, 14, 15, 16, 17] :: [7, 8, 9, 10, 11, 12, 13, 14, 15, 16, 17, 18] :: [] :: [20] :: [20, 21] :: [20, 21, 22] :: [20, 21, 22, 23] :: [0, 1, 2, 3, 4, 5, 6] :: (0 :: 1 :: 2 :: 3 :: 4 :: 5 :: 6 :: 7 :: 8 :: 9 :: 10 :: 11 :: 12 :: 13 :: 14 :: 15 :: 16 :: 17 :: 18 :: 19 :: 25 :: []) :: (0 :: 1 :: 2 :: 3 :: 4 :: 5 :: 6 :: 7 :: 8 :: 9 :: 10 :: 11 :: 12 :: 13 :: 14 :: 15 :: 16 :: 17 :: 18 :: 19 :: 20 :: 21 :: 22 :: 23 :: 24 :: 25 :: 26 :: []) :: [])) [0, 1] [] mixed rfl rfl rfl (PanOk.thn PanOk.body) fun I0 hS h0 hh0 w0 sH dd pk => ?_
  refine DH_take (v := .pointer (some ⟨b0_, 0, none⟩)) 0 (by kernel_rfl) rfl rfl (.no rfl) pk sH rfl (VR.ofV (V_move rfl)) ?_
  refine DH_take (v := .pointer (some ⟨b0_, 0, none⟩)) 1 (by kernel_rfl) rfl rfl (.no rfl) pk sH rfl (VR.ofV (V_nilCheck rfl)) ?_
  refine DH_take (v := .pointer (some ⟨b0_, 0, none⟩)) 2 (by kernel_rfl) rfl rfl (.no rfl) pk sH rfl (VR.ofV (V_fieldAddrN (B := ⟨b0_, 0, none⟩) (m := 0) (o := 0) Try.underlying131 rfl nz129 rfl rfl)) ?_
  refine DH_take 3 (by kernel_rfl) rfl rfl (.no rfl) pk sH rfl (VR_load_blk (b := b0_) (m := 0) (k := 0) Try.underlying129 rfl rfl rfl rfl) ?_
  obtain ⟨⟨g246, g247⟩, H⟩ := g_pos H
  refine DH_take 4 (by kernel_rfl) rfl rfl (.no rfl) pk sH rfl (VR_index (i := (0 : Int)) Try.underlying129 sz128 rfl rfl (Src.buf (k := 1) rfl) g246 g247) ?_
  refine DH_take (v := .pointer (some ((el A0_0 ((0 : Int).toNat * 3)).add 0))) 5 (by kernel_rfl) rfl rfl (.no rfl) pk sH rfl (VR.ofV (V_fieldAddrN (B := el A0_0 ((0 : Int).toNat * 3)) (m := 0) (o := 0) Try.underlying128 rfl nz44 rfl rfl)) ?_
  refine DH_take 6 (by kernel_rfl) rfl rfl (.no rfl) pk sH rfl (VR_load_el (enc := enc128) (i := (0 : Int)) (j := (0 : Int).toNat * 3) (m := 0) (sz := 3) Try.underlying44 rfl rfl rfl rfl (Src.buf (k := 1) rfl) g246 g247 (fun _ _ h => h) rfl) ?_
  refine DH_take (v := .pointer (some ⟨b0_, 0, none⟩)) 7 (by kernel_rfl) rfl rfl (.no rfl) pk sH rfl (VR.ofV (V_move rfl)) ?_
  refine DH_take (v := .pointer (some ⟨b0_, 0, none⟩)) 8 (by kernel_rfl) rfl rfl (.no rfl) pk sH rfl (VR.ofV (V_nilCheck rfl)) ?_
  refine DH_take (v := .pointer (some ⟨b0_, 0, none⟩)) 9 (by kernel_rfl) rfl rfl (.no rfl) pk sH rfl (VR.ofV (V_fieldAddrN (B := ⟨b0_, 0, none⟩) (m := 0) (o := 0) Try.underlying131 rfl nz129 rfl rfl)) ?_
  refine DH_take 10 (by kernel_rfl) rfl rfl (.no rfl) pk sH rfl (VR_load_blk (b := b0_) (m := 0) (k := 0) Try.underlying129 rfl rfl rfl rfl) ?_
  refine DH_take (v := .pointer (some ⟨b0_, 0, none⟩)) 11 (by kernel_rfl) rfl rfl (.no rfl) pk sH rfl (VR.ofV (V_move rfl)) ?_
  refine DH_take (v := .pointer (some ⟨b0_, 0, none⟩)) 12 (by kernel_rfl) rfl rfl (.no rfl) pk sH rfl (VR.ofV (V_nilCheck rfl)) ?_
  refine DH_take (v := .pointer (some ⟨b0_, 0, none⟩)) 13 (by kernel_rfl) rfl rfl (.no rfl) pk sH rfl (VR.ofV (V_fieldAddrN (B := ⟨b0_, 0, none⟩) (m := 0) (o := 0) Try.underlying131 rfl nz129 rfl rfl)) ?_
  refine DH_take 14 (by kernel_rfl) rfl rfl (.no rfl) pk sH rfl (VR_load_blk (b := b0_) (m := 0) (k := 0) Try.underlying129 rfl rfl rfl rfl) ?_
  refine DH_take (v := .int .i64 (p0.f0.length : Int)) 15 (by kernel_rfl) rfl rfl (.no rfl) pk sH rfl (VR.ofV (V_len Try.underlying129 rfl)) ?_
  refine DH_take (v := .int .i64 (IntKind.i64.wrap ((p0.f0.length : Int) - 1))) 16 (by kernel_rfl) rfl rfl (.no rfl) pk sH rfl (VR.ofV (V_sub rfl rfl)) ?_
  obtain ⟨⟨g1026, g1027⟩, H⟩ := g_pos H
  refine DH_take 17 (by kernel_rfl) rfl rfl (.no rfl) pk sH rfl (VR_index (i := IntKind.i64.wrap ((p0.f0.length : Int) - 1)) Try.underlying129 sz128 rfl rfl (Src.buf (k := 1) rfl) g1026 g1027) ?_
  refine DH_take (v := .pointer (some ((el A0_0 ((IntKind.i64.wrap ((p0.f0.length : Int) - 1)).toNat * 3)).add 0))) 18 (by kernel_rfl) rfl rfl (.no rfl) pk sH rfl (VR.ofV (V_fieldAddrN (B := el A0_0 ((IntKind.i64.wrap ((p0.f0.length : Int) - 1)).toNat * 3)) (m := 0) (o := 0) Try.underlying128 rfl nz44 rfl rfl)) ?_
  refine DH_take 19 (by kernel_rfl) rfl rfl (.no rfl) pk sH rfl (VR_load_el (enc := enc128) (i := IntKind.i64.wrap ((p0.f0.length : Int) - 1)) (j := (IntKind.i64.wrap ((p0.f0.length : Int) - 1)).toNat * 3) (m := 0) (sz := 3) Try.underlying44 rfl rfl rfl rfl (Src.buf (k := 1) rfl) g1026 g1027 (fun _ _ h => h) rfl) ?_
  refine DH_take (v := .pointer (some ⟨b0_, 0, none⟩)) 20 (by kernel_rfl) rfl rfl (.no rfl) pk sH rfl (VR.ofV (V_move rfl)) ?_
  refine DH_take (v := .pointer (some ⟨b0_, 0, none⟩)) 21 (by kernel_rfl) rfl rfl (.no rfl) pk sH rfl (VR.ofV (V_nilCheck rfl)) ?_
  refine DH_take (v := .pointer (some ⟨b0_, 0, none⟩)) 22 (by kernel_rfl) rfl rfl (.no rfl) pk sH rfl (VR.ofV (V_fieldAddrN (B := ⟨b0_, 0, none⟩) (m := 0) (o := 0) Try.underlying131 rfl nz129 rfl rfl)) ?_
  refine DH_take 23 (by kernel_rfl) rfl rfl (.no rfl) pk sH rfl (VR_load_blk (b := b0_) (m := 0) (k := 0) Try.underlying129 rfl rfl rfl rfl) ?_
  refine DH_take (v := .int .i64 (p0.f0.length : Int)) 24 (by kernel_rfl) rfl rfl (.no rfl) pk sH rfl (VR.ofV (V_len Try.underlying129 rfl)) ?_
  obtain ⟨n1506, hn1506, H⟩ := g_lt H
  refine DH_take (v := .int .u64 n1506) 25 (by kernel_rfl) rfl rfl (.no rfl) pk sH rfl (VR.ofV (V_assign (v := .int .u64 n1506) (congrArg (Value.int .u64) hn1506.symm))) ?_
  obtain ⟨n1566, hn1566, H⟩ := g_lt H
  refine DH_take (v := .int .u64 n1566) 26 (by kernel_rfl) rfl rfl (.no rfl) pk sH rfl (VR.ofV (V_assign (v := .int .u64 n1566) (congrArg (Value.int .u64) hn1566.symm))) ?_
  obtain ⟨n1626, hn1626, H⟩ := g_lt H
  refine DH_take (v := .int .i64 n1626) 27 (by kernel_rfl) rfl rfl (.no rfl) pk sH rfl (VR.ofV (V_assign (v := .int .i64 n1626) (congrArg (Value.int .i64) hn1626.symm))) ?_
  refine DH_open dd sH ?_
  refine DN_done (by kernel_rfl) ?_
  refine at_normal ?_
  refine SA_ret ?_
  have hr_ := Option.some.inj H
  subst hr_
  exact BQ_R3 [Blk b0_ 131 [.slice A0_0 p0.f0.length c0_0, .string p0.f1.f0, .int .u64 p0.f2, .bool p0.f3, .int .u64 p0.f4], Buf k128 128 A0_0 c0_0 p0.f0] rfl rfl rfl rfl (Gh.sel [0, 1] rfl rfl) ⟨rfl, rfl⟩

/-! ### function 29: wayfarer/wayfarerlaw23.anchored -/
def F29.f (k : Nat)  : Option (Bool) := (F20.f (S41.mk (⟨#[97]⟩ : ByteArray))).bind (fun r1 => (F22b0.f r1 (S41.mk (⟨#[97, 98]⟩ : ByteArray))).bind (fun r8 => if r8.1 ≠ 0 then (some (false)) else ((F25b0.f r8.2 0 20 100).bind (fun r14 => (F25b0.f r14.2.2.2 10 20 100).bind (fun r25 => (F25b0.f r25.2.2.2 100 20 100).bind (fun r35 => (F23b0.f k r35.2.2.2 1).bind (fun r46 => (F25b0.f r46.2 150 20 100).bind (fun r51 => lt (r14.2.1 && (!r25.2.1)) fun q62 => lt (q62 && r35.2.1) fun q65 => lt (q65 && (!r51.2.1)) fun q68 => lt (q68 && (decide (r14.2.2.1 = 0))) fun q71 => lt (q71 && (decide (r25.2.2.1 = 0))) fun q74 => lt (q74 && (decide (r35.2.2.1 = 0))) fun q77 => lt (q77 && (decide (r46.1 = 0))) fun q80 => lt (q80 && (decide (r51.2.2.1 = 0))) fun q83 => (if q83 = true then ((F23b0.f k r51.2.2.2 9).bind (fun r88 => some (decide (r88.1 = 230)))) else (some false) : Option Bool).bind (fun q86 => (if q86 = true then ((F27b0b1.f r14.1 (S54.mk 0 1 0 0 ([98] : (List Int)))).bind (fun r98 => some r98)) else (some false) : Option Bool).bind (fun q94 => (if q94 = true then ((F27b0b1.f r14.1 r35.1).bind (fun r103 => some r103)) else (some false) : Option Bool).bind (fun q101 => some (q101))))))))))))
set_option maxHeartbeats 2000000 in
set_option maxRecDepth 100000 in
theorem F29.ok {k : Nat}  {r : Bool} (H : F29.f k  = some r) : SCA Try.prog 29 #[] [] (fun v B => v = .bool r ∧ B = []) := by
  refine SCA_of_body Try.func29 rfl rfl ?_
  unfold F29.f at H
  refine SA_seq ?_
  refine SA_region ?_
  refine RA_step rfl (OA_v (v := .bool false) rfl (V_assign rfl) ?_)
  refine RA_nil ?_
  refine at_normal ?_
  refine SA_seq ?_
  refine SA_region ?_
  refine RA_step rfl (OA_v (v := .agg #[.string (⟨#[97]⟩ : ByteArray)]) rfl (V_build (cells := [.string (⟨#[97]⟩ : ByteArray)]) zero41 Try.underlying41 plc41 (by kernel_rfl)) ?_)
  obtain ⟨r1, C112, H⟩ := g_bind H
  refine RA_step rfl (OA_callA [] [] rfl (X_fn (vs := [.agg #[.string (⟨#[97]⟩ : ByteArray)]]) Try.func20 nm20 rfl rfl) rfl (F20.ok (a0 := (S41.mk (⟨#[97]⟩ : ByteArray))) C112) rfl ?_)
  rintro _ _ ⟨b2, A4, c5, rfl, rfl⟩
  refine RA_step rfl (OA_v (v := .pointer (some ⟨b2, 0, none⟩)) rfl (V_assign rfl) ?_)
  refine RA_nil ?_
  refine at_normal ?_
  refine SA_seq ?_
  refine SA_seq ?_
  refine SA.fact (cap_of (k := 1) rfl) fun hc7 => ?_
  refine SA_region ?_
  refine RA_step rfl (OA_v (v := .pointer (some ⟨b2, 0, none⟩)) rfl (V_move rfl) ?_)
  refine RA_step rfl (OA_v (v := .bool false) rfl (V_eqlPN Try.underlying38 rfl rfl) ?_)
  refine RA_step rfl (OA_v (v := .bool false) rfl (V_move rfl) ?_)
  refine RA_yesB rfl rfl rfl rfl (rfl) (OA_v (v := .pointer (some ⟨b2, 0, none⟩)) rfl (V_move rfl) ?_)
  refine RA_yesB rfl rfl rfl rfl (rfl) (OA_v (v := .agg #[.string (⟨#[97, 98]⟩ : ByteArray)]) rfl (V_build (cells := [.string (⟨#[97, 98]⟩ : ByteArray)]) zero41 Try.underlying41 plc41 (by kernel_rfl)) ?_)
  obtain ⟨r8, C111, H⟩ := g_bind H
  refine RA_yesB rfl rfl rfl rfl (rfl) (OA_callA [0, 1] [] rfl (X_fn (vs := [.pointer (some ⟨b2, 0, none⟩), .agg #[.string (⟨#[97, 98]⟩ : ByteArray)]]) Try.func22 nm22 rfl rfl) rfl (F22b0.ok (b0_ := b2) (A0_0 := A4) (c0_0 := c5) (p0 := r1) (a1 := (S41.mk (⟨#[97, 98]⟩ : ByteArray))) C111) rfl ?_)
  rintro _ _ ⟨A9, c10, rfl, rfl⟩
  refine RA_yesB rfl rfl rfl rfl (rfl) (OA_v (v := .bool (decide (r8.1 ≠ 0))) rfl (V_neq rfl rfl) ?_)
  refine RA_step rfl (OA_v rfl (V_pickF rfl (rfl) rfl) ?_)
  refine RA_nil ?_
  refine at_normal ?_
  by_cases h12 : r8.1 ≠ 0
  · replace H := g_ift h12 H
    refine SA_condT rfl h12 ?_
    refine SA_seq ?_
    refine SA_region ?_
    refine RA_step rfl (OA_v (v := .bool false) rfl (V_assign rfl) ?_)
    refine RA_nil ?_
    refine at_normal ?_
    refine SA_ret ?_
    refine thn_ret ?_
    have hr_ := Option.some.inj H
    subst hr_
    exact BQ_R1 [] rfl rfl (Gh.sel [] rfl rfl) ⟨rfl, rfl⟩
  replace H := g_iff h12 H
  refine SA_condF rfl h12 ?_
  refine SA_skip ?_
  refine at_normal ?_
  refine SA_seq ?_
  refine SA.fact (cap_of (k := 1) rfl) fun hc13 => ?_
  refine SA_region ?_
  refine RA_step rfl (OA_v (v := .pointer (some ⟨b2, 0, none⟩)) rfl (V_move rfl) ?_)
  obtain ⟨r14, C110, H⟩ := g_bind H
  refine RA_step rfl (OA_callA [0, 1] [] rfl (X_fn (vs := [.pointer (some ⟨b2, 0, none⟩), .int .u64 0, .int .i64 20, .int .i64 100]) Try.func25 nm25 rfl rfl) rfl (F25b0.ok (b0_ := b2) (A0_0 := A9) (c0_0 := c10) (p0 := r8.2) (a1 := 0) (a2 := 20) (a3 := 100) C110) rfl ?_)
  rintro _ _ ⟨A15, c16, A18, c19, rfl, rfl⟩
  refine RA_step rfl (OA_v (v := .tuple #[.agg #[.int .u64 r14.1.f0, .int .u64 r14.1.f1, .int .u64 r14.1.f2, .int .u64 r14.1.f3, .slice A15 r14.1.f4.length c16], .bool r14.2.1, .int .i64 r14.2.2.1]) rfl (V_move rfl) ?_)
  refine RA_step rfl (OA_v (v := .agg #[.int .u64 r14.1.f0, .int .u64 r14.1.f1, .int .u64 r14.1.f2, .int .u64 r14.1.f3, .slice A15 r14.1.f4.length c16]) rfl (V_extract rfl rfl) ?_)
  refine RA_step rfl (OA_v (v := .bool r14.2.1) rfl (V_extract rfl rfl) ?_)
  refine RA_step rfl (OA_v (v := .int .i64 r14.2.2.1) rfl (V_extract rfl rfl) ?_)
  refine RA_step rfl (OA_alloc rfl zero54 fun b21 => ?_)
  refine RA_step rfl (OA_st (b := b21) (m := 0) (k := 3) (vs := [.int .u64 r14.1.f0, .int .u64 r14.1.f1, .int .u64 r14.1.f2, .int .u64 r14.1.f3, .slice A15 r14.1.f4.length c16]) (cs' := [.int .u64 r14.1.f0, .int .u64 r14.1.f1, .int .u64 r14.1.f2, .int .u64 r14.1.f3, .slice A15 r14.1.f4.length c16]) rfl rfl rfl rfl rfl rfl sz54 rfl rfl ?_)
  refine RA_step rfl (OA_v (v := .bool r14.2.1) rfl (V_assign rfl) ?_)
  refine RA_step rfl (OA_v (v := .int .i64 r14.2.2.1) rfl (V_assign rfl) ?_)
  refine RA_nil ?_
  refine at_normal ?_
  refine SA_seq ?_
  refine SA.fact (cap_of (k := 0) rfl) fun hc23 => ?_
  refine SA.fact (cap_of (k := 2) rfl) fun hc24 => ?_
  refine SA_region ?_
  refine RA_step rfl (OA_v (v := .pointer (some ⟨b2, 0, none⟩)) rfl (V_move rfl) ?_)
  obtain ⟨r25, C109, H⟩ := g_bind H
  refine RA_step rfl (OA_callA [1, 2] [0, 3] rfl (X_fn (vs := [.pointer (some ⟨b2, 0, none⟩), .int .u64 10, .int .i64 20, .int .i64 100]) Try.func25 nm25 rfl rfl) rfl (F25b0.ok (b0_ := b2) (A0_0 := A18) (c0_0 := c19) (p0 := r14.2.2.2) (a1 := 10) (a2 := 20) (a3 := 100) C109) rfl ?_)
  rintro _ _ ⟨A26, c27, A29, c30, rfl, rfl⟩
  refine RA_step rfl (OA_v (v := .tuple #[.agg #[.int .u64 r25.1.f0, .int .u64 r25.1.f1, .int .u64 r25.1.f2, .int .u64 r25.1.f3, .slice A26 r25.1.f4.length c27], .bool r25.2.1, .int .i64 r25.2.2.1]) rfl (V_move rfl) ?_)
  refine RA_step rfl (OA_v (v := .agg #[.int .u64 r25.1.f0, .int .u64 r25.1.f1, .int .u64 r25.1.f2, .int .u64 r25.1.f3, .slice A26 r25.1.f4.length c27]) rfl (V_extract rfl rfl) ?_)
  refine RA_step rfl (OA_v (v := .bool r25.2.1) rfl (V_extract rfl rfl) ?_)
  refine RA_step rfl (OA_v (v := .int .i64 r25.2.2.1) rfl (V_extract rfl rfl) ?_)
  refine RA_step rfl (OA_alloc rfl zero54 fun b32 => ?_)
  refine RA_step rfl (OA_st (b := b32) (m := 0) (k := 5) (vs := [.int .u64 r25.1.f0, .int .u64 r25.1.f1, .int .u64 r25.1.f2, .int .u64 r25.1.f3, .slice A26 r25.1.f4.length c27]) (cs' := [.int .u64 r25.1.f0, .int .u64 r25.1.f1, .int .u64 r25.1.f2, .int .u64 r25.1.f3, .slice A26 r25.1.f4.length c27]) rfl rfl rfl rfl rfl rfl sz54 rfl rfl ?_)
  refine RA_step rfl (OA_v (v := .bool r25.2.1) rfl (V_assign rfl) ?_)
  refine RA_step rfl (OA_v (v := .int .i64 r25.2.2.1) rfl (V_assign rfl) ?_)
  refine RA_nil ?_
  refine at_normal ?_
  refine SA.of_St (l := [(1, .pointer (some ⟨b2, 0, none⟩)), (2, .pointer (some ⟨b21, 0, none⟩)), (3, .bool r14.2.1), (4, .int .i64 r14.2.2.1), (6, .bool r25.2.1), (7, .int .i64 r25.2.2.1)]) (B := [Blk b2 131 [.slice A29 r25.2.2.2.f0.length c30, .string r25.2.2.2.f1.f0, .int .u64 r25.2.2.2.f2, .bool r25.2.2.2.f3, .int .u64 r25.2.2.2.f4], Buf k128 128 A29 c30 r25.2.2.2.f0, Blk b21 54 [.int .u64 r14.1.f0, .int .u64 r14.1.f1, .int .u64 r14.1.f2, .int .u64 r14.1.f3, .slice A15 r14.1.f4.length c16], Buf (Kd.int .u8) 5 A15 c16 r14.1.f4]) (St.mk1 (aeq rfl (aeq rfl (aeq rfl (aeq rfl (aeq rfl (aeq rfl aeq0)))))) (Gh.sel [1, 2, 4, 3] (by kernel_rfl) (by kernel_rfl))) fun junk => ?_
  refine SA_seq ?_
  refine SA.fact (cap_of (k := 1) rfl) fun hc34 => ?_
  refine SA_region ?_
  refine RA_step rfl (OA_v (v := .pointer (some ⟨b2, 0, none⟩)) rfl (V_move rfl) ?_)
  obtain ⟨r35, C108, H⟩ := g_bind H
  refine RA_step rfl (OA_callA [0, 1] [2, 3] rfl (X_fn (vs := [.pointer (some ⟨b2, 0, none⟩), .int .u64 100, .int .i64 20, .int .i64 100]) Try.func25 nm25 rfl rfl) rfl (F25b0.ok (b0_ := b2) (A0_0 := A29) (c0_0 := c30) (p0 := r25.2.2.2) (a1 := 100) (a2 := 20) (a3 := 100) C108) rfl ?_)
  rintro _ _ ⟨A36, c37, A39, c40, rfl, rfl⟩
  refine RA_step rfl (OA_v (v := .tuple #[.agg #[.int .u64 r35.1.f0, .int .u64 r35.1.f1, .int .u64 r35.1.f2, .int .u64 r35.1.f3, .slice A36 r35.1.f4.length c37], .bool r35.2.1, .int .i64 r35.2.2.1]) rfl (V_move rfl) ?_)
  refine RA_step rfl (OA_v (v := .agg #[.int .u64 r35.1.f0, .int .u64 r35.1.f1, .int .u64 r35.1.f2, .int .u64 r35.1.f3, .slice A36 r35.1.f4.length c37]) rfl (V_extract rfl rfl) ?_)
  refine RA_step rfl (OA_v (v := .bool r35.2.1) rfl (V_extract rfl rfl) ?_)
  refine RA_step rfl (OA_v (v := .int .i64 r35.2.2.1) rfl (V_extract rfl rfl) ?_)
  refine RA_step rfl (OA_alloc rfl zero54 fun b42 => ?_)
  refine RA_step rfl (OA_st (b := b42) (m := 0) (k := 5) (vs := [.int .u64 r35.1.f0, .int .u64 r35.1.f1, .int .u64 r35.1.f2, .int .u64 r35.1.f3, .slice A36 r35.1.f4.length c37]) (cs' := [.int .u64 r35.1.f0, .int .u64 r35.1.f1, .int .u64 r35.1.f2, .int .u64 r35.1.f3, .slice A36 r35.1.f4.length c37]) rfl rfl rfl rfl rfl rfl sz54 rfl rfl ?_)
  refine RA_step rfl (OA_v (v := .bool r35.2.1) rfl (V_assign rfl) ?_)
  refine RA_step rfl (OA_v (v := .int .i64 r35.2.2.1) rfl (V_assign rfl) ?_)
  refine RA_nil ?_
  refine at_normal ?_
  refine SA_seq ?_
  refine SA.fact (cap_of (k := 0) rfl) fun hc44 => ?_
  refine SA.fact (cap_of (k := 2) rfl) fun hc45 => ?_
  refine SA_region ?_
  refine RA_step rfl (OA_v (v := .pointer (some ⟨b2, 0, none⟩)) rfl (V_move rfl) ?_)
  obtain ⟨r46, C107, H⟩ := g_bind H
  refine RA_step rfl (OA_callA [1, 2] [0, 3, 4, 5] rfl (X_fn (vs := [.pointer (some ⟨b2, 0, none⟩), .int .u64 1]) Try.func23 nm23 rfl rfl) rfl (F23b0.ok (b0_ := b2) (A0_0 := A39) (c0_0 := c40) (p0 := r35.2.2.2) (a1 := 1) C107) rfl ?_)
  rintro _ _ ⟨A47, c48, rfl, rfl⟩
  refine RA_step rfl (OA_v (v := .int .i64 r46.1) rfl (V_assign rfl) ?_)
  refine RA_nil ?_
  refine at_normal ?_
  refine SA_seq ?_
  refine SA.fact (cap_of (k := 1) rfl) fun hc50 => ?_
  refine SA_region ?_
  refine RA_step rfl (OA_v (v := .pointer (some ⟨b2, 0, none⟩)) rfl (V_move rfl) ?_)
  obtain ⟨r51, C106, H⟩ := g_bind H
  refine RA_step rfl (OA_callA [0, 1] [2, 3, 4, 5] rfl (X_fn (vs := [.pointer (some ⟨b2, 0, none⟩), .int .u64 150, .int .i64 20, .int .i64 100]) Try.func25 nm25 rfl rfl) rfl (F25b0.ok (b0_ := b2) (A0_0 := A47) (c0_0 := c48) (p0 := r46.2) (a1 := 150) (a2 := 20) (a3 := 100) C106) rfl ?_)
  rintro _ _ ⟨A52, c53, A55, c56, rfl, rfl⟩
  refine RA_step rfl (OA_v (v := .tuple #[.agg #[.int .u64 r51.1.f0, .int .u64 r51.1.f1, .int .u64 r51.1.f2, .int .u64 r51.1.f3, .slice A52 r51.1.f4.length c53], .bool r51.2.1, .int .i64 r51.2.2.1]) rfl (V_move rfl) ?_)
  refine RA_step rfl (OA_v (v := .agg #[.int .u64 r51.1.f0, .int .u64 r51.1.f1, .int .u64 r51.1.f2, .int .u64 r51.1.f3, .slice A52 r51.1.f4.length c53]) rfl (V_extract rfl rfl) ?_)
  refine RA_step rfl (OA_v (v := .bool r51.2.1) rfl (V_extract rfl rfl) ?_)
  refine RA_step rfl (OA_v (v := .int .i64 r51.2.2.1) rfl (V_extract rfl rfl) ?_)
  refine RA_step rfl (OA_alloc rfl zero54 fun b58 => ?_)
  refine RA_step rfl (OA_st (b := b58) (m := 0) (k := 7) (vs := [.int .u64 r51.1.f0, .int .u64 r51.1.f1, .int .u64 r51.1.f2, .int .u64 r51.1.f3, .slice A52 r51.1.f4.length c53]) (cs' := [.int .u64 r51.1.f0, .int .u64 r51.1.f1, .int .u64 r51.1.f2, .int .u64 r51.1.f3, .slice A52 r51.1.f4.length c53]) rfl rfl rfl rfl rfl rfl sz54 rfl rfl ?_)
  refine RA_step rfl (OA_v (v := .bool r51.2.1) rfl (V_assign rfl) ?_)
  refine RA_step rfl (OA_v (v := .int .i64 r51.2.2.1) rfl (V_assign rfl) ?_)
  refine RA_nil ?_
  refine at_normal ?_
  refine SA_seq ?_
  refine SA.fact (cap_of (k := 0) rfl) fun hc60 => ?_
  refine SA.fact (cap_of (k := 2) rfl) fun hc61 => ?_
  refine SA_region ?_
  refine RA_step rfl (OA_v (v := .bool r14.2.1) rfl (V_move rfl) ?_)
  refine RA_step rfl (OA_v (v := .bool r14.2.1) rfl (V_move rfl) ?_)
  obtain ⟨q62, hq62, H⟩ := g_lt H
  refine RA_cut 3 (fun e ds As => St [(1, .pointer (some ⟨b2, 0, none⟩)), (2, .pointer (some ⟨b21, 0, none⟩)), (4, .int .i64 r14.2.2.1), (7, .int .i64 r25.2.2.1), (8, .pointer (some ⟨b42, 0, none⟩)), (9, .bool r35.2.1), (10, .int .i64 r35.2.2.1), (11, .int .i64 r46.1), (13, .bool r51.2.1), (14, .int .i64 r51.2.2.1), (55, .bool q62)] [Blk b2 131 [.slice A55 r51.2.2.2.f0.length c56, .string r51.2.2.2.f1.f0, .int .u64 r51.2.2.2.f2, .bool r51.2.2.2.f3, .int .u64 r51.2.2.2.f4], Buf k128 128 A55 c56 r51.2.2.2.f0, Blk b21 54 [.int .u64 r14.1.f0, .int .u64 r14.1.f1, .int .u64 r14.1.f2, .int .u64 r14.1.f3, .slice A15 r14.1.f4.length c16], Buf (Kd.int .u8) 5 A15 c16 r14.1.f4, Blk b42 54 [.int .u64 r35.1.f0, .int .u64 r35.1.f1, .int .u64 r35.1.f2, .int .u64 r35.1.f3, .slice A36 r35.1.f4.length c37], Buf (Kd.int .u8) 5 A36 c37 r35.1.f4] e ds As) ?_ ?_
  · by_cases h63 : r14.2.1 = true
    · refine RA_yesB rfl rfl rfl rfl (h63) (OA_v (v := .bool r25.2.1) rfl (V_move rfl) ?_)
      refine RA_yesB rfl rfl rfl rfl (h63) (OA_v (v := .bool (!r25.2.1)) rfl (V_not rfl) ?_)
      refine RA_step rfl (OA_v rfl (V_pickT rfl (h63) rfl) ?_)
      refine RA_nil ?_
      exact at_normal (St.mk1 (aeq rfl (aeq rfl (aeq rfl (aeq rfl (aeq rfl (aeq rfl (aeq rfl (aeq rfl (aeq rfl (aeq rfl (aeq (congrArg Value.bool (and_t hq62 (h63))) aeq0))))))))))) (Gh.sel [1, 2, 4, 5, 6, 3] rfl rfl))
    refine RA_noB rfl rfl rfl rfl (bno h63) rfl ?_
    refine RA_noB rfl rfl rfl rfl (bno h63) rfl ?_
    refine RA_step rfl (OA_v rfl (V_pickF rfl (bno h63) rfl) ?_)
    refine RA_nil ?_
    exact at_normal (St.mk1 (aeq rfl (aeq rfl (aeq rfl (aeq rfl (aeq rfl (aeq rfl (aeq rfl (aeq rfl (aeq rfl (aeq rfl (aeq (congrArg Value.bool (and_f hq62 (bno h63))) aeq0))))))))))) (Gh.sel [1, 2, 4, 5, 6, 3] rfl rfl))
  rintro e ds As hst64
  refine RA.of_St rfl hst64 fun junk => ?_
  refine RA_step rfl (OA_v (v := .bool q62) rfl (V_move rfl) ?_)
  obtain ⟨q65, hq65, H⟩ := g_lt H
  refine RA_cut 2 (fun e ds As => St [(1, .pointer (some ⟨b2, 0, none⟩)), (2, .pointer (some ⟨b21, 0, none⟩)), (4, .int .i64 r14.2.2.1), (7, .int .i64 r25.2.2.1), (8, .pointer (some ⟨b42, 0, none⟩)), (10, .int .i64 r35.2.2.1), (11, .int .i64 r46.1), (13, .bool r51.2.1), (14, .int .i64 r51.2.2.1), (58, .bool q65)] [Blk b2 131 [.slice A55 r51.2.2.2.f0.length c56, .string r51.2.2.2.f1.f0, .int .u64 r51.2.2.2.f2, .bool r51.2.2.2.f3, .int .u64 r51.2.2.2.f4], Buf k128 128 A55 c56 r51.2.2.2.f0, Blk b21 54 [.int .u64 r14.1.f0, .int .u64 r14.1.f1, .int .u64 r14.1.f2, .int .u64 r14.1.f3, .slice A15 r14.1.f4.length c16], Buf (Kd.int .u8) 5 A15 c16 r14.1.f4, Blk b42 54 [.int .u64 r35.1.f0, .int .u64 r35.1.f1, .int .u64 r35.1.f2, .int .u64 r35.1.f3, .slice A36 r35.1.f4.length c37], Buf (Kd.int .u8) 5 A36 c37 r35.1.f4] e ds As) ?_ ?_
  · by_cases h66 : q62 = true
    · refine RA_yesB rfl rfl rfl rfl (h66) (OA_v (v := .bool r35.2.1) rfl (V_move rfl) ?_)
      refine RA_step rfl (OA_v rfl (V_pickT rfl (h66) rfl) ?_)
      refine RA_nil ?_
      exact at_normal (St.mk1 (aeq rfl (aeq rfl (aeq rfl (aeq rfl (aeq rfl (aeq rfl (aeq rfl (aeq rfl (aeq rfl (aeq (congrArg Value.bool (and_t hq65 (h66))) aeq0)))))))))) (Gh.sel [0, 1, 2, 3, 4, 5] rfl rfl))
    refine RA_noB rfl rfl rfl rfl (bno h66) rfl ?_
    refine RA_step rfl (OA_v rfl (V_pickF rfl (bno h66) rfl) ?_)
    refine RA_nil ?_
    exact at_normal (St.mk1 (aeq rfl (aeq rfl (aeq rfl (aeq rfl (aeq rfl (aeq rfl (aeq rfl (aeq rfl (aeq rfl (aeq (congrArg Value.bool (and_f hq65 (bno h66))) aeq0)))))))))) (Gh.sel [0, 1, 2, 3, 4, 5] rfl rfl))
  rintro e ds As hst67
  refine RA.of_St rfl hst67 fun junk => ?_
  refine RA_step rfl (OA_v (v := .bool q65) rfl (V_move rfl) ?_)
  obtain ⟨q68, hq68, H⟩ := g_lt H
  refine RA_cut 3 (fun e ds As => St [(1, .pointer (some ⟨b2, 0, none⟩)), (2, .pointer (some ⟨b21, 0, none⟩)), (4, .int .i64 r14.2.2.1), (7, .int .i64 r25.2.2.1), (8, .pointer (some ⟨b42, 0, none⟩)), (10, .int .i64 r35.2.2.1), (11, .int .i64 r46.1), (14, .int .i64 r51.2.2.1), (62, .bool q68)] [Blk b2 131 [.slice A55 r51.2.2.2.f0.length c56, .string r51.2.2.2.f1.f0, .int .u64 r51.2.2.2.f2, .bool r51.2.2.2.f3, .int .u64 r51.2.2.2.f4], Buf k128 128 A55 c56 r51.2.2.2.f0, Blk b21 54 [.int .u64 r14.1.f0, .int .u64 r14.1.f1, .int .u64 r14.1.f2, .int .u64 r14.1.f3, .slice A15 r14.1.f4.length c16], Buf (Kd.int .u8) 5 A15 c16 r14.1.f4, Blk b42 54 [.int .u64 r35.1.f0, .int .u64 r35.1.f1, .int .u64 r35.1.f2, .int .u64 r35.1.f3, .slice A36 r35.1.f4.length c37], Buf (Kd.int .u8) 5 A36 c37 r35.1.f4] e ds As) ?_ ?_
  · by_cases h69 : q65 = true
    · refine RA_yesB rfl rfl rfl rfl (h69) (OA_v (v := .bool r51.2.1) rfl (V_move rfl) ?_)
      refine RA_yesB rfl rfl rfl rfl (h69) (OA_v (v := .bool (!r51.2.1)) rfl (V_not rfl) ?_)
      refine RA_step rfl (OA_v rfl (V_pickT rfl (h69) rfl) ?_)
      refine RA_nil ?_
      exact at_normal (St.mk1 (aeq rfl (aeq rfl (aeq rfl (aeq rfl (aeq rfl (aeq rfl (aeq rfl (aeq rfl (aeq (congrArg Value.bool (and_t hq68 (h69))) aeq0))))))))) (Gh.sel [0, 1, 2, 3, 4, 5] rfl rfl))
    refine RA_noB rfl rfl rfl rfl (bno h69) rfl ?_
    refine RA_noB rfl rfl rfl rfl (bno h69) rfl ?_
    refine RA_step rfl (OA_v rfl (V_pickF rfl (bno h69) rfl) ?_)
    refine RA_nil ?_
    exact at_normal (St.mk1 (aeq rfl (aeq rfl (aeq rfl (aeq rfl (aeq rfl (aeq rfl (aeq rfl (aeq rfl (aeq (congrArg Value.bool (and_f hq68 (bno h69))) aeq0))))))))) (Gh.sel [0, 1, 2, 3, 4, 5] rfl rfl))
  rintro e ds As hst70
  refine RA.of_St rfl hst70 fun junk => ?_
  refine RA_step rfl (OA_v (v := .bool q68) rfl (V_move rfl) ?_)
  obtain ⟨q71, hq71, H⟩ := g_lt H
  refine RA_cut 3 (fun e ds As => St [(1, .pointer (some ⟨b2, 0, none⟩)), (2, .pointer (some ⟨b21, 0, none⟩)), (7, .int .i64 r25.2.2.1), (8, .pointer (some ⟨b42, 0, none⟩)), (10, .int .i64 r35.2.2.1), (11, .int .i64 r46.1), (14, .int .i64 r51.2.2.1), (66, .bool q71)] [Blk b2 131 [.slice A55 r51.2.2.2.f0.length c56, .string r51.2.2.2.f1.f0, .int .u64 r51.2.2.2.f2, .bool r51.2.2.2.f3, .int .u64 r51.2.2.2.f4], Buf k128 128 A55 c56 r51.2.2.2.f0, Blk b21 54 [.int .u64 r14.1.f0, .int .u64 r14.1.f1, .int .u64 r14.1.f2, .int .u64 r14.1.f3, .slice A15 r14.1.f4.length c16], Buf (Kd.int .u8) 5 A15 c16 r14.1.f4, Blk b42 54 [.int .u64 r35.1.f0, .int .u64 r35.1.f1, .int .u64 r35.1.f2, .int .u64 r35.1.f3, .slice A36 r35.1.f4.length c37], Buf (Kd.int .u8) 5 A36 c37 r35.1.f4] e ds As) ?_ ?_
  · by_cases h72 : q68 = true
    · refine RA_yesB rfl rfl rfl rfl (h72) (OA_v (v := .int .i64 r14.2.2.1) rfl (V_move rfl) ?_)
      refine RA_yesB rfl rfl rfl rfl (h72) (OA_v (v := .bool (decide (r14.2.2.1 = 0))) rfl (V_eql rfl rfl) ?_)
      refine RA_step rfl (OA_v rfl (V_pickT rfl (h72) rfl) ?_)
      refine RA_nil ?_
      exact at_normal (St.mk1 (aeq rfl (aeq rfl (aeq rfl (aeq rfl (aeq rfl (aeq rfl (aeq rfl (aeq (congrArg Value.bool (and_t hq71 (h72))) aeq0)))))))) (Gh.sel [0, 1, 2, 3, 4, 5] rfl rfl))
    refine RA_noB rfl rfl rfl rfl (bno h72) rfl ?_
    refine RA_noB rfl rfl rfl rfl (bno h72) rfl ?_
    refine RA_step rfl (OA_v rfl (V_pickF rfl (bno h72) rfl) ?_)
    refine RA_nil ?_
    exact at_normal (St.mk1 (aeq rfl (aeq rfl (aeq rfl (aeq rfl (aeq rfl (aeq rfl (aeq rfl (aeq (congrArg Value.bool (and_f hq71 (bno h72))) aeq0)))))))) (Gh.sel [0, 1, 2, 3, 4, 5] rfl rfl))
  rintro e ds As hst73
  refine RA.of_St rfl hst73 fun junk => ?_
  refine RA_step rfl (OA_v (v := .bool q71) rfl (V_move rfl) ?_)
  obtain ⟨q74, hq74, H⟩ := g_lt H
  refine RA_cut 3 (fun e ds As => St [(1, .pointer (some ⟨b2, 0, none⟩)), (2, .pointer (some ⟨b21, 0, none⟩)), (8, .pointer (some ⟨b42, 0, none⟩)), (10, .int .i64 r35.2.2.1), (11, .int .i64 r46.1), (14, .int .i64 r51.2.2.1), (70, .bool q74)] [Blk b2 131 [.slice A55 r51.2.2.2.f0.length c56, .string r51.2.2.2.f1.f0, .int .u64 r51.2.2.2.f2, .bool r51.2.2.2.f3, .int .u64 r51.2.2.2.f4], Buf k128 128 A55 c56 r51.2.2.2.f0, Blk b21 54 [.int .u64 r14.1.f0, .int .u64 r14.1.f1, .int .u64 r14.1.f2, .int .u64 r14.1.f3, .slice A15 r14.1.f4.length c16], Buf (Kd.int .u8) 5 A15 c16 r14.1.f4, Blk b42 54 [.int .u64 r35.1.f0, .int .u64 r35.1.f1, .int .u64 r35.1.f2, .int .u64 r35.1.f3, .slice A36 r35.1.f4.length c37], Buf (Kd.int .u8) 5 A36 c37 r35.1.f4] e ds As) ?_ ?_
  · by_cases h75 : q71 = true
    · refine RA_yesB rfl rfl rfl rfl (h75) (OA_v (v := .int .i64 r25.2.2.1) rfl (V_move rfl) ?_)
      refine RA_yesB rfl rfl rfl rfl (h75) (OA_v (v := .bool (decide (r25.2.2.1 = 0))) rfl (V_eql rfl rfl) ?_)
      refine RA_step rfl (OA_v rfl (V_pickT rfl (h75) rfl) ?_)
      refine RA_nil ?_
      exact at_normal (St.mk1 (aeq rfl (aeq rfl (aeq rfl (aeq rfl (aeq rfl (aeq rfl (aeq (congrArg Value.bool (and_t hq74 (h75))) aeq0))))))) (Gh.sel [0, 1, 2, 3, 4, 5] rfl rfl))
    refine RA_noB rfl rfl rfl rfl (bno h75) rfl ?_
    refine RA_noB rfl rfl rfl rfl (bno h75) rfl ?_
    refine RA_step rfl (OA_v rfl (V_pickF rfl (bno h75) rfl) ?_)
    refine RA_nil ?_
    exact at_normal (St.mk1 (aeq rfl (aeq rfl (aeq rfl (aeq rfl (aeq rfl (aeq rfl (aeq (congrArg Value.bool (and_f hq74 (bno h75))) aeq0))))))) (Gh.sel [0, 1, 2, 3, 4, 5] rfl rfl))
  rintro e ds As hst76
  refine RA.of_St rfl hst76 fun junk => ?_
  refine RA_step rfl (OA_v (v := .bool q74) rfl (V_move rfl) ?_)
  obtain ⟨q77, hq77, H⟩ := g_lt H
  refine RA_cut 3 (fun e ds As => St [(1, .pointer (some ⟨b2, 0, none⟩)), (2, .pointer (some ⟨b21, 0, none⟩)), (8, .pointer (some ⟨b42, 0, none⟩)), (11, .int .i64 r46.1), (14, .int .i64 r51.2.2.1), (74, .bool q77)] [Blk b2 131 [.slice A55 r51.2.2.2.f0.length c56, .string r51.2.2.2.f1.f0, .int .u64 r51.2.2.2.f2, .bool r51.2.2.2.f3, .int .u64 r51.2.2.2.f4], Buf k128 128 A55 c56 r51.2.2.2.f0, Blk b21 54 [.int .u64 r14.1.f0, .int .u64 r14.1.f1, .int .u64 r14.1.f2, .int .u64 r14.1.f3, .slice A15 r14.1.f4.length c16], Buf (Kd.int .u8) 5 A15 c16 r14.1.f4, Blk b42 54 [.int .u64 r35.1.f0, .int .u64 r35.1.f1, .int .u64 r35.1.f2, .int .u64 r35.1.f3, .slice A36 r35.1.f4.length c37], Buf (Kd.int .u8) 5 A36 c37 r35.1.f4] e ds As) ?_ ?_
  · by_cases h78 : q74 = true
    · refine RA_yesB rfl rfl rfl rfl (h78) (OA_v (v := .int .i64 r35.2.2.1) rfl (V_move rfl) ?_)
      refine RA_yesB rfl rfl rfl rfl (h78) (OA_v (v := .bool (decide (r35.2.2.1 = 0))) rfl (V_eql rfl rfl) ?_)
      refine RA_step rfl (OA_v rfl (V_pickT rfl (h78) rfl) ?_)
      refine RA_nil ?_
      exact at_normal (St.mk1 (aeq rfl (aeq rfl (aeq rfl (aeq rfl (aeq rfl (aeq (congrArg Value.bool (and_t hq77 (h78))) aeq0)))))) (Gh.sel [0, 1, 2, 3, 4, 5] rfl rfl))
    refine RA_noB rfl rfl rfl rfl (bno h78) rfl ?_
    refine RA_noB rfl rfl rfl rfl (bno h78) rfl ?_
    refine RA_step rfl (OA_v rfl (V_pickF rfl (bno h78) rfl) ?_)
    refine RA_nil ?_
    exact at_normal (St.mk1 (aeq rfl (aeq rfl (aeq rfl (aeq rfl (aeq rfl (aeq (congrArg Value.bool (and_f hq77 (bno h78))) aeq0)))))) (Gh.sel [0, 1, 2, 3, 4, 5] rfl rfl))
  rintro e ds As hst79
  refine RA.of_St rfl hst79 fun junk => ?_
  refine RA_step rfl (OA_v (v := .bool q77) rfl (V_move rfl) ?_)
  obtain ⟨q80, hq80, H⟩ := g_lt H
  refine RA_cut 3 (fun e ds As => St [(1, .pointer (some ⟨b2, 0, none⟩)), (2, .pointer (some ⟨b21, 0, none⟩)), (8, .pointer (some ⟨b42, 0, none⟩)), (14, .int .i64 r51.2.2.1), (78, .bool q80)] [Blk b2 131 [.slice A55 r51.2.2.2.f0.length c56, .string r51.2.2.2.f1.f0, .int .u64 r51.2.2.2.f2, .bool r51.2.2.2.f3, .int .u64 r51.2.2.2.f4], Buf k128 128 A55 c56 r51.2.2.2.f0, Blk b21 54 [.int .u64 r14.1.f0, .int .u64 r14.1.f1, .int .u64 r14.1.f2, .int .u64 r14.1.f3, .slice A15 r14.1.f4.length c16], Buf (Kd.int .u8) 5 A15 c16 r14.1.f4, Blk b42 54 [.int .u64 r35.1.f0, .int .u64 r35.1.f1, .int .u64 r35.1.f2, .int .u64 r35.1.f3, .slice A36 r35.1.f4.length c37], Buf (Kd.int .u8) 5 A36 c37 r35.1.f4] e ds As) ?_ ?_
  · by_cases h81 : q77 = true
    · refine RA_yesB rfl rfl rfl rfl (h81) (OA_v (v := .int .i64 r46.1) rfl (V_move rfl) ?_)
      refine RA_yesB rfl rfl rfl rfl (h81) (OA_v (v := .bool (decide (r46.1 = 0))) rfl (V_eql rfl rfl) ?_)
      refine RA_step rfl (OA_v rfl (V_pickT rfl (h81) rfl) ?_)
      refine RA_nil ?_
      exact at_normal (St.mk1 (aeq rfl (aeq rfl (aeq rfl (aeq rfl (aeq (congrArg Value.bool (and_t hq80 (h81))) aeq0))))) (Gh.sel [0, 1, 2, 3, 4, 5] rfl rfl))
    refine RA_noB rfl rfl rfl rfl (bno h81) rfl ?_
    refine RA_noB rfl rfl rfl rfl (bno h81) rfl ?_
    refine RA_step rfl (OA_v rfl (V_pickF rfl (bno h81) rfl) ?_)
    refine RA_nil ?_
    exact at_normal (St.mk1 (aeq rfl (aeq rfl (aeq rfl (aeq rfl (aeq (congrArg Value.bool (and_f hq80 (bno h81))) aeq0))))) (Gh.sel [0, 1, 2, 3, 4, 5] rfl rfl))
  rintro e ds As hst82
  refine RA.of_St rfl hst82 fun junk => ?_
  refine RA_step rfl (OA_v (v := .bool q80) rfl (V_move rfl) ?_)
  obtain ⟨q83, hq83, H⟩ := g_lt H
  refine RA_cut 3 (fun e ds As => St [(1, .pointer (some ⟨b2, 0, none⟩)), (2, .pointer (some ⟨b21, 0, none⟩)), (8, .pointer (some ⟨b42, 0, none⟩)), (82, .bool q83)] [Blk b2 131 [.slice A55 r51.2.2.2.f0.length c56, .string r51.2.2.2.f1.f0, .int .u64 r51.2.2.2.f2, .bool r51.2.2.2.f3, .int .u64 r51.2.2.2.f4], Buf k128 128 A55 c56 r51.2.2.2.f0, Blk b21 54 [.int .u64 r14.1.f0, .int .u64 r14.1.f1, .int .u64 r14.1.f2, .int .u64 r14.1.f3, .slice A15 r14.1.f4.length c16], Buf (Kd.int .u8) 5 A15 c16 r14.1.f4, Blk b42 54 [.int .u64 r35.1.f0, .int .u64 r35.1.f1, .int .u64 r35.1.f2, .int .u64 r35.1.f3, .slice A36 r35.1.f4.length c37], Buf (Kd.int .u8) 5 A36 c37 r35.1.f4] e ds As) ?_ ?_
  · by_cases h84 : q80 = true
    · refine RA_yesB rfl rfl rfl rfl (h84) (OA_v (v := .int .i64 r51.2.2.1) rfl (V_move rfl) ?_)
      refine RA_yesB rfl rfl rfl rfl (h84) (OA_v (v := .bool (decide (r51.2.2.1 = 0))) rfl (V_eql rfl rfl) ?_)
      refine RA_step rfl (OA_v rfl (V_pickT rfl (h84) rfl) ?_)
      refine RA_nil ?_
      exact at_normal (St.mk1 (aeq rfl (aeq rfl (aeq rfl (aeq (congrArg Value.bool (and_t hq83 (h84))) aeq0)))) (Gh.sel [0, 1, 2, 3, 4, 5] rfl rfl))
    refine RA_noB rfl rfl rfl rfl (bno h84) rfl ?_
    refine RA_noB rfl rfl rfl rfl (bno h84) rfl ?_
    refine RA_step rfl (OA_v rfl (V_pickF rfl (bno h84) rfl) ?_)
    refine RA_nil ?_
    exact at_normal (St.mk1 (aeq rfl (aeq rfl (aeq rfl (aeq (congrArg Value.bool (and_f hq83 (bno h84))) aeq0)))) (Gh.sel [0, 1, 2, 3, 4, 5] rfl rfl))
  rintro e ds As hst85
  refine RA.of_St rfl hst85 fun junk => ?_
  refine RA_step rfl (OA_v (v := .bool q83) rfl (V_move rfl) ?_)
  obtain ⟨q86, H, Bq86⟩ := g_bind H
  refine RA_cut 4 (fun e ds As => St [(2, .pointer (some ⟨b21, 0, none⟩)), (8, .pointer (some ⟨b42, 0, none⟩)), (87, .bool q86)] [Blk b21 54 [.int .u64 r14.1.f0, .int .u64 r14.1.f1, .int .u64 r14.1.f2, .int .u64 r14.1.f3, .slice A15 r14.1.f4.length c16], Buf (Kd.int .u8) 5 A15 c16 r14.1.f4, Blk b42 54 [.int .u64 r35.1.f0, .int .u64 r35.1.f1, .int .u64 r35.1.f2, .int .u64 r35.1.f3, .slice A36 r35.1.f4.length c37], Buf (Kd.int .u8) 5 A36 c37 r35.1.f4] e ds As) ?_ ?_
  · by_cases h87 : q83 = true
    · replace H := g_ift h87 H
      refine RA_yesB rfl rfl rfl rfl (h87) (OA_v (v := .pointer (some ⟨b2, 0, none⟩)) rfl (V_move rfl) ?_)
      obtain ⟨r88, C92, H⟩ := g_bind H
      refine RA_yesB rfl rfl rfl rfl (h87) (OA_callA [0, 1] [2, 3, 4, 5] rfl (X_fn (vs := [.pointer (some ⟨b2, 0, none⟩), .int .u64 9]) Try.func23 nm23 rfl rfl) rfl (F23b0.ok (b0_ := b2) (A0_0 := A55) (c0_0 := c56) (p0 := r51.2.2.2) (a1 := 9) C92) rfl ?_)
      rintro _ _ ⟨A89, c90, rfl, rfl⟩
      refine RA_yesB rfl rfl rfl rfl (h87) (OA_v (v := .bool (decide (r88.1 = 230))) rfl (V_eql rfl rfl) ?_)
      refine RA_step rfl (OA_v rfl (V_pickT rfl (h87) rfl) ?_)
      have hr_ := Option.some.inj H
      subst hr_
      refine RA_nil ?_
      exact at_normal (St.mk1 (aeq rfl (aeq rfl (aeq rfl aeq0))) (Gh.sel [2, 3, 4, 5] rfl rfl))
    replace H := g_iff h87 H
    refine RA_noB rfl rfl rfl rfl (bno h87) rfl ?_
    refine RA_noB rfl rfl rfl rfl (bno h87) rfl ?_
    refine RA_noB rfl rfl rfl rfl (bno h87) rfl ?_
    refine RA_step rfl (OA_v rfl (V_pickF rfl (bno h87) rfl) ?_)
    have hr_ := Option.some.inj H
    subst hr_
    refine RA_nil ?_
    exact at_normal (St.mk1 (aeq rfl (aeq rfl (aeq rfl aeq0))) (Gh.sel [2, 3, 4, 5] rfl rfl))
  rintro e ds As hst93
  clear H
  have H := Bq86
  clear Bq86
  refine RA.of_St rfl hst93 fun junk => ?_
  refine RA_step rfl (OA_v (v := .bool q86) rfl (V_move rfl) ?_)
  obtain ⟨q94, H, Bq94⟩ := g_bind H
  refine RA_cut 6 (fun e ds As => St [(2, .pointer (some ⟨b21, 0, none⟩)), (8, .pointer (some ⟨b42, 0, none⟩)), (94, .bool q94)] [Blk b21 54 [.int .u64 r14.1.f0, .int .u64 r14.1.f1, .int .u64 r14.1.f2, .int .u64 r14.1.f3, .slice A15 r14.1.f4.length c16], Buf (Kd.int .u8) 5 A15 c16 r14.1.f4, Blk b42 54 [.int .u64 r35.1.f0, .int .u64 r35.1.f1, .int .u64 r35.1.f2, .int .u64 r35.1.f3, .slice A36 r35.1.f4.length c37], Buf (Kd.int .u8) 5 A36 c37 r35.1.f4] e ds As) ?_ ?_
  · by_cases h95 : q86 = true
    · replace H := g_ift h95 H
      refine RA_yesB rfl rfl rfl rfl (h95) (OA_r rfl (VR_loadA_blk (b := b21) (m := 0) (k := 0) (vs := [.int .u64 r14.1.f0, .int .u64 r14.1.f1, .int .u64 r14.1.f2, .int .u64 r14.1.f3, .slice A15 r14.1.f4.length c16]) Try.underlying54 rfl sz54 rfl rfl rfl) ?_)
      refine RA_yesB rfl rfl rfl rfl (h95) (OA_bs (kd := (Kd.int .u8)) (zv := (.int .u8 0)) (sz := 1) (cells := [.int .u8 98]) (xs := ([98] : (List Int))) rfl Try.underlying23 zero5 sz5 rfl rfl rfl (by kernel_rfl) rfl rfl (RL_enc (fun x_ : Int => [Value.int .u8 x_]) (fun _ _ => rfl) (by kernel_rfl)) fun b96 => ?_)
      refine RA_yesB rfl rfl rfl rfl (h95) (OA_bytesConst (k := 4) rfl Try.underlying23 Try.underlying5 rfl (by simp) rfl ?_)
      refine RA_yesB rfl rfl rfl rfl (h95) (OA_v (v := .agg #[.int .u64 0, .int .u64 1, .int .u64 0, .int .u64 0, .slice (some ⟨b96, 0, none⟩) ([98] : (List Int)).length 1]) rfl (V_build (cells := [.int .u64 0, .int .u64 1, .int .u64 0, .int .u64 0, .slice (some ⟨b96, 0, none⟩) ([98] : (List Int)).length 1]) zero54 Try.underlying54 plc54 (by kernel_rfl)) ?_)
      obtain ⟨r98, C99, H⟩ := g_bind H
      refine RA_yesB rfl rfl rfl rfl (h95) (OA_callA [1, 4] [0, 2, 3] rfl (X_fn (vs := [.agg #[.int .u64 r14.1.f0, .int .u64 r14.1.f1, .int .u64 r14.1.f2, .int .u64 r14.1.f3, .slice A15 r14.1.f4.length c16], .agg #[.int .u64 0, .int .u64 1, .int .u64 0, .int .u64 0, .slice (some ⟨b96, 0, none⟩) ([98] : (List Int)).length 1]]) Try.func27 nm27 rfl rfl) rfl (F27b0b1.ok (a0 := r14.1) (A0_0 := A15) (c0_0 := c16) (a1 := (S54.mk 0 1 0 0 ([98] : (List Int)))) (A1_0 := some ⟨b96, 0, none⟩) (c1_0 := 1) C99) rfl ?_)
      rintro _ _ ⟨rfl, rfl⟩
      refine RA_step rfl (OA_v rfl (V_pickT rfl (h95) rfl) ?_)
      have hr_ := Option.some.inj H
      subst hr_
      refine RA_nil ?_
      exact at_normal (St.mk1 (aeq rfl (aeq rfl (aeq rfl aeq0))) (Gh.sel [2, 0, 3, 4] rfl rfl))
    replace H := g_iff h95 H
    refine RA_noB rfl rfl rfl rfl (bno h95) rfl ?_
    refine RA_noB rfl rfl rfl rfl (bno h95) rfl ?_
    refine RA_noB rfl rfl rfl rfl (bno h95) rfl ?_
    refine RA_noB rfl rfl rfl rfl (bno h95) rfl ?_
    refine RA_noB rfl rfl rfl rfl (bno h95) rfl ?_
    refine RA_step rfl (OA_v rfl (V_pickF rfl (bno h95) rfl) ?_)
    have hr_ := Option.some.inj H
    subst hr_
    refine RA_nil ?_
    exact at_normal (St.mk1 (aeq rfl (aeq rfl (aeq rfl aeq0))) (Gh.sel [0, 1, 2, 3] rfl rfl))
  rintro e ds As hst100
  clear H
  have H := Bq94
  clear Bq94
  refine RA.of_St rfl hst100 fun junk => ?_
  refine RA_step rfl (OA_v (v := .bool q94) rfl (V_move rfl) ?_)
  obtain ⟨q101, H, Bq101⟩ := g_bind H
  refine RA_cut 4 (fun e ds As => St [(99, .bool q101)] [] e ds As) ?_ ?_
  · by_cases h102 : q94 = true
    · replace H := g_ift h102 H
      refine RA_yesB rfl rfl rfl rfl (h102) (OA_r rfl (VR_loadA_blk (b := b21) (m := 0) (k := 0) (vs := [.int .u64 r14.1.f0, .int .u64 r14.1.f1, .int .u64 r14.1.f2, .int .u64 r14.1.f3, .slice A15 r14.1.f4.length c16]) Try.underlying54 rfl sz54 rfl rfl rfl) ?_)
      refine RA_yesB rfl rfl rfl rfl (h102) (OA_r rfl (VR_loadA_blk (b := b42) (m := 0) (k := 2) (vs := [.int .u64 r35.1.f0, .int .u64 r35.1.f1, .int .u64 r35.1.f2, .int .u64 r35.1.f3, .slice A36 r35.1.f4.length c37]) Try.underlying54 rfl sz54 rfl rfl rfl) ?_)
      obtain ⟨r103, C104, H⟩ := g_bind H
      refine RA_yesB rfl rfl rfl rfl (h102) (OA_callA [1, 3] [0, 2] rfl (X_fn (vs := [.agg #[.int .u64 r14.1.f0, .int .u64 r14.1.f1, .int .u64 r14.1.f2, .int .u64 r14.1.f3, .slice A15 r14.1.f4.length c16], .agg #[.int .u64 r35.1.f0, .int .u64 r35.1.f1, .int .u64 r35.1.f2, .int .u64 r35.1.f3, .slice A36 r35.1.f4.length c37]]) Try.func27 nm27 rfl rfl) rfl (F27b0b1.ok (a0 := r14.1) (A0_0 := A15) (c0_0 := c16) (a1 := r35.1) (A1_0 := A36) (c1_0 := c37) C104) rfl ?_)
      rintro _ _ ⟨rfl, rfl⟩
      refine RA_step rfl (OA_v rfl (V_pickT rfl (h102) rfl) ?_)
      have hr_ := Option.some.inj H
      subst hr_
      refine RA_nil ?_
      exact at_normal (St.mk1 (aeq rfl aeq0) (Gh.sel [] rfl rfl))
    replace H := g_iff h102 H
    refine RA_noB rfl rfl rfl rfl (bno h102) rfl ?_
    refine RA_noB rfl rfl rfl rfl (bno h102) rfl ?_
    refine RA_noB rfl rfl rfl rfl (bno h102) rfl ?_
    refine RA_step rfl (OA_v rfl (V_pickF rfl (bno h102) rfl) ?_)
    have hr_ := Option.some.inj H
    subst hr_
    refine RA_nil ?_
    exact at_normal (St.mk1 (aeq rfl aeq0) (Gh.sel [] rfl rfl))
  rintro e ds As hst105
  clear H
  have H := Bq101
  clear Bq101
  refine RA.of_St rfl hst105 fun junk => ?_
  refine RA_step rfl (OA_v (v := .bool q101) rfl (V_assign rfl) ?_)
  refine RA_nil ?_
  refine at_normal ?_
  refine SA_ret ?_
  have hr_ := Option.some.inj H
  subst hr_
  exact BQ_R1 [] rfl rfl (Gh.sel [] rfl rfl) ⟨rfl, rfl⟩

/-! ### function 60: (*wayfarer/ssp.Sender[wayfarer/wayfarerlaw23.text]).there -/
def F60n0.f  : Option (Bool) := some (false)
set_option maxHeartbeats 2000000 in
set_option maxRecDepth 100000 in
theorem F60n0.ok  {r : Bool} (H : F60n0.f  = some r) : SCA Try.prog 60 #[.pointer none] [] (fun v B => v = .bool r ∧ B = []) := by
  refine SCA_of_body Try.func60 rfl rfl ?_
  unfold F60n0.f at H
  refine SA_seq ?_
  refine SA_region ?_
  refine RA_step rfl (OA_v (v := .bool false) rfl (V_assign rfl) ?_)
  refine RA_nil ?_
  refine at_normal ?_
  refine SA_seq ?_
  refine SA_region ?_
  refine RA_step rfl (OA_v (v := .pointer none) rfl (V_move rfl) ?_)
  refine RA_step rfl (OA_v (v := .bool false) rfl (V_neqNN Try.underlying38 rfl rfl) ?_)
  refine RA_step rfl (OA_v (v := .bool false) rfl (V_move rfl) ?_)
  refine RA_noB rfl rfl rfl rfl (rfl) rfl ?_
  refine RA_noB rfl rfl rfl rfl (rfl) rfl ?_
  refine RA_noB rfl rfl rfl rfl (rfl) rfl ?_
  refine RA_noB rfl rfl rfl rfl (rfl) rfl ?_
  refine RA_noB rfl rfl rfl rfl (rfl) rfl ?_
  refine RA_noB rfl rfl rfl rfl (rfl) rfl ?_
  refine RA_step rfl (OA_v rfl (V_pickF rfl (rfl) rfl) ?_)
  refine RA_step rfl (OA_v (v := .bool false) rfl (V_assign rfl) ?_)
  refine RA_nil ?_
  refine at_normal ?_
  refine SA_ret ?_
  have hr_ := Option.some.inj H
  subst hr_
  exact BQ_R1 [] rfl rfl (Gh.sel [] rfl rfl) ⟨rfl, rfl⟩

/-! ### function 63: (*wayfarer/ssp.Sender[wayfarer/wayfarerlaw23.text]).due -/
def F63n0.f (a1 : Int) (a2 : Int) (a3 : Int) : Option (Int × (List S128)) := none
set_option maxHeartbeats 2000000 in
set_option maxRecDepth 100000 in
theorem F63n0.ok {a1 : Int} {a2 : Int} {a3 : Int} {r : Int × (List S128)} (H : F63n0.f a1 a2 a3 = some r) : SCA Try.prog 63 #[.pointer none, .int .u64 a1, .int .i64 a2, .int .i64 a3] [] (fun v B => ∃ (A1_0_ : Option Addr) (c1_0_ : Nat), v = .tuple #[.int .i64 r.1, .slice A1_0_ r.2.length c1_0_] ∧ B = [Buf k128 128 A1_0_ c1_0_ r.2]) := by
  refine SCA_of_body Try.func63 rfl rfl ?_
  unfold F63n0.f at H
  refine SA_seq ?_
  refine SA_region ?_
  refine RA_step rfl (OA_v (v := .int .i64 0) rfl (V_assign rfl) ?_)
  refine RA_step rfl (OA_v (v := .slice none 0 0) rfl (V_assign rfl) ?_)
  refine RA_nil ?_
  refine at_normal ?_
  refine SA_seq ?_
  cases H

/-! ### function 25: (*wayfarer/ssp.Sender[wayfarer/wayfarerlaw23.text]).Tick -/
def F25n0.f (a1 : Int) (a2 : Int) (a3 : Int) : Option (S54 × Bool × Int) := (F60n0.f ).bind (fun r3 => if (!r3) = true then (some (((S54.mk 0 0 0 0 ([] : (List Int))), false, 1))) else (lt ((decide (a2 < 0)) || (decide (a3 < 0))) fun q6 => (if q6 = true then (some true) else (none) : Option Bool).bind (fun q9 => if q9 = true then (some (((S54.mk 0 0 0 0 ([] : (List Int))), false, 2))) else ((F63n0.f a1 a2 a3).bind (fun r14 => if r14.1 < 0 then (none) else (if 0 ≤ (0 : Int) ∧ (0 : Int) < (r14.2.length : Int) then (if 0 ≤ r14.1 ∧ r14.1 < (r14.2.length : Int) then ((if r14.1 > 0 then (if 0 ≤ r14.1 ∧ r14.1 < (r14.2.length : Int) then ((F144.f ((rd r14.2 r14.1).f1) ((rd r14.2 (0 : Int)).f1)).bind (fun r1171 => if r1171.2 ≠ 0 then (some (Out.ret (((S54.mk 0 0 0 0 ([] : (List Int))), false, r1171.2)))) else ((F64.f r1171.1).bind (fun r1594 => some (Out.go (S54.mk ((rd r14.2 (0 : Int)).f0) ((rd r14.2 r14.1).f0) 0 ((rd r14.2 (0 : Int)).f0) r1594)))))) else none) else (some (Out.go (S54.mk ((rd r14.2 (0 : Int)).f0) ((rd r14.2 r14.1).f0) 0 ((rd r14.2 (0 : Int)).f0) ([] : (List Int))))) : Option (Out (S54 × Bool × Int) (S54))).bind (fun t684 => Out.el t684 (fun r_ => some r_) (fun s685 => if 0 ≤ r14.1 ∧ r14.1 < (r14.2.length : Int) then (lt (r14.2.set r14.1.toNat (S128.mk ((rd r14.2 r14.1).f0) ((rd r14.2 r14.1).f1) a1)) fun n1603 => (none)) else none))) else none) else none))))))
set_option maxHeartbeats 2000000 in
set_option maxRecDepth 100000 in
theorem F25n0.ok {a1 : Int} {a2 : Int} {a3 : Int} {r : S54 × Bool × Int} (H : F25n0.f a1 a2 a3 = some r) : SCA Try.prog 25 #[.pointer none, .int .u64 a1, .int .i64 a2, .int .i64 a3] [] (fun v B => ∃ (A0_0_ : Option Addr) (c0_0_ : Nat), v = .tuple #[.agg #[.int .u64 r.1.f0, .int .u64 r.1.f1, .int .u64 r.1.f2, .int .u64 r.1.f3, .slice A0_0_ r.1.f4.length c0_0_], .bool r.2.1, .int .i64 r.2.2] ∧ B = [Buf (Kd.int .u8) 5 A0_0_ c0_0_ r.1.f4]) := by
  refine SCA_of_body Try.func25 rfl rfl ?_
  unfold F25n0.f at H
  refine SA_seq ?_
  refine SA_region ?_
  refine RA_step rfl (OA_alloc rfl zero54 fun b1 => ?_)
  refine RA_step rfl (OA_v (v := .bool false) rfl (V_assign rfl) ?_)
  refine RA_step rfl (OA_v (v := .int .i64 0) rfl (V_assign rfl) ?_)
  refine RA_nil ?_
  refine at_normal ?_
  refine SA_seq ?_
  refine SA_block ?_
  refine SA_seq ?_
  refine SA_region ?_
  refine RA_step rfl (OA_v (v := .pointer none) rfl (V_move rfl) ?_)
  obtain ⟨r3, C1605, H⟩ := g_bind H
  refine RA_step rfl (OA_callA [] [0] rfl (X_fn (vs := [.pointer none]) Try.func60 nm60 rfl rfl) rfl (F60n0.ok C1605) rfl ?_)
  rintro _ _ ⟨rfl, rfl⟩
  refine RA_step rfl (OA_v (v := .bool (!r3)) rfl (V_not rfl) ?_)
  refine RA_step rfl (OA_v (v := .bool (!r3)) rfl (V_assign rfl) ?_)
  refine RA_nil ?_
  refine at_normal ?_
  by_cases h4 : (!r3) = true
  · replace H := g_ift h4 H
    refine SA_condTb rfl h4 ?_
    refine SA_seq ?_
    refine SA_region ?_
    refine RA_step rfl (OA_r rfl (VR_loadA_blk (b := b1) (m := 0) (k := 0) (vs := [.int .u64 0, .int .u64 0, .int .u64 0, .int .u64 0, .slice none 0 0]) Try.underlying54 rfl sz54 rfl rfl rfl) ?_)
    refine RA_step rfl (OA_st (b := b1) (m := 0) (k := 0) (vs := [.int .u64 0, .int .u64 0, .int .u64 0, .int .u64 0, .slice none 0 0]) (cs' := [.int .u64 0, .int .u64 0, .int .u64 0, .int .u64 0, .slice none 0 0]) rfl rfl rfl rfl rfl rfl sz54 rfl rfl ?_)
    refine RA_step rfl (OA_v (v := .bool false) rfl (V_assign rfl) ?_)
    refine RA_step rfl (OA_v (v := .int .i64 1) rfl (V_assign rfl) ?_)
    refine RA_nil ?_
    refine at_normal ?_
    refine SA_ret ?_
    refine inb_ret ?_
    refine thn_ret ?_
    have hr_ := Option.some.inj H
    subst hr_
    exact BQ_RL (rs := [.cell 8 54, .tmp 9, .tmp 10]) (vs := [.agg #[.int .u64 0, .int .u64 0, .int .u64 0, .int .u64 0, .slice none 0 0], .bool false, .int .i64 1]) [Buf (Kd.int .u8) 5 none 0 ([] : (List Int))] rfl ⟨RV.cell (k := 0) rfl rfl Try.underlying54 rfl sz54, RV.tmp rfl, RV.tmp rfl, trivial⟩ rfl ((Gh.nilBuf (Kd.int .u8) 5).trans (Gh.sel [1] rfl rfl)) ⟨none, 0, rfl, rfl⟩
  replace H := g_iff h4 H
  refine SA_condFb rfl h4 ?_
  refine SA_seq ?_
  refine SA_region ?_
  refine RA_step rfl (OA_v (v := .int .i64 a2) rfl (V_move rfl) ?_)
  refine RA_step rfl (OA_v (v := .bool (decide (a2 < 0))) rfl (V_lss rfl rfl) ?_)
  refine RA_step rfl (OA_v (v := .bool (decide (a2 < 0))) rfl (V_move rfl) ?_)
  obtain ⟨q6, hq6, H⟩ := g_lt H
  refine RA_cut 3 (fun e ds As => St [(0, .pointer none), (1, .int .u64 a1), (2, .int .i64 a2), (3, .int .i64 a3), (8, .pointer (some ⟨b1, 0, none⟩)), (25, .bool q6)] [Blk b1 54 [.int .u64 0, .int .u64 0, .int .u64 0, .int .u64 0, .slice none 0 0]] e ds As) ?_ ?_
  · by_cases h7 : a2 < 0
    · refine RA_noB rfl rfl rfl rfl (dec_t h7) rfl ?_
      refine RA_noB rfl rfl rfl rfl (dec_t h7) rfl ?_
      refine RA_step rfl (OA_v rfl (V_pickT rfl (dec_t h7) rfl) ?_)
      refine RA_nil ?_
      exact at_normal (St.mk1 (aeq rfl (aeq rfl (aeq rfl (aeq rfl (aeq rfl (aeq (congrArg Value.bool (or_t hq6 (dec_t h7))) aeq0)))))) (Gh.sel [0] rfl rfl))
    refine RA_yesB rfl rfl rfl rfl (dec_f h7) (OA_v (v := .int .i64 a3) rfl (V_move rfl) ?_)
    refine RA_yesB rfl rfl rfl rfl (dec_f h7) (OA_v (v := .bool (decide (a3 < 0))) rfl (V_lss rfl rfl) ?_)
    refine RA_step rfl (OA_v rfl (V_pickF rfl (dec_f h7) rfl) ?_)
    refine RA_nil ?_
    exact at_normal (St.mk1 (aeq rfl (aeq rfl (aeq rfl (aeq rfl (aeq rfl (aeq (congrArg Value.bool (or_f hq6 (dec_f h7))) aeq0)))))) (Gh.sel [0] rfl rfl))
  rintro e ds As hst8
  refine RA.of_St rfl hst8 fun junk => ?_
  refine RA_step rfl (OA_v (v := .bool q6) rfl (V_move rfl) ?_)
  obtain ⟨q9, H, Bq9⟩ := g_bind H
  refine RA_cut 7 (fun e ds As => St [(0, .pointer none), (1, .int .u64 a1), (2, .int .i64 a2), (3, .int .i64 a3), (8, .pointer (some ⟨b1, 0, none⟩)), (33, .bool q9)] [Blk b1 54 [.int .u64 0, .int .u64 0, .int .u64 0, .int .u64 0, .slice none 0 0]] e ds As) ?_ ?_
  · by_cases h10 : q6 = true
    · replace H := g_ift h10 H
      refine RA_noB rfl rfl rfl rfl (h10) rfl ?_
      refine RA_noB rfl rfl rfl rfl (h10) rfl ?_
      refine RA_noB rfl rfl rfl rfl (h10) rfl ?_
      refine RA_noB rfl rfl rfl rfl (h10) rfl ?_
      refine RA_noB rfl rfl rfl rfl (h10) rfl ?_
      refine RA_noB rfl rfl rfl rfl (h10) rfl ?_
      refine RA_step rfl (OA_v rfl (V_pickT rfl (h10) rfl) ?_)
      have hr_ := Option.some.inj H
      subst hr_
      refine RA_nil ?_
      exact at_normal (St.mk1 (aeq rfl (aeq rfl (aeq rfl (aeq rfl (aeq rfl (aeq rfl aeq0)))))) (Gh.sel [0] rfl rfl))
    replace H := g_iff h10 H
    refine RA_yesB rfl rfl rfl rfl (bno h10) (OA_v (v := .int .u64 a1) rfl (V_move rfl) ?_)
    refine RA_yesB rfl rfl rfl rfl (bno h10) (OA_v (v := .pointer none) rfl (V_move rfl) ?_)
    cases H
  rintro e ds As hst11
  clear H
  have H := Bq9
  clear Bq9
  refine RA.of_St rfl hst11 fun junk => ?_
  refine RA_step rfl (OA_v (v := .bool q9) rfl (V_assign rfl) ?_)
  refine RA_nil ?_
  refine at_normal ?_
  by_cases h12 : q9 = true
  · replace H := g_ift h12 H
    refine SA_condTb rfl h12 ?_
    refine SA_seq ?_
    refine SA_region ?_
    refine RA_step rfl (OA_r rfl (VR_loadA_blk (b := b1) (m := 0) (k := 0) (vs := [.int .u64 0, .int .u64 0, .int .u64 0, .int .u64 0, .slice none 0 0]) Try.underlying54 rfl sz54 rfl rfl rfl) ?_)
    refine RA_step rfl (OA_st (b := b1) (m := 0) (k := 0) (vs := [.int .u64 0, .int .u64 0, .int .u64 0, .int .u64 0, .slice none 0 0]) (cs' := [.int .u64 0, .int .u64 0, .int .u64 0, .int .u64 0, .slice none 0 0]) rfl rfl rfl rfl rfl rfl sz54 rfl rfl ?_)
    refine RA_step rfl (OA_v (v := .bool false) rfl (V_assign rfl) ?_)
    refine RA_step rfl (OA_v (v := .int .i64 2) rfl (V_assign rfl) ?_)
    refine RA_nil ?_
    refine at_normal ?_
    refine SA_ret ?_
    refine inb_ret ?_
    refine thn_ret ?_
    have hr_ := Option.some.inj H
    subst hr_
    exact BQ_RL (rs := [.cell 8 54, .tmp 9, .tmp 10]) (vs := [.agg #[.int .u64 0, .int .u64 0, .int .u64 0, .int .u64 0, .slice none 0 0], .bool false, .int .i64 2]) [Buf (Kd.int .u8) 5 none 0 ([] : (List Int))] rfl ⟨RV.cell (k := 0) rfl rfl Try.underlying54 rfl sz54, RV.tmp rfl, RV.tmp rfl, trivial⟩ rfl ((Gh.nilBuf (Kd.int .u8) 5).trans (Gh.sel [1] rfl rfl)) ⟨none, 0, rfl, rfl⟩
  replace H := g_iff h12 H
  refine SA_condFb rfl h12 ?_
  refine SA_skip ?_
  refine inb_normal ?_
  refine at_normal ?_
  refine SA_seq ?_
  refine SA_region ?_
  refine RA_step rfl (OA_v (v := .pointer none) rfl (V_move rfl) ?_)
  refine RA_step rfl (OA_v (v := .int .u64 a1) rfl (V_move rfl) ?_)
  refine RA_step rfl (OA_v (v := .int .i64 a2) rfl (V_move rfl) ?_)
  refine RA_step rfl (OA_v (v := .int .i64 a3) rfl (V_move rfl) ?_)
  obtain ⟨r14, C1604, H⟩ := g_bind H
  refine RA_step rfl (OA_callA [] [0] rfl (X_fn (vs := [.pointer none, .int .u64 a1, .int .i64 a2, .int .i64 a3]) Try.func63 nm63 rfl rfl) rfl (F63n0.ok (a1 := a1) (a2 := a2) (a3 := a3) C1604) rfl ?_)
  rintro _ _ ⟨A15, c16, rfl, rfl⟩
  refine RA_step rfl (OA_v (v := .tuple #[.int .i64 r14.1, .slice A15 r14.2.length c16]) rfl (V_move rfl) ?_)
  refine RA_step rfl (OA_v (v := .int .i64 r14.1) rfl (V_extract rfl rfl) ?_)
  refine RA_step rfl (OA_v (v := .slice A15 r14.2.length c16) rfl (V_extract rfl rfl) ?_)
  refine RA_step rfl (OA_v (v := .int .i64 r14.1) rfl (V_assign rfl) ?_)
  refine RA_step rfl (OA_v (v := .slice A15 r14.2.length c16) rfl (V_assign rfl) ?_)
  refine RA_nil ?_
  refine at_normal ?_
  refine SA_seq ?_
  refine SA_seq ?_
  refine SA_region ?_
  refine RA_step rfl (OA_v (v := .int .i64 r14.1) rfl (V_move rfl) ?_)
  refine RA_step rfl (OA_v (v := .bool (decide (r14.1 < 0))) rfl (V_lss rfl rfl) ?_)
  refine RA_nil ?_
  refine at_normal ?_
  by_cases h18 : r14.1 < 0
  · replace H := g_ift h18 H
    refine SA_condT rfl h18 ?_
    refine SA_seq ?_
    refine SA_region ?_
    refine RA_step rfl (OA_v (v := .pointer none) rfl (V_move rfl) ?_)
    refine RA_step rfl (OA_v (v := .int .u64 a1) rfl (V_move rfl) ?_)
    cases H
  replace H := g_iff h18 H
  refine SA_condF rfl h18 ?_
  refine SA_skip ?_
  refine at_normal ?_
  refine SA_seq ?_
  refine SA_region ?_
  refine RA_step rfl (OA_v (v := .slice A15 r14.2.length c16) rfl (V_move rfl) ?_)
  obtain ⟨⟨g19, g20⟩, H⟩ := g_pos H
  refine RA_step rfl (OA_r rfl (VR_index (i := (0 : Int)) Try.underlying129 sz128 rfl rfl (Src.buf (k := 0) rfl) g19 g20) ?_)
  refine RA_step rfl (OA_r rfl (VR_loadA_el (enc := enc128) (i := (0 : Int)) (j := (0 : Int).toNat * 3) (m := 0) (sz := 3) (vs := [.int .u64 ((rd r14.2 (0 : Int)).f0), .string (((rd r14.2 (0 : Int)).f1).f0), .int .u64 ((rd r14.2 (0 : Int)).f2)]) Try.underlying128 rfl sz128 rfl rfl rfl (Src.buf (k := 0) rfl) g19 g20 (fun _ _ h => h) rfl) ?_)
  refine RA_step rfl (OA_alloc rfl zero128 fun b21 => ?_)
  refine RA_step rfl (OA_st (b := b21) (m := 0) (k := 2) (vs := [.int .u64 ((rd r14.2 (0 : Int)).f0), .string (((rd r14.2 (0 : Int)).f1).f0), .int .u64 ((rd r14.2 (0 : Int)).f2)]) (cs' := [.int .u64 ((rd r14.2 (0 : Int)).f0), .string (((rd r14.2 (0 : Int)).f1).f0), .int .u64 ((rd r14.2 (0 : Int)).f2)]) rfl rfl rfl rfl rfl rfl sz128 rfl rfl ?_)
  refine RA_nil ?_
  refine at_normal ?_
  refine SA_seq ?_
  refine SA_drawHq [0, 1, 2, 3, 4, 5, 6, 7, 8, 9] #[[], [0], [], [], [2, 3], [2, 3, 4], [2, 3, 4, 5], [], [7], [0, 1, 2, 3, 4, 5, 6, 7, 8], [0, 1, 2, 3, 4, 5, 6, 7, 8, 9]] [0, 2] [1] mixed rfl rfl rfl (PanOk.thn PanOk.body) fun I0 hS h0 hh0 w0 sH dd pk => ?_
  refine DH_take (v := .pointer (some ⟨b21, 0, none⟩)) 0 (by kernel_rfl) rfl rfl (.no rfl) pk sH rfl (VR.ofV (V_fieldAddrN (B := ⟨b21, 0, none⟩) (m := 0) (o := 0) Try.underlying128 rfl nz44 rfl rfl)) ?_
  refine DH_take 1 (by kernel_rfl) rfl rfl (.no rfl) pk sH rfl (VR_load_blk (b := b21) (m := 0) (k := 1) Try.underlying44 rfl rfl rfl rfl) ?_
  refine DH_take (v := .slice A15 r14.2.length c16) 2 (by kernel_rfl) rfl rfl (.no rfl) pk sH rfl (VR.ofV (V_move rfl)) ?_
  refine DH_take (v := .int .i64 r14.1) 3 (by kernel_rfl) rfl rfl (.no rfl) pk sH rfl (VR.ofV (V_move rfl)) ?_
  obtain ⟨⟨g263, g264⟩, H⟩ := g_pos H
  refine DH_take 4 (by kernel_rfl) rfl rfl (.no rfl) pk sH rfl (VR_index (i := r14.1) Try.underlying129 sz128 rfl rfl (Src.buf (k := 0) rfl) g263 g264) ?_
  refine DH_take (v := .pointer (some ((el A15 (r14.1.toNat * 3)).add 0))) 5 (by kernel_rfl) rfl rfl (.no rfl) pk sH rfl (VR.ofV (V_fieldAddrN (B := el A15 (r14.1.toNat * 3)) (m := 0) (o := 0) Try.underlying128 rfl nz44 rfl rfl)) ?_
  refine DH_take 6 (by kernel_rfl) rfl rfl (.no rfl) pk sH rfl (VR_load_el (enc := enc128) (i := r14.1) (j := r14.1.toNat * 3) (m := 0) (sz := 3) Try.underlying44 rfl rfl rfl rfl (Src.buf (k := 0) rfl) g263 g264 (fun _ _ h => h) rfl) ?_
  refine DH_take (v := .pointer (some ⟨b21, 0, none⟩)) 7 (by kernel_rfl) rfl rfl (.no rfl) pk sH rfl (VR.ofV (V_fieldAddrN (B := ⟨b21, 0, none⟩) (m := 0) (o := 0) Try.underlying128 rfl nz44 rfl rfl)) ?_
  refine DH_take 8 (by kernel_rfl) rfl rfl (.no rfl) pk sH rfl (VR_load_blk (b := b21) (m := 0) (k := 1) Try.underlying44 rfl rfl rfl rfl) ?_
  refine DH_take (v := .agg #[.int .u64 ((rd r14.2 (0 : Int)).f0), .int .u64 ((rd r14.2 r14.1).f0), .int .u64 0, .int .u64 ((rd r14.2 (0 : Int)).f0), .slice none 0 0]) 9 (by kernel_rfl) rfl rfl (.no rfl) pk sH rfl (VR.ofV (V_build (cells := [.int .u64 ((rd r14.2 (0 : Int)).f0), .int .u64 ((rd r14.2 r14.1).f0), .int .u64 0, .int .u64 ((rd r14.2 (0 : Int)).f0), .slice none 0 0]) zero54 Try.underlying54 plc54 (by kernel_rfl))) ?_
  refine DH_one 10 dd (by kernel_rfl) rfl (.no rfl) (OA_st (b := b1) (m := 0) (k := 0) (vs := [.int .u64 ((rd r14.2 (0 : Int)).f0), .int .u64 ((rd r14.2 r14.1).f0), .int .u64 0, .int .u64 ((rd r14.2 (0 : Int)).f0), .slice none 0 0]) (cs' := [.int .u64 ((rd r14.2 (0 : Int)).f0), .int .u64 ((rd r14.2 r14.1).f0), .int .u64 0, .int .u64 ((rd r14.2 (0 : Int)).f0), .slice none 0 0]) rfl rfl rfl rfl rfl rfl sz54 rfl rfl ?_)
  refine DH_open dd sH ?_
  refine DN_done (by kernel_rfl) ?_
  refine at_normal ?_
  refine SA.of_St (l := [(0, .pointer none), (1, .int .u64 a1), (8, .pointer (some ⟨b1, 0, none⟩)), (11, .int .i64 r14.1), (12, .slice A15 r14.2.length c16), (13, .pointer (some ⟨b21, 0, none⟩))]) (B := [Blk b1 54 [.int .u64 ((rd r14.2 (0 : Int)).f0), .int .u64 ((rd r14.2 r14.1).f0), .int .u64 0, .int .u64 ((rd r14.2 (0 : Int)).f0), .slice none 0 0], Buf k128 128 A15 c16 r14.2, Blk b21 128 [.int .u64 ((rd r14.2 (0 : Int)).f0), .string (((rd r14.2 (0 : Int)).f1).f0), .int .u64 ((rd r14.2 (0 : Int)).f2)]]) (St.mk1 (aeq rfl (aeq rfl (aeq rfl (aeq rfl (aeq rfl (aeq rfl aeq0)))))) (Gh.sel [2, 0, 1] (by kernel_rfl) (by kernel_rfl))) fun junk => ?_
  refine SA_seq ?_
  refine SA_seq ?_
  refine SA_region ?_
  refine RA_step rfl (OA_v (v := .int .i64 r14.1) rfl (V_move rfl) ?_)
  refine RA_step rfl (OA_v (v := .bool (decide (r14.1 > 0))) rfl (V_gtr rfl rfl) ?_)
  refine RA_nil ?_
  refine at_normal ?_
  obtain ⟨t684, H, Bt684⟩ := g_bind H
  refine SA_mid (fun e ds As => ∃ (s685 : S54), t684 = Out.go s685 ∧ ∃ (b686 : Nat), ∃ (A687 : Option Addr) (c688 : Nat), St [(0, .pointer none), (1, .int .u64 a1), (8, .pointer (some ⟨b686, 0, none⟩)), (11, .int .i64 r14.1), (12, .slice A15 r14.2.length c16)] [Blk b686 54 [.int .u64 s685.f0, .int .u64 s685.f1, .int .u64 s685.f2, .int .u64 s685.f3, .slice A687 s685.f4.length c688], Buf (Kd.int .u8) 5 A687 c688 s685.f4, Buf k128 128 A15 c16 r14.2] e ds As) ?_ ?_
  · by_cases h690 : r14.1 > 0
    · replace H := g_ift h690 H
      refine SA_condT rfl h690 ?_
      refine SA_seq ?_
      refine SA_seq ?_
      refine SA_drawHq (0 :: 1 :: 2 :: 3 :: 4 :: 5 :: 6 :: 7 :: 9 :: 10 :: 11 :: 12 :: 14 :: []) (List.toArray ([] :: [] :: [0, 1] :: [0, 1, 2] :: [0, 1, 2, 3] :: [0, 1, 2, 3, 4] :: [] :: [6] :: [0, 1, 2, 3, 4, 5, 6, 7] :: [0, 1, 2, 3, 4, 5, 6, 7] :: [0, 1, 2, 3, 4, 5, 6, 7, 9] :: [0, 1, 2, 3, 4, 5, 6, 7, 9] :: [0, 1, 2, 3, 4, 5, 6, 7, 9, 10] :: [0, 1, 2, 3, 4, 5, 6, 7, 9, 10, 12] :: [0, 1, 2, 3, 4, 5, 6, 7, 9, 10, 11, 12] :: [])) [1, 2] [0] mixed rfl rfl rfl (PanOk.thn (PanOk.thn (PanOk.thn (PanOk.thn PanOk.body)))) fun I0 hS h0 hh0 w0 sH dd pk => ?_
      refine DH_take (v := .slice A15 r14.2.length c16) 0 (by kernel_rfl) rfl rfl (.no rfl) pk sH rfl (VR.ofV (V_move rfl)) ?_
      refine DH_take (v := .int .i64 r14.1) 1 (by kernel_rfl) rfl rfl (.no rfl) pk sH rfl (VR.ofV (V_move rfl)) ?_
      obtain ⟨⟨g811, g812⟩, H⟩ := g_pos H
      refine DH_take 2 (by kernel_rfl) rfl rfl (.no rfl) pk sH rfl (VR_index (i := r14.1) Try.underlying129 sz128 rfl rfl (Src.buf (k := 0) rfl) g811 g812) ?_
      refine DH_take (v := .pointer (some ((el A15 (r14.1.toNat * 3)).add 1))) 3 (by kernel_rfl) rfl rfl (.no rfl) pk sH rfl (VR.ofV (V_fieldAddrN (B := el A15 (r14.1.toNat * 3)) (m := 0) (o := 1) Try.underlying128 rfl nz41 rfl rfl)) ?_
      refine DH_take 4 (by kernel_rfl) rfl rfl (.no rfl) pk sH rfl (VR_loadA_el (enc := enc128) (i := r14.1) (j := r14.1.toNat * 3) (m := 1) (sz := 3) (vs := [.string (((rd r14.2 r14.1).f1).f0)]) Try.underlying41 rfl sz41 rfl rfl rfl (Src.buf (k := 0) rfl) g811 g812 (fun _ _ h => h) rfl) ?_
      refine DH_take (v := .iface 41 (.agg #[.string (((rd r14.2 r14.1).f1).f0)])) 5 (by kernel_rfl) rfl rfl (.no rfl) pk sH rfl (VR.ofV (V_iface con41 rfl)) ?_
      refine DH_take (v := .pointer (some ((⟨b21, 0, none⟩ : Addr).add 1))) 6 (by kernel_rfl) rfl rfl (.no rfl) pk sH rfl (VR.ofV (V_fieldAddrN (B := ⟨b21, 0, none⟩) (m := 0) (o := 1) Try.underlying128 rfl nz41 rfl rfl)) ?_
      refine DH_take 7 (by kernel_rfl) rfl rfl (.no rfl) pk sH rfl (VR_loadA_blk (b := b21) (m := 1) (k := 1) (vs := [.string (((rd r14.2 (0 : Int)).f1).f0)]) Try.underlying41 rfl sz41 rfl rfl rfl) ?_
      obtain ⟨r1171, C1175, H⟩ := g_bind H
      refine DH_one 8 dd (by kernel_rfl) rfl (.no rfl) (OA_callA [] [0] rfl (X_inv (vs := [.agg #[.string (((rd r14.2 (0 : Int)).f1).f0)]]) rfl met41_144 Try.func144 nm144 rfl rfl) rfl (F144.ok (a0 := ((rd r14.2 r14.1).f1)) (a1 := ((rd r14.2 (0 : Int)).f1)) C1175) rfl ?_)
      rintro _ _ ⟨A1172, c1173, rfl, rfl⟩
      refine DH_take (v := .tuple #[.slice A1172 r1171.1.length c1173, .int .i64 r1171.2]) 9 (by kernel_rfl) rfl rfl (.no rfl) pk sH rfl (VR.ofV (V_move rfl)) ?_
      refine DH_take (v := .slice A1172 r1171.1.length c1173) 10 (by kernel_rfl) rfl rfl (.no rfl) pk sH rfl (VR.ofV (V_extract rfl rfl)) ?_
      refine DH_take (v := .int .i64 r1171.2) 11 (by kernel_rfl) rfl rfl (.no rfl) pk sH rfl (VR.ofV (V_extract rfl rfl)) ?_
      refine DH_take (v := .pointer (some ((⟨b1, 0, none⟩ : Addr).add 4))) 12 (by kernel_rfl) rfl rfl (.no rfl) pk sH rfl (VR.ofV (V_fieldAddrN (B := ⟨b1, 0, none⟩) (m := 0) (o := 4) Try.underlying54 rfl nz23 rfl rfl)) ?_
      refine DH_one 13 dd (by kernel_rfl) rfl (.no rfl) (OA_st (b := b1) (m := 4) (k := 1) (vs := [.slice A1172 r1171.1.length c1173]) (cs' := [.int .u64 ((rd r14.2 (0 : Int)).f0), .int .u64 ((rd r14.2 r14.1).f0), .int .u64 0, .int .u64 ((rd r14.2 (0 : Int)).f0), .slice A1172 r1171.1.length c1173]) rfl rfl rfl rfl rfl rfl sz23 rfl rfl ?_)
      refine DH_take (v := .int .i64 r1171.2) 14 (by kernel_rfl) rfl rfl (.no rfl) pk sH rfl (VR.ofV (V_assign rfl)) ?_
      refine DH_open dd sH ?_
      refine DN_done (by kernel_rfl) ?_
      refine at_normal ?_
      refine SA_seq ?_
      refine SA_region ?_
      refine RA_step rfl (OA_v (v := .int .i64 r1171.2) rfl (V_move rfl) ?_)
      refine RA_step rfl (OA_v (v := .bool (decide (r1171.2 ≠ 0))) rfl (V_neq rfl rfl) ?_)
      refine RA_nil ?_
      refine at_normal ?_
      by_cases h1592 : r1171.2 ≠ 0
      · replace H := g_ift h1592 H
        refine SA_condT rfl h1592 ?_
        refine SA_seq ?_
        refine SA_region ?_
        refine RA_step rfl (OA_v (v := .agg #[.int .u64 0, .int .u64 0, .int .u64 0, .int .u64 0, .slice none 0 0]) rfl (V_build (cells := [.int .u64 0, .int .u64 0, .int .u64 0, .int .u64 0, .slice none 0 0]) zero54 Try.underlying54 plc54 (by kernel_rfl)) ?_)
        refine RA_step rfl (OA_v (v := .int .i64 r1171.2) rfl (V_move rfl) ?_)
        refine RA_step rfl (OA_st (b := b1) (m := 0) (k := 3) (vs := [.int .u64 0, .int .u64 0, .int .u64 0, .int .u64 0, .slice none 0 0]) (cs' := [.int .u64 0, .int .u64 0, .int .u64 0, .int .u64 0, .slice none 0 0]) rfl rfl rfl rfl rfl rfl sz54 rfl rfl ?_)
        refine RA_step rfl (OA_v (v := .bool false) rfl (V_assign rfl) ?_)
        refine RA_step rfl (OA_v (v := .int .i64 r1171.2) rfl (V_assign rfl) ?_)
        refine RA_nil ?_
        refine at_normal ?_
        refine SA_ret ?_
        refine thn_ret ?_
        refine thn_ret ?_
        refine thn_ret ?_
        have hr_ := Option.some.inj H
        subst hr_
        have hb_ := el_ret Bt684
        have hr_ := Option.some.inj hb_
        clear hb_
        subst hr_
        exact BQ_RL (rs := [.cell 8 54, .tmp 9, .tmp 10]) (vs := [.agg #[.int .u64 0, .int .u64 0, .int .u64 0, .int .u64 0, .slice none 0 0], .bool false, .int .i64 r1171.2]) [Buf (Kd.int .u8) 5 none 0 ([] : (List Int))] rfl ⟨RV.cell (k := 3) rfl rfl Try.underlying54 rfl sz54, RV.tmp rfl, RV.tmp rfl, trivial⟩ rfl ((Gh.nilBuf (Kd.int .u8) 5).trans (Gh.sel [4] rfl rfl)) ⟨none, 0, rfl, rfl⟩
      replace H := g_iff h1592 H
      refine SA_condF rfl h1592 ?_
      refine SA_skip ?_
      refine at_normal ?_
      refine SA_region ?_
      refine RA_step rfl (OA_v (v := .pointer (some ((⟨b1, 0, none⟩ : Addr).add 4))) rfl (V_fieldAddrN (B := ⟨b1, 0, none⟩) (m := 0) (o := 4) Try.underlying54 rfl nz23 rfl rfl) ?_)
      refine RA_step rfl (OA_r rfl (VR_load_blk (b := b1) (m := 4) (k := 3) Try.underlying23 rfl rfl rfl rfl) ?_)
      obtain ⟨r1594, C1598, H⟩ := g_bind H
      refine RA_step rfl (OA.ghost (Gh.freeze (k := 2) rfl) (OA_callA [2] [0, 1, 2, 3] rfl (X_fn (vs := [.slice A1172 r1171.1.length c1173]) Try.func64 nm64 rfl rfl) rfl (F64.ok (l0 := r1171.1) (A0 := A1172) (c0 := c1173) C1598) rfl ?_))
      rintro _ _ ⟨A1595, c1596, rfl, rfl⟩
      refine RA_step rfl (OA_v (v := .pointer (some ((⟨b1, 0, none⟩ : Addr).add 4))) rfl (V_fieldAddrN (B := ⟨b1, 0, none⟩) (m := 0) (o := 4) Try.underlying54 rfl nz23 rfl rfl) ?_)
      refine RA_step rfl (OA_st (b := b1) (m := 4) (k := 4) (vs := [.slice A1595 r1594.length c1596]) (cs' := [.int .u64 ((rd r14.2 (0 : Int)).f0), .int .u64 ((rd r14.2 r14.1).f0), .int .u64 0, .int .u64 ((rd r14.2 (0 : Int)).f0), .slice A1595 r1594.length c1596]) rfl rfl rfl rfl rfl rfl sz23 rfl rfl ?_)
      refine RA_nil ?_
      have hr_ := Option.some.inj H
      subst hr_
      exact at_normal ⟨(S54.mk ((rd r14.2 (0 : Int)).f0) ((rd r14.2 r14.1).f0) 0 ((rd r14.2 (0 : Int)).f0) r1594), rfl, b1, A1595, c1596, St.mk1 (aeq rfl (aeq rfl (aeq rfl (aeq rfl (aeq rfl aeq0))))) (Gh.sel [4, 0, 1] rfl rfl)⟩
    replace H := g_iff h690 H
    refine SA_condF rfl h690 ?_
    refine SA_skip ?_
    have hr_ := Option.some.inj H
    subst hr_
    exact at_normal ⟨(S54.mk ((rd r14.2 (0 : Int)).f0) ((rd r14.2 r14.1).f0) 0 ((rd r14.2 (0 : Int)).f0) ([] : (List Int))), rfl, b1, none, 0, St.mk1 (aeq rfl (aeq rfl (aeq rfl (aeq rfl (aeq rfl aeq0))))) ((Gh.nilBuf (Kd.int .u8) 5).trans (Gh.sel [0, 3, 1] rfl rfl))⟩
  rintro e ds As ⟨s685, ht, b686, A687, c688, hst1600⟩
  clear H
  subst ht
  replace Bt684 := el_go Bt684
  have H := Bt684
  clear Bt684
  refine at_normal ?_
  refine SA.of_St hst1600 fun junk => ?_
  refine SA_seq ?_
  refine SA_region ?_
  refine RA_step rfl (OA_v (v := .slice A15 r14.2.length c16) rfl (V_move rfl) ?_)
  refine RA_step rfl (OA_v (v := .int .i64 r14.1) rfl (V_move rfl) ?_)
  refine RA_step rfl (OA_v (v := .int .u64 a1) rfl (V_move rfl) ?_)
  obtain ⟨⟨g1601, g1602⟩, H⟩ := g_pos H
  refine RA_step rfl (OA_r rfl (VR_index (i := r14.1) Try.underlying129 sz128 rfl rfl (Src.buf (k := 2) rfl) g1601 g1602) ?_)
  refine RA_step rfl (OA_v (v := .pointer (some ((el A15 (r14.1.toNat * 3)).add 2))) rfl (V_fieldAddrN (B := el A15 (r14.1.toNat * 3)) (m := 0) (o := 2) Try.underlying128 rfl nz44 rfl rfl) ?_)
  obtain ⟨n1603, hn1603, H⟩ := g_lt H
  have hl_n1603 : n1603.length = r14.2.length := by rw [hn1603]; exact List.length_set
  refine RA_step rfl (OA_stEl (k := 2) (i := r14.1) (j := r14.1.toNat * 3) (m := 2) (sz := 3) (xs := r14.2) (vs := [.int .u64 a1]) (S128.mk ((rd r14.2 r14.1).f0) ((rd r14.2 r14.1).f1) a1) rfl rfl rfl rfl rfl rfl rfl rfl sz44 g1601 g1602 rfl (fun _ _ h_ => by subst h_; rfl) ?_)
  rewrite [← hn1603]
  try rewrite [← hl_n1603]
  refine RA_nil ?_
  refine at_normal ?_
  refine SA_seq ?_
  refine SA_region ?_
  refine RA_step rfl (OA_v (v := .pointer none) rfl (V_move rfl) ?_)
  refine RA_step rfl (OA_v (v := .pointer none) rfl (V_move rfl) ?_)
  refine RA_step rfl (OA_v (v := .pointer none) rfl (V_move rfl) ?_)
  refine RA_step rfl (OA_v (v := .pointer none) rfl (V_move rfl) ?_)
  refine RA_step rfl (OA_v (v := .slice A15 n1603.length c16) rfl (V_move rfl) ?_)
  refine RA_step rfl (OA_v (v := .int .u64 a1) rfl (V_move rfl) ?_)
  refine RA_step rfl (OA_v (v := .int .u64 a1) rfl (V_move rfl) ?_)
  cases H

/-! ### function 28: (*wayfarer/ssp.Sender[wayfarer/wayfarerlaw23.text]).Told -/
def F28n0.f  : Option (Int × Int × Int) := (F60n0.f ).bind (fun r1 => if (!r1) = true then (some ((0, 0, 0))) else (none))
set_option maxHeartbeats 2000000 in
set_option maxRecDepth 100000 in
theorem F28n0.ok  {r : Int × Int × Int} (H : F28n0.f  = some r) : SCA Try.prog 28 #[.pointer none] [] (fun v B => v = .tuple #[.int .u64 r.1, .int .u64 r.2.1, .int .i64 r.2.2] ∧ B = []) := by
  refine SCA_of_body Try.func28 rfl rfl ?_
  unfold F28n0.f at H
  refine SA_seq ?_
  refine SA_region ?_
  refine RA_step rfl (OA_v (v := .int .u64 0) rfl (V_assign rfl) ?_)
  refine RA_step rfl (OA_v (v := .int .u64 0) rfl (V_assign rfl) ?_)
  refine RA_step rfl (OA_v (v := .int .i64 0) rfl (V_assign rfl) ?_)
  refine RA_nil ?_
  refine at_normal ?_
  refine SA_seq ?_
  refine SA_seq ?_
  refine SA_region ?_
  refine RA_step rfl (OA_v (v := .pointer none) rfl (V_move rfl) ?_)
  obtain ⟨r1, C3, H⟩ := g_bind H
  refine RA_step rfl (OA_callA [] [] rfl (X_fn (vs := [.pointer none]) Try.func60 nm60 rfl rfl) rfl (F60n0.ok C3) rfl ?_)
  rintro _ _ ⟨rfl, rfl⟩
  refine RA_step rfl (OA_v (v := .bool (!r1)) rfl (V_not rfl) ?_)
  refine RA_nil ?_
  refine at_normal ?_
  by_cases h2 : (!r1) = true
  · replace H := g_ift h2 H
    refine SA_condTb rfl h2 ?_
    refine SA_seq ?_
    refine SA_region ?_
    refine RA_step rfl (OA_v (v := .int .u64 0) rfl (V_assign rfl) ?_)
    refine RA_step rfl (OA_v (v := .int .u64 0) rfl (V_assign rfl) ?_)
    refine RA_step rfl (OA_v (v := .int .i64 0) rfl (V_assign rfl) ?_)
    refine RA_nil ?_
    refine at_normal ?_
    refine SA_ret ?_
    refine thn_ret ?_
    have hr_ := Option.some.inj H
    subst hr_
    exact BQ_R3 [] rfl rfl rfl rfl (Gh.sel [] rfl rfl) ⟨rfl, rfl⟩
  replace H := g_iff h2 H
  refine SA_condFb rfl h2 ?_
  refine SA_skip ?_
  refine at_normal ?_
  refine SA_seq ?_
  cases H

/-! ### function 92: (*wayfarer/ssp.Receiver[wayfarer/wayfarerlaw23.text]).there -/
def F92n0.f  : Option (Bool) := some (false)
set_option maxHeartbeats 2000000 in
set_option maxRecDepth 100000 in
theorem F92n0.ok  {r : Bool} (H : F92n0.f  = some r) : SCA Try.prog 92 #[.pointer none] [] (fun v B => v = .bool r ∧ B = []) := by
  refine SCA_of_body Try.func92 rfl rfl ?_
  unfold F92n0.f at H
  refine SA_seq ?_
  refine SA_region ?_
  refine RA_step rfl (OA_v (v := .bool false) rfl (V_assign rfl) ?_)
  refine RA_nil ?_
  refine at_normal ?_
  refine SA_seq ?_
  refine SA_region ?_
  refine RA_step rfl (OA_v (v := .pointer none) rfl (V_move rfl) ?_)
  refine RA_step rfl (OA_v (v := .bool false) rfl (V_neqNN Try.underlying106 rfl rfl) ?_)
  refine RA_step rfl (OA_v (v := .bool false) rfl (V_move rfl) ?_)
  refine RA_noB rfl rfl rfl rfl (rfl) rfl ?_
  refine RA_noB rfl rfl rfl rfl (rfl) rfl ?_
  refine RA_noB rfl rfl rfl rfl (rfl) rfl ?_
  refine RA_noB rfl rfl rfl rfl (rfl) rfl ?_
  refine RA_noB rfl rfl rfl rfl (rfl) rfl ?_
  refine RA_noB rfl rfl rfl rfl (rfl) rfl ?_
  refine RA_step rfl (OA_v rfl (V_pickF rfl (rfl) rfl) ?_)
  refine RA_step rfl (OA_v (v := .bool false) rfl (V_assign rfl) ?_)
  refine RA_nil ?_
  refine at_normal ?_
  refine SA_ret ?_
  have hr_ := Option.some.inj H
  subst hr_
  exact BQ_R1 [] rfl rfl (Gh.sel [] rfl rfl) ⟨rfl, rfl⟩

/-! ### function 52: (*wayfarer/ssp.Receiver[wayfarer/wayfarerlaw23.text]).Take -/
def F52n0.f (a1 : S54) : Option (Bool × Int) := (F92n0.f ).bind (fun r4 => if (!r4) = true then (some ((false, 1))) else (none))
set_option maxHeartbeats 2000000 in
set_option maxRecDepth 100000 in
theorem F52n0.ok {a1 : S54} {A1_0 : Option Addr} {c1_0 : Nat} {r : Bool × Int} (H : F52n0.f a1 = some r) : SCA Try.prog 52 #[.pointer none, .agg #[.int .u64 a1.f0, .int .u64 a1.f1, .int .u64 a1.f2, .int .u64 a1.f3, .slice A1_0 a1.f4.length c1_0]] [Ro (Kd.int .u8) A1_0 c1_0 a1.f4] (fun v B => v = .tuple #[.bool r.1, .int .i64 r.2] ∧ B = []) := by
  refine SCA_of_body Try.func52 rfl rfl ?_
  unfold F52n0.f at H
  refine SA_seq ?_
  refine SA_region ?_
  refine RA_step rfl (OA_box rfl rfl fun b2 => ?_)
  refine RA_step rfl (OA_v (v := .bool false) rfl (V_assign rfl) ?_)
  refine RA_step rfl (OA_v (v := .int .i64 0) rfl (V_assign rfl) ?_)
  refine RA_nil ?_
  refine at_normal ?_
  refine SA_seq ?_
  refine SA_seq ?_
  refine SA_region ?_
  refine RA_step rfl (OA_v (v := .pointer none) rfl (V_move rfl) ?_)
  obtain ⟨r4, C6, H⟩ := g_bind H
  refine RA_step rfl (OA_callA [] [0, 1] rfl (X_fn (vs := [.pointer none]) Try.func92 nm92 rfl rfl) rfl (F92n0.ok C6) rfl ?_)
  rintro _ _ ⟨rfl, rfl⟩
  refine RA_step rfl (OA_v (v := .bool (!r4)) rfl (V_not rfl) ?_)
  refine RA_nil ?_
  refine at_normal ?_
  by_cases h5 : (!r4) = true
  · replace H := g_ift h5 H
    refine SA_condTb rfl h5 ?_
    refine SA_seq ?_
    refine SA_region ?_
    refine RA_step rfl (OA_v (v := .bool false) rfl (V_assign rfl) ?_)
    refine RA_step rfl (OA_v (v := .int .i64 1) rfl (V_assign rfl) ?_)
    refine RA_nil ?_
    refine at_normal ?_
    refine SA_ret ?_
    refine thn_ret ?_
    have hr_ := Option.some.inj H
    subst hr_
    exact BQ_R2 [] rfl rfl rfl (Gh.sel [] rfl rfl) ⟨rfl, rfl⟩
  replace H := g_iff h5 H
  refine SA_condFb rfl h5 ?_
  refine SA_skip ?_
  refine at_normal ?_
  refine SA_seq ?_
  refine SA_seq ?_
  cases H

/-! ### function 53: (*wayfarer/ssp.Receiver[wayfarer/wayfarerlaw23.text]).Latest -/
def F53n0.f  : Option (Int × S41) := (F92n0.f ).bind (fun r3 => if (!r3) = true then (some ((0, (S41.mk ByteArray.empty)))) else (none))
set_option maxHeartbeats 2000000 in
set_option maxRecDepth 100000 in
theorem F53n0.ok  {r : Int × S41} (H : F53n0.f  = some r) : SCA Try.prog 53 #[.pointer none] [] (fun v B => v = .tuple #[.int .u64 r.1, .agg #[.string r.2.f0]] ∧ B = []) := by
  refine SCA_of_body Try.func53 rfl rfl ?_
  unfold F53n0.f at H
  refine SA_seq ?_
  refine SA_region ?_
  refine RA_step rfl (OA_v (v := .int .u64 0) rfl (V_assign rfl) ?_)
  refine RA_step rfl (OA_alloc rfl zero41 fun b1 => ?_)
  refine RA_nil ?_
  refine at_normal ?_
  refine SA_seq ?_
  refine SA_seq ?_
  refine SA_region ?_
  refine RA_step rfl (OA_v (v := .pointer none) rfl (V_move rfl) ?_)
  obtain ⟨r3, C186, H⟩ := g_bind H
  refine RA_step rfl (OA_callA [] [0] rfl (X_fn (vs := [.pointer none]) Try.func92 nm92 rfl rfl) rfl (F92n0.ok C186) rfl ?_)
  rintro _ _ ⟨rfl, rfl⟩
  refine RA_step rfl (OA_v (v := .bool (!r3)) rfl (V_not rfl) ?_)
  refine RA_nil ?_
  refine at_normal ?_
  by_cases h4 : (!r3) = true
  · replace H := g_ift h4 H
    refine SA_condTb rfl h4 ?_
    refine SA_seq ?_
    refine SA_drawHq [0, 1] #[[], [], [0, 1]] [0] [] mixed rfl rfl rfl (PanOk.thn (PanOk.thn PanOk.body)) fun I0 hS h0 hh0 w0 sH dd pk => ?_
    refine DH_take 0 (by kernel_rfl) rfl rfl (.no rfl) pk sH rfl (VR_loadA_blk (b := b1) (m := 0) (k := 0) (vs := [.string ByteArray.empty]) Try.underlying41 rfl sz41 rfl rfl rfl) ?_
    refine DH_take (v := .int .u64 0) 1 (by kernel_rfl) rfl rfl (.no rfl) pk sH rfl (VR.ofV (V_assign rfl)) ?_
    refine DH_open dd sH ?_
    refine DN_one 2 (by kernel_rfl) rfl rfl (.no rfl) (OA_st (b := b1) (m := 0) (k := 0) (vs := [.string ByteArray.empty]) (cs' := [.string ByteArray.empty]) rfl rfl rfl rfl rfl rfl sz41 rfl rfl ?_)
    refine DN_done (by kernel_rfl) ?_
    refine at_normal ?_
    refine SA_ret ?_
    refine thn_ret ?_
    have hr_ := Option.some.inj H
    subst hr_
    exact BQ_RL (rs := [.tmp 2, .cell 3 41]) (vs := [.int .u64 0, .agg #[.string ByteArray.empty]]) [] rfl ⟨RV.tmp rfl, RV.cell (k := 0) rfl rfl Try.underlying41 rfl sz41, trivial⟩ rfl (Gh.sel [] rfl rfl) ⟨rfl, rfl⟩
  replace H := g_iff h4 H
  refine SA_condFb rfl h4 ?_
  refine SA_skip ?_
  refine at_normal ?_
  refine SA_seq ?_
  cases H

/-! ### function 22: (*wayfarer/ssp.Sender[wayfarer/wayfarerlaw23.text]).Set -/
def F22n0.f (a1 : S41) : Option (Int) := (F60n0.f ).bind (fun r3 => if (!r3) = true then (some (1)) else ((F143.f a1).bind (fun r5 => none)))
set_option maxHeartbeats 2000000 in
set_option maxRecDepth 100000 in
theorem F22n0.ok {a1 : S41} {r : Int} (H : F22n0.f a1 = some r) : SCA Try.prog 22 #[.pointer none, .agg #[.string a1.f0]] [] (fun v B => v = .int .i64 r ∧ B = []) := by
  refine SCA_of_body Try.func22 rfl rfl ?_
  unfold F22n0.f at H
  refine SA_seq ?_
  refine SA_region ?_
  refine RA_step rfl (OA_box rfl rfl fun b1 => ?_)
  refine RA_step rfl (OA_v (v := .int .i64 0) rfl (V_assign rfl) ?_)
  refine RA_nil ?_
  refine at_normal ?_
  refine SA_seq ?_
  refine SA_seq ?_
  refine SA_region ?_
  refine RA_step rfl (OA_v (v := .pointer none) rfl (V_move rfl) ?_)
  obtain ⟨r3, C7, H⟩ := g_bind H
  refine RA_step rfl (OA_callA [] [0] rfl (X_fn (vs := [.pointer none]) Try.func60 nm60 rfl rfl) rfl (F60n0.ok C7) rfl ?_)
  rintro _ _ ⟨rfl, rfl⟩
  refine RA_step rfl (OA_v (v := .bool (!r3)) rfl (V_not rfl) ?_)
  refine RA_nil ?_
  refine at_normal ?_
  by_cases h4 : (!r3) = true
  · replace H := g_ift h4 H
    refine SA_condTb rfl h4 ?_
    refine SA_seq ?_
    refine SA_region ?_
    refine RA_step rfl (OA_v (v := .int .i64 1) rfl (V_assign rfl) ?_)
    refine RA_nil ?_
    refine at_normal ?_
    refine SA_ret ?_
    refine thn_ret ?_
    have hr_ := Option.some.inj H
    subst hr_
    exact BQ_R1 [] rfl rfl (Gh.sel [] rfl rfl) ⟨rfl, rfl⟩
  replace H := g_iff h4 H
  refine SA_condFb rfl h4 ?_
  refine SA_skip ?_
  refine at_normal ?_
  refine SA_seq ?_
  refine SA_region ?_
  refine RA_step rfl (OA_v (v := .pointer none) rfl (V_move rfl) ?_)
  refine RA_step rfl (OA_r rfl (VR_loadA_blk (b := b1) (m := 0) (k := 0) (vs := [.string a1.f0]) Try.underlying41 rfl sz41 rfl rfl rfl) ?_)
  refine RA_step rfl (OA_v (v := .iface 41 (.agg #[.string a1.f0])) rfl (V_iface con41 rfl) ?_)
  obtain ⟨r5, C6, H⟩ := g_bind H
  refine RA_step rfl (OA_callA [] [0] rfl (X_inv (vs := []) rfl met41_143 Try.func143 nm143 rfl rfl) rfl (F143.ok (a0 := a1) C6) rfl ?_)
  rintro _ _ ⟨rfl, rfl⟩
  cases H

/-! ### function 23: (*wayfarer/ssp.Sender[wayfarer/wayfarerlaw23.text]).Ack -/
def F23n0.f (a1 : Int) : Option (Int) := (F60n0.f ).bind (fun r1 => if (!r1) = true then (some (1)) else (none))
set_option maxHeartbeats 2000000 in
set_option maxRecDepth 100000 in
theorem F23n0.ok {a1 : Int} {r : Int} (H : F23n0.f a1 = some r) : SCA Try.prog 23 #[.pointer none, .int .u64 a1] [] (fun v B => v = .int .i64 r ∧ B = []) := by
  refine SCA_of_body Try.func23 rfl rfl ?_
  unfold F23n0.f at H
  refine SA_seq ?_
  refine SA_region ?_
  refine RA_step rfl (OA_v (v := .int .i64 0) rfl (V_assign rfl) ?_)
  refine RA_nil ?_
  refine at_normal ?_
  refine SA_seq ?_
  refine SA_seq ?_
  refine SA_region ?_
  refine RA_step rfl (OA_v (v := .pointer none) rfl (V_move rfl) ?_)
  obtain ⟨r1, C3, H⟩ := g_bind H
  refine RA_step rfl (OA_callA [] [] rfl (X_fn (vs := [.pointer none]) Try.func60 nm60 rfl rfl) rfl (F60n0.ok C3) rfl ?_)
  rintro _ _ ⟨rfl, rfl⟩
  refine RA_step rfl (OA_v (v := .bool (!r1)) rfl (V_not rfl) ?_)
  refine RA_nil ?_
  refine at_normal ?_
  by_cases h2 : (!r1) = true
  · replace H := g_ift h2 H
    refine SA_condTb rfl h2 ?_
    refine SA_seq ?_
    refine SA_region ?_
    refine RA_step rfl (OA_v (v := .int .i64 1) rfl (V_assign rfl) ?_)
    refine RA_nil ?_
    refine at_normal ?_
    refine SA_ret ?_
    refine thn_ret ?_
    have hr_ := Option.some.inj H
    subst hr_
    exact BQ_R1 [] rfl rfl (Gh.sel [] rfl rfl) ⟨rfl, rfl⟩
  replace H := g_iff h2 H
  refine SA_condFb rfl h2 ?_
  refine SA_skip ?_
  refine at_normal ?_
  refine SA_seq ?_
  refine SA_region ?_
  refine RA_step rfl (OA_v (v := .pointer none) rfl (V_move rfl) ?_)
  cases H

/-! ### function 56: (*wayfarer/ssp.Receiver[wayfarer/wayfarerlaw23.text]).Holds -/
def F56n0.f  : Option ((List Int)) := (F92n0.f ).bind (fun r1 => if (!r1) = true then (some (([] : (List Int)))) else (none))
set_option maxHeartbeats 2000000 in
set_option maxRecDepth 100000 in
theorem F56n0.ok  {r : (List Int)} (H : F56n0.f  = some r) : SCA Try.prog 56 #[.pointer none] [] (fun v B => ∃ (A0_0_ : Option Addr) (c0_0_ : Nat), v = .slice A0_0_ r.length c0_0_ ∧ B = [Buf (Kd.int .u64) 44 A0_0_ c0_0_ r]) := by
  refine SCA_of_body Try.func56 rfl rfl ?_
  unfold F56n0.f at H
  refine SA_seq ?_
  refine SA_region ?_
  refine RA_step rfl (OA_v (v := .slice none 0 0) rfl (V_assign rfl) ?_)
  refine RA_nil ?_
  refine at_normal ?_
  refine SA_seq ?_
  refine SA_seq ?_
  refine SA_region ?_
  refine RA_step rfl (OA_v (v := .pointer none) rfl (V_move rfl) ?_)
  obtain ⟨r1, C4, H⟩ := g_bind H
  refine RA_step rfl (OA_callA [] [] rfl (X_fn (vs := [.pointer none]) Try.func92 nm92 rfl rfl) rfl (F92n0.ok C4) rfl ?_)
  rintro _ _ ⟨rfl, rfl⟩
  refine RA_step rfl (OA_v (v := .bool (!r1)) rfl (V_not rfl) ?_)
  refine RA_nil ?_
  refine at_normal ?_
  by_cases h2 : (!r1) = true
  · replace H := g_ift h2 H
    refine SA_condTb rfl h2 ?_
    refine SA_seq ?_
    refine SA_region ?_
    refine RA_step rfl (OA_v (v := .slice none 0 0) rfl (V_assign rfl) ?_)
    refine RA_nil ?_
    refine at_normal ?_
    refine SA_ret ?_
    refine thn_ret ?_
    have hr_ := Option.some.inj H
    subst hr_
    exact BQ_R1 [Buf (Kd.int .u64) 44 none 0 ([] : (List Int))] rfl rfl ((Gh.nilBuf (Kd.int .u64) 44).trans (Gh.sel [0] rfl rfl)) ⟨none, 0, rfl, rfl⟩
  replace H := g_iff h2 H
  refine SA_condFb rfl h2 ?_
  refine SA_skip ?_
  refine at_normal ?_
  refine SA_seq ?_
  refine SA_region ?_
  refine RA_step rfl (OA_v (v := .pointer none) rfl (V_move rfl) ?_)
  cases H

/-! ### function 51: wayfarer/ssp.NewReceiver[wayfarer/wayfarerlaw23.text] -/
def F51.f (a0 : S41) : Option (S162) := (F143.f a0).bind (fun r3 => some ((S162.mk ([(S128.mk 0 r3 0)] : (List S128)))))
set_option maxHeartbeats 2000000 in
set_option maxRecDepth 100000 in
theorem F51.ok {a0 : S41} {r : S162} (H : F51.f a0 = some r) : SCA Try.prog 51 #[.agg #[.string a0.f0]] [] (fun v B => ∃ (c0_ : Nat), ∃ (A0_0_ : Option Addr) (c0_0_ : Nat), v = .pointer (some ⟨c0_, 0, none⟩) ∧ B = [Blk c0_ 162 [.slice A0_0_ r.f0.length c0_0_], Buf k128 128 A0_0_ c0_0_ r.f0]) := by
  refine SCA_of_body Try.func51 rfl rfl ?_
  unfold F51.f at H
  refine SA_seq ?_
  refine SA_region ?_
  refine RA_step rfl (OA_box rfl rfl fun b1 => ?_)
  refine RA_step rfl (OA_v (v := .pointer none) rfl (V_assign rfl) ?_)
  refine RA_nil ?_
  refine at_normal ?_
  refine SA_seq ?_
  refine SA_region ?_
  refine RA_step rfl (OA_r rfl (VR_loadA_blk (b := b1) (m := 0) (k := 0) (vs := [.string a0.f0]) Try.underlying41 rfl sz41 rfl rfl rfl) ?_)
  refine RA_step rfl (OA_v (v := .iface 41 (.agg #[.string a0.f0])) rfl (V_iface con41 rfl) ?_)
  obtain ⟨r3, C8, H⟩ := g_bind H
  refine RA_step rfl (OA_callA [] [0] rfl (X_inv (vs := []) rfl met41_143 Try.func143 nm143 rfl rfl) rfl (F143.ok (a0 := a0) C8) rfl ?_)
  rintro _ _ ⟨rfl, rfl⟩
  refine RA_step rfl (OA_v (v := .agg #[.int .u64 0, .string r3.f0, .int .u64 0]) rfl (V_build (cells := [.int .u64 0, .string r3.f0, .int .u64 0]) zero128 Try.underlying128 plc128 (by kernel_rfl)) ?_)
  refine RA_step rfl (OA_bs (kd := k128) (zv := (.agg #[.int .u64 0, .string ByteArray.empty, .int .u64 0])) (sz := 3) (cells := [.int .u64 0, .string r3.f0, .int .u64 0]) (xs := ([(S128.mk 0 r3 0)] : (List S128))) rfl Try.underlying129 zero128 sz128 rfl rfl rfl (by kernel_rfl) rfl rfl (RL_enc enc128 (fun _ _ => rfl) (by kernel_rfl)) fun b4 => ?_)
  refine RA_step rfl (OA_v (v := .agg #[.slice (some ⟨b4, 0, none⟩) ([(S128.mk 0 r3 0)] : (List S128)).length 1]) rfl (V_build (cells := [.slice (some ⟨b4, 0, none⟩) ([(S128.mk 0 r3 0)] : (List S128)).length 1]) zero162 Try.underlying162 plc162 (by kernel_rfl)) ?_)
  refine RA_step rfl (OA_box rfl rfl fun b6 => ?_)
  refine RA_step rfl (OA_v (v := .pointer (some ⟨b6, 0, none⟩)) rfl (V_assign rfl) ?_)
  refine RA_nil ?_
  refine at_normal ?_
  refine SA_ret ?_
  have hr_ := Option.some.inj H
  subst hr_
  exact BQ_R1 [Blk b6 162 [.slice (some ⟨b4, 0, none⟩) ([(S128.mk 0 r3 0)] : (List S128)).length 1], Buf k128 128 (some ⟨b4, 0, none⟩) 1 ([(S128.mk 0 r3 0)] : (List S128))] rfl rfl (Gh.sel [2, 1] rfl rfl) ⟨b6, some ⟨b4, 0, none⟩, 1, rfl, rfl⟩
end Go.Proofs.Ytodkeoibebimgaa.Sq

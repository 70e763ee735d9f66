/- What functions compute, and that they do: 15, 16, 18, 19, 35, 59. -/
import Derived.Test.YtodkeoibebimgaaKc0
import Derived.Test.YtodkeoibebimgaaKc4
import Derived.Test.YtodkeoibebimgaaKc7
namespace Go.Proofs.Ytodkeoibebimgaa.Kc
open Go Go.RowKit Go.Proofs.Ytodkeoibebimgaa.SL
set_option linter.unusedVariables false
set_option linter.unusedSimpArgs false
attribute [local irreducible] IntKind.wrap minI maxI shrI shlI andI orI xorI andNotI cplI rd sub bytesOf strOf slA
/-! ### function 59: wayfarer/wayfarerref07.May -/
def F59.f (a0 : S25) : Option (Bool) := lt ((decide (a0.f2 = 0)) && (decide (a0.f3 = 0))) fun q4 => if a0.f0 = 1 then (lt ((decide ((a0.f1.length : Int) ≥ 1)) && (decide ((a0.f1.length : Int) ≤ 4096))) fun q8 => lt (q8 && q4) fun q11 => lt (q11 && (decide (a0.f4 = 0))) fun q14 => some (q14)) else (if a0.f0 = 2 then (lt ((decide ((a0.f1.length : Int) = 0)) && (decide (a0.f4 = 0))) fun q18 => lt (q18 && (decide (a0.f2 ≥ 1))) fun q21 => lt (q21 && (decide (a0.f2 ≤ 512))) fun q24 => lt (q24 && (decide (a0.f3 ≥ 1))) fun q27 => lt (q27 && (decide (a0.f3 ≤ 512))) fun q30 => some (q30)) else (if a0.f0 = 3 then (lt ((decide ((a0.f1.length : Int) ≤ 4096)) && q4) fun q34 => lt (q34 && (decide (a0.f4 = 0))) fun q37 => some (q37)) else (if a0.f0 = 4 then (lt ((decide ((a0.f1.length : Int) = 0)) && q4) fun q41 => lt (q41 && (decide (a0.f4 ≥ 65))) fun q44 => lt (q44 && (decide (a0.f4 ≤ 68))) fun q47 => some (q47)) else (some (false)))))
set_option maxHeartbeats 2000000 in
set_option maxRecDepth 100000 in
theorem F59.ok {a0 : S25} {A0_0 : Option Addr} {c0_0 : Nat} {r : Bool} (H : F59.f a0 = some r) : SCA Try.prog 59 #[.agg #[.int .u8 a0.f0, .slice A0_0 a0.f1.length c0_0, .int .i64 a0.f2, .int .i64 a0.f3, .int .u8 a0.f4]] [Ro (Kd.int .u8) A0_0 c0_0 a0.f1] (fun v B => v = .bool r ∧ B = []) := by
  refine SCA_of_body Try.func59 rfl rfl ?_
  unfold F59.f at H
  refine SA_seq ?_
  refine SA_region ?_
  refine RA_step rfl (OA_box rfl rfl fun b2 => ?_)
  refine RA_step rfl (OA_v (v := .bool false) rfl (V_assign rfl) ?_)
  refine RA_nil ?_
  refine at_normal ?_
  refine SA_seq ?_
  refine SA_region ?_
  refine RA_step rfl (OA_v (v := .pointer (some ((⟨b2, 0, none⟩ : Addr).add 2))) rfl (V_fieldAddrN (B := ⟨b2, 0, none⟩) (m := 0) (o := 2) Try.underlying25 rfl nz3 rfl rfl) ?_)
  refine RA_step rfl (OA_r rfl (VR_load_blk (b := b2) (m := 2) (k := 1) Try.underlying3 rfl rfl rfl rfl) ?_)
  refine RA_step rfl (OA_v (v := .bool (decide (a0.f2 = 0))) rfl (V_eql rfl rfl) ?_)
  refine RA_step rfl (OA_v (v := .bool (decide (a0.f2 = 0))) rfl (V_move rfl) ?_)
  obtain ⟨q4, hq4, H⟩ := g_lt H
  refine RA_cut 4 (fun e ds As => St [(1, .pointer (some ⟨b2, 0, none⟩)), (11, .bool q4)] [Blk b2 25 [.int .u8 a0.f0, .slice A0_0 a0.f1.length c0_0, .int .i64 a0.f2, .int .i64 a0.f3, .int .u8 a0.f4], Ro (Kd.int .u8) A0_0 c0_0 a0.f1] e ds As) ?_ ?_
  · by_cases h5 : a0.f2 = 0
    · refine RA_yesB rfl rfl rfl rfl (dec_t h5) (OA_v (v := .pointer (some ((⟨b2, 0, none⟩ : Addr).add 3))) rfl (V_fieldAddrN (B := ⟨b2, 0, none⟩) (m := 0) (o := 3) Try.underlying25 rfl nz3 rfl rfl) ?_)
      refine RA_yesB rfl rfl rfl rfl (dec_t h5) (OA_r rfl (VR_load_blk (b := b2) (m := 3) (k := 1) Try.underlying3 rfl rfl rfl rfl) ?_)
      refine RA_yesB rfl rfl rfl rfl (dec_t h5) (OA_v (v := .bool (decide (a0.f3 = 0))) rfl (V_eql rfl rfl) ?_)
      refine RA_step rfl (OA_v rfl (V_pickT rfl (dec_t h5) rfl) ?_)
      refine RA_nil ?_
      exact at_normal (St.mk1 (aeq rfl (aeq (congrArg Value.bool (and_t hq4 (dec_t h5))) aeq0)) (Gh.sel [1, 0] rfl rfl))
    · refine RA_noB rfl rfl rfl rfl (dec_f h5) rfl ?_
      refine RA_noB rfl rfl rfl rfl (dec_f h5) rfl ?_
      refine RA_noB rfl rfl rfl rfl (dec_f h5) rfl ?_
      refine RA_step rfl (OA_v rfl (V_pickF rfl (dec_f h5) rfl) ?_)
      refine RA_nil ?_
      exact at_normal (St.mk1 (aeq rfl (aeq (congrArg Value.bool (and_f hq4 (dec_f h5))) aeq0)) (Gh.sel [1, 0] rfl rfl))
  · rintro e ds As hst6
    refine RA.of_St rfl hst6 fun junk => ?_
    refine RA_step rfl (OA_v (v := .bool q4) rfl (V_assign rfl) ?_)
    refine RA_nil ?_
    refine at_normal ?_
    refine SA_seq ?_
    refine SA_seq ?_
    refine SA_region ?_
    refine RA_step rfl (OA_v (v := .pointer (some ⟨b2, 0, none⟩)) rfl (V_fieldAddrN (B := ⟨b2, 0, none⟩) (m := 0) (o := 0) Try.underlying25 rfl nz22 rfl rfl) ?_)
    refine RA_step rfl (OA_r rfl (VR_load_blk (b := b2) (m := 0) (k := 0) Try.underlying22 rfl rfl rfl rfl) ?_)
    refine RA_nil ?_
    refine at_normal ?_
    refine SA_block ?_
    refine SA_seq ?_
    refine SA_region ?_
    refine RA_step rfl (OA_v (v := .bool (decide (a0.f0 = 1))) rfl (V_eql rfl rfl) ?_)
    refine RA_step rfl (OA_v (v := .bool (decide (a0.f0 = 1))) rfl (V_assign rfl) ?_)
    refine RA_nil ?_
    refine at_normal ?_
    by_cases h7 : a0.f0 = 1
    · replace H := g_ift h7 H
      refine SA_condT rfl h7 ?_
      refine SA_seq ?_
      refine SA_region ?_
      refine RA_step rfl (OA_v (v := .pointer (some ((⟨b2, 0, none⟩ : Addr).add 1))) rfl (V_fieldAddrN (B := ⟨b2, 0, none⟩) (m := 0) (o := 1) Try.underlying25 rfl nz23 rfl rfl) ?_)
      refine RA_step rfl (OA_r rfl (VR_load_blk (b := b2) (m := 1) (k := 0) Try.underlying23 rfl rfl rfl rfl) ?_)
      refine RA_step rfl (OA_v (v := .int .i64 (a0.f1.length : Int)) rfl (V_len Try.underlying23 rfl) ?_)
      refine RA_step rfl (OA_v (v := .bool (decide ((a0.f1.length : Int) ≥ 1))) rfl (V_geq rfl rfl) ?_)
      refine RA_step rfl (OA_v (v := .bool (decide ((a0.f1.length : Int) ≥ 1))) rfl (V_move rfl) ?_)
      obtain ⟨q8, hq8, H⟩ := g_lt H
      refine RA_cut 5 (fun e ds As => St [(1, .pointer (some ⟨b2, 0, none⟩)), (3, .bool q4), (25, .bool q8)] [Blk b2 25 [.int .u8 a0.f0, .slice A0_0 a0.f1.length c0_0, .int .i64 a0.f2, .int .i64 a0.f3, .int .u8 a0.f4], Ro (Kd.int .u8) A0_0 c0_0 a0.f1] e ds As) ?_ ?_
      · by_cases h9 : (a0.f1.length : Int) ≥ 1
        · refine RA_yesB rfl rfl rfl rfl (dec_t h9) (OA_v (v := .pointer (some ((⟨b2, 0, none⟩ : Addr).add 1))) rfl (V_fieldAddrN (B := ⟨b2, 0, none⟩) (m := 0) (o := 1) Try.underlying25 rfl nz23 rfl rfl) ?_)
          refine RA_yesB rfl rfl rfl rfl (dec_t h9) (OA_r rfl (VR_load_blk (b := b2) (m := 1) (k := 0) Try.underlying23 rfl rfl rfl rfl) ?_)
          refine RA_yesB rfl rfl rfl rfl (dec_t h9) (OA_v (v := .int .i64 (a0.f1.length : Int)) rfl (V_len Try.underlying23 rfl) ?_)
          refine RA_yesB rfl rfl rfl rfl (dec_t h9) (OA_v (v := .bool (decide ((a0.f1.length : Int) ≤ 4096))) rfl (V_leq rfl rfl) ?_)
          refine RA_step rfl (OA_v rfl (V_pickT rfl (dec_t h9) rfl) ?_)
          refine RA_nil ?_
          exact at_normal (St.mk1 (aeq rfl (aeq rfl (aeq (congrArg Value.bool (and_t hq8 (dec_t h9))) aeq0))) (Gh.sel [0, 1] rfl rfl))
        · refine RA_noB rfl rfl rfl rfl (dec_f h9) rfl ?_
          refine RA_noB rfl rfl rfl rfl (dec_f h9) rfl ?_
          refine RA_noB rfl rfl rfl rfl (dec_f h9) rfl ?_
          refine RA_noB rfl rfl rfl rfl (dec_f h9) rfl ?_
          refine RA_step rfl (OA_v rfl (V_pickF rfl (dec_f h9) rfl) ?_)
          refine RA_nil ?_
          exact at_normal (St.mk1 (aeq rfl (aeq rfl (aeq (congrArg Value.bool (and_f hq8 (dec_f h9))) aeq0))) (Gh.sel [0, 1] rfl rfl))
      · rintro e ds As hst10
        refine RA.of_St rfl hst10 fun junk => ?_
        refine RA_step rfl (OA_v (v := .bool q8) rfl (V_move rfl) ?_)
        obtain ⟨q11, hq11, H⟩ := g_lt H
        refine RA_cut 2 (fun e ds As => St [(1, .pointer (some ⟨b2, 0, none⟩)), (28, .bool q11)] [Blk b2 25 [.int .u8 a0.f0, .slice A0_0 a0.f1.length c0_0, .int .i64 a0.f2, .int .i64 a0.f3, .int .u8 a0.f4], Ro (Kd.int .u8) A0_0 c0_0 a0.f1] e ds As) ?_ ?_
        · by_cases h12 : q8 = true
          · refine RA_yesB rfl rfl rfl rfl (h12) (OA_v (v := .bool q4) rfl (V_move rfl) ?_)
            refine RA_step rfl (OA_v rfl (V_pickT rfl (h12) rfl) ?_)
            refine RA_nil ?_
            exact at_normal (St.mk1 (aeq rfl (aeq (congrArg Value.bool (and_t hq11 (h12))) aeq0)) (Gh.sel [0, 1] rfl rfl))
          · refine RA_noB rfl rfl rfl rfl (bno h12) rfl ?_
            refine RA_step rfl (OA_v rfl (V_pickF rfl (bno h12) rfl) ?_)
            refine RA_nil ?_
            exact at_normal (St.mk1 (aeq rfl (aeq (congrArg Value.bool (and_f hq11 (bno h12))) aeq0)) (Gh.sel [0, 1] rfl rfl))
        · rintro e ds As hst13
          refine RA.of_St rfl hst13 fun junk => ?_
          refine RA_step rfl (OA_v (v := .bool q11) rfl (V_move rfl) ?_)
          obtain ⟨q14, hq14, H⟩ := g_lt H
          refine RA_cut 4 (fun e ds As => St [(33, .bool q14)] [] e ds As) ?_ ?_
          · by_cases h15 : q11 = true
            · refine RA_yesB rfl rfl rfl rfl (h15) (OA_v (v := .pointer (some ((⟨b2, 0, none⟩ : Addr).add 4))) rfl (V_fieldAddrN (B := ⟨b2, 0, none⟩) (m := 0) (o := 4) Try.underlying25 rfl nz5 rfl rfl) ?_)
              refine RA_yesB rfl rfl rfl rfl (h15) (OA_r rfl (VR_load_blk (b := b2) (m := 4) (k := 0) Try.underlying5 rfl rfl rfl rfl) ?_)
              refine RA_yesB rfl rfl rfl rfl (h15) (OA_v (v := .bool (decide (a0.f4 = 0))) rfl (V_eql rfl rfl) ?_)
              refine RA_step rfl (OA_v rfl (V_pickT rfl (h15) rfl) ?_)
              refine RA_nil ?_
              exact at_normal (St.mk1 (aeq (congrArg Value.bool (and_t hq14 (h15))) aeq0) (Gh.sel [] rfl rfl))
            · refine RA_noB rfl rfl rfl rfl (bno h15) rfl ?_
              refine RA_noB rfl rfl rfl rfl (bno h15) rfl ?_
              refine RA_noB rfl rfl rfl rfl (bno h15) rfl ?_
              refine RA_step rfl (OA_v rfl (V_pickF rfl (bno h15) rfl) ?_)
              refine RA_nil ?_
              exact at_normal (St.mk1 (aeq (congrArg Value.bool (and_f hq14 (bno h15))) aeq0) (Gh.sel [] rfl rfl))
          · rintro e ds As hst16
            refine RA.of_St rfl hst16 fun junk => ?_
            refine RA_step rfl (OA_v (v := .bool q14) rfl (V_assign rfl) ?_)
            refine RA_nil ?_
            refine at_normal ?_
            refine SA_ret ?_
            refine inb_ret ?_
            refine thn_ret ?_
            have hr_ := Option.some.inj H
            subst hr_
            exact BQ_R1 [] rfl rfl (Gh.sel [] rfl rfl) ⟨rfl, rfl⟩
    · replace H := g_iff h7 H
      refine SA_condF rfl h7 ?_
      refine SA_seq ?_
      refine SA_region ?_
      refine RA_step rfl (OA_v (v := .bool (decide (a0.f0 = 2))) rfl (V_eql rfl rfl) ?_)
      refine RA_step rfl (OA_v (v := .bool (decide (a0.f0 = 2))) rfl (V_assign rfl) ?_)
      refine RA_nil ?_
      refine at_normal ?_
      by_cases h17 : a0.f0 = 2
      · replace H := g_ift h17 H
        refine SA_condT rfl h17 ?_
        refine SA_seq ?_
        refine SA_region ?_
        refine RA_step rfl (OA_v (v := .pointer (some ((⟨b2, 0, none⟩ : Addr).add 1))) rfl (V_fieldAddrN (B := ⟨b2, 0, none⟩) (m := 0) (o := 1) Try.underlying25 rfl nz23 rfl rfl) ?_)
        refine RA_step rfl (OA_r rfl (VR_load_blk (b := b2) (m := 1) (k := 0) Try.underlying23 rfl rfl rfl rfl) ?_)
        refine RA_step rfl (OA_v (v := .int .i64 (a0.f1.length : Int)) rfl (V_len Try.underlying23 rfl) ?_)
        refine RA_step rfl (OA_v (v := .bool (decide ((a0.f1.length : Int) = 0))) rfl (V_eql rfl rfl) ?_)
        refine RA_step rfl (OA_v (v := .bool (decide ((a0.f1.length : Int) = 0))) rfl (V_move rfl) ?_)
        obtain ⟨q18, hq18, H⟩ := g_lt H
        refine RA_cut 4 (fun e ds As => St [(1, .pointer (some ⟨b2, 0, none⟩)), (44, .bool q18)] [Blk b2 25 [.int .u8 a0.f0, .slice A0_0 a0.f1.length c0_0, .int .i64 a0.f2, .int .i64 a0.f3, .int .u8 a0.f4], Ro (Kd.int .u8) A0_0 c0_0 a0.f1] e ds As) ?_ ?_
        · by_cases h19 : (a0.f1.length : Int) = 0
          · refine RA_yesB rfl rfl rfl rfl (dec_t h19) (OA_v (v := .pointer (some ((⟨b2, 0, none⟩ : Addr).add 4))) rfl (V_fieldAddrN (B := ⟨b2, 0, none⟩) (m := 0) (o := 4) Try.underlying25 rfl nz5 rfl rfl) ?_)
            refine RA_yesB rfl rfl rfl rfl (dec_t h19) (OA_r rfl (VR_load_blk (b := b2) (m := 4) (k := 0) Try.underlying5 rfl rfl rfl rfl) ?_)
            refine RA_yesB rfl rfl rfl rfl (dec_t h19) (OA_v (v := .bool (decide (a0.f4 = 0))) rfl (V_eql rfl rfl) ?_)
            refine RA_step rfl (OA_v rfl (V_pickT rfl (dec_t h19) rfl) ?_)
            refine RA_nil ?_
            exact at_normal (St.mk1 (aeq rfl (aeq (congrArg Value.bool (and_t hq18 (dec_t h19))) aeq0)) (Gh.sel [0, 1] rfl rfl))
          · refine RA_noB rfl rfl rfl rfl (dec_f h19) rfl ?_
            refine RA_noB rfl rfl rfl rfl (dec_f h19) rfl ?_
            refine RA_noB rfl rfl rfl rfl (dec_f h19) rfl ?_
            refine RA_step rfl (OA_v rfl (V_pickF rfl (dec_f h19) rfl) ?_)
            refine RA_nil ?_
            exact at_normal (St.mk1 (aeq rfl (aeq (congrArg Value.bool (and_f hq18 (dec_f h19))) aeq0)) (Gh.sel [0, 1] rfl rfl))
        · rintro e ds As hst20
          refine RA.of_St rfl hst20 fun junk => ?_
          refine RA_step rfl (OA_v (v := .bool q18) rfl (V_move rfl) ?_)
          obtain ⟨q21, hq21, H⟩ := g_lt H
          refine RA_cut 4 (fun e ds As => St [(1, .pointer (some ⟨b2, 0, none⟩)), (49, .bool q21)] [Blk b2 25 [.int .u8 a0.f0, .slice A0_0 a0.f1.length c0_0, .int .i64 a0.f2, .int .i64 a0.f3, .int .u8 a0.f4], Ro (Kd.int .u8) A0_0 c0_0 a0.f1] e ds As) ?_ ?_
          · by_cases h22 : q18 = true
            · refine RA_yesB rfl rfl rfl rfl (h22) (OA_v (v := .pointer (some ((⟨b2, 0, none⟩ : Addr).add 2))) rfl (V_fieldAddrN (B := ⟨b2, 0, none⟩) (m := 0) (o := 2) Try.underlying25 rfl nz3 rfl rfl) ?_)
              refine RA_yesB rfl rfl rfl rfl (h22) (OA_r rfl (VR_load_blk (b := b2) (m := 2) (k := 0) Try.underlying3 rfl rfl rfl rfl) ?_)
              refine RA_yesB rfl rfl rfl rfl (h22) (OA_v (v := .bool (decide (a0.f2 ≥ 1))) rfl (V_geq rfl rfl) ?_)
              refine RA_step rfl (OA_v rfl (V_pickT rfl (h22) rfl) ?_)
              refine RA_nil ?_
              exact at_normal (St.mk1 (aeq rfl (aeq (congrArg Value.bool (and_t hq21 (h22))) aeq0)) (Gh.sel [0, 1] rfl rfl))
            · refine RA_noB rfl rfl rfl rfl (bno h22) rfl ?_
              refine RA_noB rfl rfl rfl rfl (bno h22) rfl ?_
              refine RA_noB rfl rfl rfl rfl (bno h22) rfl ?_
              refine RA_step rfl (OA_v rfl (V_pickF rfl (bno h22) rfl) ?_)
              refine RA_nil ?_
              exact at_normal (St.mk1 (aeq rfl (aeq (congrArg Value.bool (and_f hq21 (bno h22))) aeq0)) (Gh.sel [0, 1] rfl rfl))
          · rintro e ds As hst23
            refine RA.of_St rfl hst23 fun junk => ?_
            refine RA_step rfl (OA_v (v := .bool q21) rfl (V_move rfl) ?_)
            obtain ⟨q24, hq24, H⟩ := g_lt H
            refine RA_cut 4 (fun e ds As => St [(1, .pointer (some ⟨b2, 0, none⟩)), (54, .bool q24)] [Blk b2 25 [.int .u8 a0.f0, .slice A0_0 a0.f1.length c0_0, .int .i64 a0.f2, .int .i64 a0.f3, .int .u8 a0.f4], Ro (Kd.int .u8) A0_0 c0_0 a0.f1] e ds As) ?_ ?_
            · by_cases h25 : q21 = true
              · refine RA_yesB rfl rfl rfl rfl (h25) (OA_v (v := .pointer (some ((⟨b2, 0, none⟩ : Addr).add 2))) rfl (V_fieldAddrN (B := ⟨b2, 0, none⟩) (m := 0) (o := 2) Try.underlying25 rfl nz3 rfl rfl) ?_)
                refine RA_yesB rfl rfl rfl rfl (h25) (OA_r rfl (VR_load_blk (b := b2) (m := 2) (k := 0) Try.underlying3 rfl rfl rfl rfl) ?_)
                refine RA_yesB rfl rfl rfl rfl (h25) (OA_v (v := .bool (decide (a0.f2 ≤ 512))) rfl (V_leq rfl rfl) ?_)
                refine RA_step rfl (OA_v rfl (V_pickT rfl (h25) rfl) ?_)
                refine RA_nil ?_
                exact at_normal (St.mk1 (aeq rfl (aeq (congrArg Value.bool (and_t hq24 (h25))) aeq0)) (Gh.sel [0, 1] rfl rfl))
              · refine RA_noB rfl rfl rfl rfl (bno h25) rfl ?_
                refine RA_noB rfl rfl rfl rfl (bno h25) rfl ?_
                refine RA_noB rfl rfl rfl rfl (bno h25) rfl ?_
                refine RA_step rfl (OA_v rfl (V_pickF rfl (bno h25) rfl) ?_)
                refine RA_nil ?_
                exact at_normal (St.mk1 (aeq rfl (aeq (congrArg Value.bool (and_f hq24 (bno h25))) aeq0)) (Gh.sel [0, 1] rfl rfl))
            · rintro e ds As hst26
              refine RA.of_St rfl hst26 fun junk => ?_
              refine RA_step rfl (OA_v (v := .bool q24) rfl (V_move rfl) ?_)
              obtain ⟨q27, hq27, H⟩ := g_lt H
              refine RA_cut 4 (fun e ds As => St [(1, .pointer (some ⟨b2, 0, none⟩)), (59, .bool q27)] [Blk b2 25 [.int .u8 a0.f0, .slice A0_0 a0.f1.length c0_0, .int .i64 a0.f2, .int .i64 a0.f3, .int .u8 a0.f4], Ro (Kd.int .u8) A0_0 c0_0 a0.f1] e ds As) ?_ ?_
              · by_cases h28 : q24 = true
                · refine RA_yesB rfl rfl rfl rfl (h28) (OA_v (v := .pointer (some ((⟨b2, 0, none⟩ : Addr).add 3))) rfl (V_fieldAddrN (B := ⟨b2, 0, none⟩) (m := 0) (o := 3) Try.underlying25 rfl nz3 rfl rfl) ?_)
                  refine RA_yesB rfl rfl rfl rfl (h28) (OA_r rfl (VR_load_blk (b := b2) (m := 3) (k := 0) Try.underlying3 rfl rfl rfl rfl) ?_)
                  refine RA_yesB rfl rfl rfl rfl (h28) (OA_v (v := .bool (decide (a0.f3 ≥ 1))) rfl (V_geq rfl rfl) ?_)
                  refine RA_step rfl (OA_v rfl (V_pickT rfl (h28) rfl) ?_)
                  refine RA_nil ?_
                  exact at_normal (St.mk1 (aeq rfl (aeq (congrArg Value.bool (and_t hq27 (h28))) aeq0)) (Gh.sel [0, 1] rfl rfl))
                · refine RA_noB rfl rfl rfl rfl (bno h28) rfl ?_
                  refine RA_noB rfl rfl rfl rfl (bno h28) rfl ?_
                  refine RA_noB rfl rfl rfl rfl (bno h28) rfl ?_
                  refine RA_step rfl (OA_v rfl (V_pickF rfl (bno h28) rfl) ?_)
                  refine RA_nil ?_
                  exact at_normal (St.mk1 (aeq rfl (aeq (congrArg Value.bool (and_f hq27 (bno h28))) aeq0)) (Gh.sel [0, 1] rfl rfl))
              · rintro e ds As hst29
                refine RA.of_St rfl hst29 fun junk => ?_
                refine RA_step rfl (OA_v (v := .bool q27) rfl (V_move rfl) ?_)
                obtain ⟨q30, hq30, H⟩ := g_lt H
                refine RA_cut 4 (fun e ds As => St [(64, .bool q30)] [] e ds As) ?_ ?_
                · by_cases h31 : q27 = true
                  · refine RA_yesB rfl rfl rfl rfl (h31) (OA_v (v := .pointer (some ((⟨b2, 0, none⟩ : Addr).add 3))) rfl (V_fieldAddrN (B := ⟨b2, 0, none⟩) (m := 0) (o := 3) Try.underlying25 rfl nz3 rfl rfl) ?_)
                    refine RA_yesB rfl rfl rfl rfl (h31) (OA_r rfl (VR_load_blk (b := b2) (m := 3) (k := 0) Try.underlying3 rfl rfl rfl rfl) ?_)
                    refine RA_yesB rfl rfl rfl rfl (h31) (OA_v (v := .bool (decide (a0.f3 ≤ 512))) rfl (V_leq rfl rfl) ?_)
                    refine RA_step rfl (OA_v rfl (V_pickT rfl (h31) rfl) ?_)
                    refine RA_nil ?_
                    exact at_normal (St.mk1 (aeq (congrArg Value.bool (and_t hq30 (h31))) aeq0) (Gh.sel [] rfl rfl))
                  · refine RA_noB rfl rfl rfl rfl (bno h31) rfl ?_
                    refine RA_noB rfl rfl rfl rfl (bno h31) rfl ?_
                    refine RA_noB rfl rfl rfl rfl (bno h31) rfl ?_
                    refine RA_step rfl (OA_v rfl (V_pickF rfl (bno h31) rfl) ?_)
                    refine RA_nil ?_
                    exact at_normal (St.mk1 (aeq (congrArg Value.bool (and_f hq30 (bno h31))) aeq0) (Gh.sel [] rfl rfl))
                · rintro e ds As hst32
                  refine RA.of_St rfl hst32 fun junk => ?_
                  refine RA_step rfl (OA_v (v := .bool q30) rfl (V_assign rfl) ?_)
                  refine RA_nil ?_
                  refine at_normal ?_
                  refine SA_ret ?_
                  refine inb_ret ?_
                  refine thn_ret ?_
                  have hr_ := Option.some.inj H
                  subst hr_
                  exact BQ_R1 [] rfl rfl (Gh.sel [] rfl rfl) ⟨rfl, rfl⟩
      · replace H := g_iff h17 H
        refine SA_condF rfl h17 ?_
        refine SA_seq ?_
        refine SA_region ?_
        refine RA_step rfl (OA_v (v := .bool (decide (a0.f0 = 3))) rfl (V_eql rfl rfl) ?_)
        refine RA_step rfl (OA_v (v := .bool (decide (a0.f0 = 3))) rfl (V_assign rfl) ?_)
        refine RA_nil ?_
        refine at_normal ?_
        by_cases h33 : a0.f0 = 3
        · replace H := g_ift h33 H
          refine SA_condT rfl h33 ?_
          refine SA_seq ?_
          refine SA_region ?_
          refine RA_step rfl (OA_v (v := .pointer (some ((⟨b2, 0, none⟩ : Addr).add 1))) rfl (V_fieldAddrN (B := ⟨b2, 0, none⟩) (m := 0) (o := 1) Try.underlying25 rfl nz23 rfl rfl) ?_)
          refine RA_step rfl (OA_r rfl (VR_load_blk (b := b2) (m := 1) (k := 0) Try.underlying23 rfl rfl rfl rfl) ?_)
          refine RA_step rfl (OA_v (v := .int .i64 (a0.f1.length : Int)) rfl (V_len Try.underlying23 rfl) ?_)
          refine RA_step rfl (OA_v (v := .bool (decide ((a0.f1.length : Int) ≤ 4096))) rfl (V_leq rfl rfl) ?_)
          refine RA_step rfl (OA_v (v := .bool (decide ((a0.f1.length : Int) ≤ 4096))) rfl (V_move rfl) ?_)
          obtain ⟨q34, hq34, H⟩ := g_lt H
          refine RA_cut 2 (fun e ds As => St [(1, .pointer (some ⟨b2, 0, none⟩)), (73, .bool q34)] [Blk b2 25 [.int .u8 a0.f0, .slice A0_0 a0.f1.length c0_0, .int .i64 a0.f2, .int .i64 a0.f3, .int .u8 a0.f4], Ro (Kd.int .u8) A0_0 c0_0 a0.f1] e ds As) ?_ ?_
          · by_cases h35 : (a0.f1.length : Int) ≤ 4096
            · refine RA_yesB rfl rfl rfl rfl (dec_t h35) (OA_v (v := .bool q4) rfl (V_move rfl) ?_)
              refine RA_step rfl (OA_v rfl (V_pickT rfl (dec_t h35) rfl) ?_)
              refine RA_nil ?_
              exact at_normal (St.mk1 (aeq rfl (aeq (congrArg Value.bool (and_t hq34 (dec_t h35))) aeq0)) (Gh.sel [0, 1] rfl rfl))
            · refine RA_noB rfl rfl rfl rfl (dec_f h35) rfl ?_
              refine RA_step rfl (OA_v rfl (V_pickF rfl (dec_f h35) rfl) ?_)
              refine RA_nil ?_
              exact at_normal (St.mk1 (aeq rfl (aeq (congrArg Value.bool (and_f hq34 (dec_f h35))) aeq0)) (Gh.sel [0, 1] rfl rfl))
          · rintro e ds As hst36
            refine RA.of_St rfl hst36 fun junk => ?_
            refine RA_step rfl (OA_v (v := .bool q34) rfl (V_move rfl) ?_)
            obtain ⟨q37, hq37, H⟩ := g_lt H
            refine RA_cut 4 (fun e ds As => St [(78, .bool q37)] [] e ds As) ?_ ?_
            · by_cases h38 : q34 = true
              · refine RA_yesB rfl rfl rfl rfl (h38) (OA_v (v := .pointer (some ((⟨b2, 0, none⟩ : Addr).add 4))) rfl (V_fieldAddrN (B := ⟨b2, 0, none⟩) (m := 0) (o := 4) Try.underlying25 rfl nz5 rfl rfl) ?_)
                refine RA_yesB rfl rfl rfl rfl (h38) (OA_r rfl (VR_load_blk (b := b2) (m := 4) (k := 0) Try.underlying5 rfl rfl rfl rfl) ?_)
                refine RA_yesB rfl rfl rfl rfl (h38) (OA_v (v := .bool (decide (a0.f4 = 0))) rfl (V_eql rfl rfl) ?_)
                refine RA_step rfl (OA_v rfl (V_pickT rfl (h38) rfl) ?_)
                refine RA_nil ?_
                exact at_normal (St.mk1 (aeq (congrArg Value.bool (and_t hq37 (h38))) aeq0) (Gh.sel [] rfl rfl))
              · refine RA_noB rfl rfl rfl rfl (bno h38) rfl ?_
                refine RA_noB rfl rfl rfl rfl (bno h38) rfl ?_
                refine RA_noB rfl rfl rfl rfl (bno h38) rfl ?_
                refine RA_step rfl (OA_v rfl (V_pickF rfl (bno h38) rfl) ?_)
                refine RA_nil ?_
                exact at_normal (St.mk1 (aeq (congrArg Value.bool (and_f hq37 (bno h38))) aeq0) (Gh.sel [] rfl rfl))
            · rintro e ds As hst39
              refine RA.of_St rfl hst39 fun junk => ?_
              refine RA_step rfl (OA_v (v := .bool q37) rfl (V_assign rfl) ?_)
              refine RA_nil ?_
              refine at_normal ?_
              refine SA_ret ?_
              refine inb_ret ?_
              refine thn_ret ?_
              have hr_ := Option.some.inj H
              subst hr_
              exact BQ_R1 [] rfl rfl (Gh.sel [] rfl rfl) ⟨rfl, rfl⟩
        · replace H := g_iff h33 H
          refine SA_condF rfl h33 ?_
          refine SA_seq ?_
          refine SA_region ?_
          refine RA_step rfl (OA_v (v := .bool (decide (a0.f0 = 4))) rfl (V_eql rfl rfl) ?_)
          refine RA_step rfl (OA_v (v := .bool (decide (a0.f0 = 4))) rfl (V_assign rfl) ?_)
          refine RA_nil ?_
          refine at_normal ?_
          by_cases h40 : a0.f0 = 4
          · replace H := g_ift h40 H
            refine SA_condT rfl h40 ?_
            refine SA_seq ?_
            refine SA_region ?_
            refine RA_step rfl (OA_v (v := .pointer (some ((⟨b2, 0, none⟩ : Addr).add 1))) rfl (V_fieldAddrN (B := ⟨b2, 0, none⟩) (m := 0) (o := 1) Try.underlying25 rfl nz23 rfl rfl) ?_)
            refine RA_step rfl (OA_r rfl (VR_load_blk (b := b2) (m := 1) (k := 0) Try.underlying23 rfl rfl rfl rfl) ?_)
            refine RA_step rfl (OA_v (v := .int .i64 (a0.f1.length : Int)) rfl (V_len Try.underlying23 rfl) ?_)
            refine RA_step rfl (OA_v (v := .bool (decide ((a0.f1.length : Int) = 0))) rfl (V_eql rfl rfl) ?_)
            refine RA_step rfl (OA_v (v := .bool (decide ((a0.f1.length : Int) = 0))) rfl (V_move rfl) ?_)
            obtain ⟨q41, hq41, H⟩ := g_lt H
            refine RA_cut 2 (fun e ds As => St [(1, .pointer (some ⟨b2, 0, none⟩)), (87, .bool q41)] [Blk b2 25 [.int .u8 a0.f0, .slice A0_0 a0.f1.length c0_0, .int .i64 a0.f2, .int .i64 a0.f3, .int .u8 a0.f4], Ro (Kd.int .u8) A0_0 c0_0 a0.f1] e ds As) ?_ ?_
            · by_cases h42 : (a0.f1.length : Int) = 0
              · refine RA_yesB rfl rfl rfl rfl (dec_t h42) (OA_v (v := .bool q4) rfl (V_move rfl) ?_)
                refine RA_step rfl (OA_v rfl (V_pickT rfl (dec_t h42) rfl) ?_)
                refine RA_nil ?_
                exact at_normal (St.mk1 (aeq rfl (aeq (congrArg Value.bool (and_t hq41 (dec_t h42))) aeq0)) (Gh.sel [0, 1] rfl rfl))
              · refine RA_noB rfl rfl rfl rfl (dec_f h42) rfl ?_
                refine RA_step rfl (OA_v rfl (V_pickF rfl (dec_f h42) rfl) ?_)
                refine RA_nil ?_
                exact at_normal (St.mk1 (aeq rfl (aeq (congrArg Value.bool (and_f hq41 (dec_f h42))) aeq0)) (Gh.sel [0, 1] rfl rfl))
            · rintro e ds As hst43
              refine RA.of_St rfl hst43 fun junk => ?_
              refine RA_step rfl (OA_v (v := .bool q41) rfl (V_move rfl) ?_)
              obtain ⟨q44, hq44, H⟩ := g_lt H
              refine RA_cut 4 (fun e ds As => St [(1, .pointer (some ⟨b2, 0, none⟩)), (92, .bool q44)] [Blk b2 25 [.int .u8 a0.f0, .slice A0_0 a0.f1.length c0_0, .int .i64 a0.f2, .int .i64 a0.f3, .int .u8 a0.f4], Ro (Kd.int .u8) A0_0 c0_0 a0.f1] e ds As) ?_ ?_
              · by_cases h45 : q41 = true
                · refine RA_yesB rfl rfl rfl rfl (h45) (OA_v (v := .pointer (some ((⟨b2, 0, none⟩ : Addr).add 4))) rfl (V_fieldAddrN (B := ⟨b2, 0, none⟩) (m := 0) (o := 4) Try.underlying25 rfl nz5 rfl rfl) ?_)
                  refine RA_yesB rfl rfl rfl rfl (h45) (OA_r rfl (VR_load_blk (b := b2) (m := 4) (k := 0) Try.underlying5 rfl rfl rfl rfl) ?_)
                  refine RA_yesB rfl rfl rfl rfl (h45) (OA_v (v := .bool (decide (a0.f4 ≥ 65))) rfl (V_geq rfl rfl) ?_)
                  refine RA_step rfl (OA_v rfl (V_pickT rfl (h45) rfl) ?_)
                  refine RA_nil ?_
                  exact at_normal (St.mk1 (aeq rfl (aeq (congrArg Value.bool (and_t hq44 (h45))) aeq0)) (Gh.sel [0, 1] rfl rfl))
                · refine RA_noB rfl rfl rfl rfl (bno h45) rfl ?_
                  refine RA_noB rfl rfl rfl rfl (bno h45) rfl ?_
                  refine RA_noB rfl rfl rfl rfl (bno h45) rfl ?_
                  refine RA_step rfl (OA_v rfl (V_pickF rfl (bno h45) rfl) ?_)
                  refine RA_nil ?_
                  exact at_normal (St.mk1 (aeq rfl (aeq (congrArg Value.bool (and_f hq44 (bno h45))) aeq0)) (Gh.sel [0, 1] rfl rfl))
              · rintro e ds As hst46
                refine RA.of_St rfl hst46 fun junk => ?_
                refine RA_step rfl (OA_v (v := .bool q44) rfl (V_move rfl) ?_)
                obtain ⟨q47, hq47, H⟩ := g_lt H
                refine RA_cut 4 (fun e ds As => St [(97, .bool q47)] [] e ds As) ?_ ?_
                · by_cases h48 : q44 = true
                  · refine RA_yesB rfl rfl rfl rfl (h48) (OA_v (v := .pointer (some ((⟨b2, 0, none⟩ : Addr).add 4))) rfl (V_fieldAddrN (B := ⟨b2, 0, none⟩) (m := 0) (o := 4) Try.underlying25 rfl nz5 rfl rfl) ?_)
                    refine RA_yesB rfl rfl rfl rfl (h48) (OA_r rfl (VR_load_blk (b := b2) (m := 4) (k := 0) Try.underlying5 rfl rfl rfl rfl) ?_)
                    refine RA_yesB rfl rfl rfl rfl (h48) (OA_v (v := .bool (decide (a0.f4 ≤ 68))) rfl (V_leq rfl rfl) ?_)
                    refine RA_step rfl (OA_v rfl (V_pickT rfl (h48) rfl) ?_)
                    refine RA_nil ?_
                    exact at_normal (St.mk1 (aeq (congrArg Value.bool (and_t hq47 (h48))) aeq0) (Gh.sel [] rfl rfl))
                  · refine RA_noB rfl rfl rfl rfl (bno h48) rfl ?_
                    refine RA_noB rfl rfl rfl rfl (bno h48) rfl ?_
                    refine RA_noB rfl rfl rfl rfl (bno h48) rfl ?_
                    refine RA_step rfl (OA_v rfl (V_pickF rfl (bno h48) rfl) ?_)
                    refine RA_nil ?_
                    exact at_normal (St.mk1 (aeq (congrArg Value.bool (and_f hq47 (bno h48))) aeq0) (Gh.sel [] rfl rfl))
                · rintro e ds As hst49
                  refine RA.of_St rfl hst49 fun junk => ?_
                  refine RA_step rfl (OA_v (v := .bool q47) rfl (V_assign rfl) ?_)
                  refine RA_nil ?_
                  refine at_normal ?_
                  refine SA_ret ?_
                  refine inb_ret ?_
                  refine thn_ret ?_
                  have hr_ := Option.some.inj H
                  subst hr_
                  exact BQ_R1 [] rfl rfl (Gh.sel [] rfl rfl) ⟨rfl, rfl⟩
          · replace H := g_iff h40 H
            refine SA_condF rfl h40 ?_
            refine SA_skip ?_
            refine inb_normal ?_
            refine at_normal ?_
            refine SA_seq ?_
            refine SA_region ?_
            refine RA_step rfl (OA_v (v := .bool false) rfl (V_assign rfl) ?_)
            refine RA_nil ?_
            refine at_normal ?_
            refine SA_ret ?_
            have hr_ := Option.some.inj H
            subst hr_
            exact BQ_R1 [] rfl rfl (Gh.sel [] rfl rfl) ⟨rfl, rfl⟩

/-! ### function 18: wayfarer/wayfarerref20.Clean -/
def F18.l0 (l0 : (List Int)) : Nat → (List Int) → Int → Option ((List Int))
  | 0, _, _ => none
  | k + 1, x3_5, x4_5 => if x4_5 < (l0.length : Int) then (if 0 ≤ x4_5 ∧ x4_5 < (l0.length : Int) then ((if (rd l0 x4_5) = 27 then (some (decide ((rd l0 x4_5) = 27))) else (some (decide ((rd l0 x4_5) = 155))) : Option (Bool)).bind (fun t15 => if t15 = true then (lt (IntKind.i64.wrap (x4_5 + 1)) fun n19 => F18.l0 l0 k x3_5 n19) else (if (rd l0 x4_5) = 10 then (if x3_5.length + ([13] : (List Int)).length ≤ 140737488355328 then lt (x3_5 ++ ([13] : (List Int))) fun n27 => (lt (IntKind.i64.wrap (x4_5 + 1)) fun n28 => F18.l0 l0 k n27 n28) else none) else (if 0 ≤ x4_5 ∧ x4_5 < (l0.length : Int) then (if x3_5.length + ([rd l0 x4_5] : (List Int)).length ≤ 140737488355328 then lt (x3_5 ++ ([rd l0 x4_5] : (List Int))) fun n37 => (lt (IntKind.i64.wrap (x4_5 + 1)) fun n38 => F18.l0 l0 k n37 n38) else none) else none)))) else none) else (some x3_5)
def F18.f (k : Nat) (l0 : (List Int)) : Option ((List Int)) := (F18.l0 l0 k ([]) 0 : Option ((List Int))).bind (fun t2 => some (t2))
set_option maxHeartbeats 2000000 in
set_option maxRecDepth 100000 in
theorem F18.ok {k : Nat} {l0 : (List Int)} {A0 : Option Addr} {c0 : Nat} {r : (List Int)} (H : F18.f k l0 = some r) : SCA Try.prog 18 #[.slice A0 l0.length c0] [Ro (Kd.int .u8) A0 c0 l0] (fun v B => ∃ (A0_0_ : Option Addr) (c0_0_ : Nat), v = .slice A0_0_ r.length c0_0_ ∧ B = [Buf (Kd.int .u8) 5 A0_0_ c0_0_ r]) := by
  refine SCA_of_body Try.func18 rfl rfl ?_
  unfold F18.f at H
  refine SA_seq ?_
  refine SA_region ?_
  refine RA_step rfl (OA_v (v := .slice none 0 0) rfl (V_assign rfl) ?_)
  refine RA_nil ?_
  refine at_normal ?_
  refine SA_seq ?_
  refine SA_region ?_
  refine RA_step rfl (OA_v (v := .slice none 0 0) rfl (V_assign rfl) ?_)
  refine RA_nil ?_
  refine at_normal ?_
  refine SA_seq ?_
  refine SA_seq ?_
  refine SA_region ?_
  refine RA_step rfl (OA_v (v := .int .i64 0) rfl (V_assign rfl) ?_)
  refine RA_nil ?_
  refine at_normal ?_
  obtain ⟨t2, H, Bt2⟩ := g_bind H
  refine SA_mid (fun e ds As => ∃ (A3 : Option Addr) (c4 : Nat), St [(3, .slice A3 t2.length c4)] [Buf (Kd.int .u8) 5 A3 c4 t2] e ds As) ?_ ?_
  · refine SA_block ?_
    refine SA_loop (fun k_ e ds As => ∃ (x3_5 : (List Int)) (x4_5 : Int), ∃ (A6 : Option Addr) (c7 : Nat), F18.l0 l0 k_ x3_5 x4_5 = some t2 ∧ St [(0, .slice A0 l0.length c0), (3, .slice A6 x3_5.length c7), (4, .int .i64 x4_5)] [Ro (Kd.int .u8) A0 c0 l0, Buf (Kd.int .u8) 5 A6 c7 x3_5] e ds As) (k := k) ⟨_, _, none, 0, H, St.mk1 (aeq rfl (aeq rfl (aeq rfl aeq0))) ((Gh.nilBuf (Kd.int .u8) 5).trans (Gh.sel [0, 1] rfl rfl))⟩ ?_
    clear H
    rintro k10 e ds As ⟨x3_5, x4_5, A6, c7, H, hst11⟩
    obtain _ | k10 := k10
    · cases H
    rw [F18.l0] at H
    refine SA.of_St hst11 fun junk => ?_
    refine SA_seq ?_
    refine SA_seq ?_
    refine SA_region ?_
    refine RA_step rfl (OA_v (v := .int .i64 x4_5) rfl (V_move rfl) ?_)
    refine RA_step rfl (OA_v (v := .slice A0 l0.length c0) rfl (V_move rfl) ?_)
    refine RA_step rfl (OA_v (v := .int .i64 (l0.length : Int)) rfl (V_len Try.underlying23 rfl) ?_)
    refine RA_step rfl (OA_v (v := .bool (decide (x4_5 < (l0.length : Int)))) rfl (V_lss rfl rfl) ?_)
    refine RA_nil ?_
    refine at_normal ?_
    by_cases h12 : x4_5 < (l0.length : Int)
    · replace H := g_ift h12 H
      refine SA_condT rfl h12 ?_
      refine SA_skip ?_
      refine at_normal ?_
      refine SA_seq ?_
      refine SA_block ?_
      refine SA_seq ?_
      refine SA_region ?_
      refine RA_step rfl (OA_v (v := .slice A0 l0.length c0) rfl (V_move rfl) ?_)
      refine RA_step rfl (OA_v (v := .int .i64 x4_5) rfl (V_move rfl) ?_)
      obtain ⟨⟨g13, g14⟩, H⟩ := g_pos H
      refine RA_step rfl (OA_r rfl (VR_index (i := x4_5) Try.underlying23 sz5 rfl rfl (Src.ro (k := 0) rfl) g13 g14) ?_)
      refine RA_step rfl (OA_r rfl (VR_load_el (enc := (fun x_ : Int => [Value.int .u8 x_])) (i := x4_5) (j := x4_5.toNat * 1) (m := 0) (sz := 1) Try.underlying5 rfl rfl rfl rfl (Src.ro (k := 0) rfl) g13 g14 (fun _ _ h => h) rfl) ?_)
      refine RA_nil ?_
      refine at_normal ?_
      refine SA_block ?_
      refine SA_seq ?_
      refine SA_seq ?_
      refine SA_region ?_
      refine RA_step rfl (OA_v (v := .bool (decide ((rd l0 x4_5) = 27))) rfl (V_eql rfl rfl) ?_)
      refine RA_step rfl (OA_v (v := .bool (decide ((rd l0 x4_5) = 27))) rfl (V_assign rfl) ?_)
      refine RA_nil ?_
      refine at_normal ?_
      obtain ⟨t15, H, Bt15⟩ := g_bind H
      refine SA_mid (fun e ds As => St [(0, .slice A0 l0.length c0), (3, .slice A6 x3_5.length c7), (4, .int .i64 x4_5), (14, .int .u8 (rd l0 x4_5)), (22, .bool t15)] [Ro (Kd.int .u8) A0 c0 l0, Buf (Kd.int .u8) 5 A6 c7 x3_5] e ds As) ?_ ?_
      · by_cases h16 : (rd l0 x4_5) = 27
        · replace H := g_ift h16 H
          refine SA_condT rfl h16 ?_
          refine SA_skip ?_
          have hr_ := Option.some.inj H
          subst hr_
          exact at_normal (St.mk1 (aeq rfl (aeq rfl (aeq rfl (aeq rfl (aeq rfl aeq0))))) (Gh.sel [0, 1] rfl rfl))
        · replace H := g_iff h16 H
          refine SA_condF rfl h16 ?_
          refine SA_region ?_
          refine RA_step rfl (OA_v (v := .bool (decide ((rd l0 x4_5) = 155))) rfl (V_eql rfl rfl) ?_)
          refine RA_step rfl (OA_v (v := .bool (decide ((rd l0 x4_5) = 155))) rfl (V_assign rfl) ?_)
          refine RA_nil ?_
          have hr_ := Option.some.inj H
          subst hr_
          exact at_normal (St.mk1 (aeq rfl (aeq rfl (aeq rfl (aeq rfl (aeq rfl aeq0))))) (Gh.sel [0, 1] rfl rfl))
      · rintro e ds As hst17
        clear H
        have H := Bt15
        clear Bt15
        refine at_normal ?_
        refine SA.of_St hst17 fun junk => ?_
        by_cases h18 : t15 = true
        · replace H := g_ift h18 H
          refine SA_condTb rfl h18 ?_
          refine SA_skip ?_
          refine inb_normal ?_
          refine inb_normal ?_
          refine at_normal ?_
          refine SA_region ?_
          refine RA_step rfl (OA_v (v := .int .i64 x4_5) rfl (V_move rfl) ?_)
          refine RA_step rfl (OA_v (v := .int .i64 (IntKind.i64.wrap (x4_5 + 1))) rfl (V_add rfl rfl) ?_)
          obtain ⟨n19, hn19, H⟩ := g_lt H
          refine RA_step rfl (OA_v (v := .int .i64 n19) rfl (V_assign (v := .int .i64 n19) (congrArg (Value.int .i64) hn19.symm)) ?_)
          refine RA_nil ?_
          exact at_normal ⟨k10, Nat.lt_succ_self _, _, _, A6, c7, H, St.mk1 (aeq rfl (aeq rfl (aeq rfl aeq0))) (Gh.sel [0, 1] rfl rfl)⟩
        · replace H := g_iff h18 H
          refine SA_condFb rfl h18 ?_
          refine SA_seq ?_
          refine SA_region ?_
          refine RA_step rfl (OA_v (v := .bool (decide ((rd l0 x4_5) = 10))) rfl (V_eql rfl rfl) ?_)
          refine RA_step rfl (OA_v (v := .bool (decide ((rd l0 x4_5) = 10))) rfl (V_assign rfl) ?_)
          refine RA_nil ?_
          refine at_normal ?_
          by_cases h20 : (rd l0 x4_5) = 10
          · replace H := g_ift h20 H
            refine SA_condT rfl h20 ?_
            refine SA_region ?_
            refine RA_step rfl (OA_v (v := .slice A6 x3_5.length c7) rfl (V_move rfl) ?_)
            refine RA_step rfl (OA_bs (kd := (Kd.int .u8)) (zv := (.int .u8 0)) (sz := 1) (cells := [.int .u8 13]) (xs := ([13] : (List Int))) rfl Try.underlying23 zero5 sz5 rfl rfl rfl (by kernel_rfl) rfl rfl (RL_enc (fun x_ : Int => [Value.int .u8 x_]) (fun _ _ => rfl) (by kernel_rfl)) fun b21 => ?_)
            obtain ⟨g24, H⟩ := g_pos H
            obtain ⟨n27, hn27, H⟩ := g_lt H
            refine RA_step rfl (OA_app (k := 1) (A := A6) (c := c7) (xs := x3_5) (ys := ([13] : (List Int))) n27 hn27 rfl Try.underlying23 inf5 rfl rfl rfl rfl rfl (Yld.slice Try.underlying23 (Src.buf (k := 2) rfl)) (by omega) (by omega) fun A25 c26 => ?_)
            refine RA_step rfl (OA_v (v := .slice A25 n27.length c26) rfl (V_assign rfl) ?_)
            refine RA_nil ?_
            refine inb_normal ?_
            refine inb_normal ?_
            refine at_normal ?_
            refine SA_region ?_
            refine RA_step rfl (OA_v (v := .int .i64 x4_5) rfl (V_move rfl) ?_)
            refine RA_step rfl (OA_v (v := .int .i64 (IntKind.i64.wrap (x4_5 + 1))) rfl (V_add rfl rfl) ?_)
            obtain ⟨n28, hn28, H⟩ := g_lt H
            refine RA_step rfl (OA_v (v := .int .i64 n28) rfl (V_assign (v := .int .i64 n28) (congrArg (Value.int .i64) hn28.symm)) ?_)
            refine RA_nil ?_
            exact at_normal ⟨k10, Nat.lt_succ_self _, _, _, A25, c26, H, St.mk1 (aeq rfl (aeq rfl (aeq rfl aeq0))) (Gh.sel [0, 1] rfl rfl)⟩
          · replace H := g_iff h20 H
            refine SA_condF rfl h20 ?_
            refine SA_region ?_
            refine RA_step rfl (OA_v (v := .slice A6 x3_5.length c7) rfl (V_move rfl) ?_)
            refine RA_step rfl (OA_v (v := .slice A0 l0.length c0) rfl (V_move rfl) ?_)
            refine RA_step rfl (OA_v (v := .int .i64 x4_5) rfl (V_move rfl) ?_)
            obtain ⟨⟨g29, g30⟩, H⟩ := g_pos H
            refine RA_step rfl (OA_r rfl (VR_index (i := x4_5) Try.underlying23 sz5 rfl rfl (Src.ro (k := 0) rfl) g29 g30) ?_)
            refine RA_step rfl (OA_r rfl (VR_load_el (enc := (fun x_ : Int => [Value.int .u8 x_])) (i := x4_5) (j := x4_5.toNat * 1) (m := 0) (sz := 1) Try.underlying5 rfl rfl rfl rfl (Src.ro (k := 0) rfl) g29 g30 (fun _ _ h => h) rfl) ?_)
            refine RA_step rfl (OA_bs (kd := (Kd.int .u8)) (zv := (.int .u8 0)) (sz := 1) (cells := [.int .u8 (rd l0 x4_5)]) (xs := ([rd l0 x4_5] : (List Int))) rfl Try.underlying23 zero5 sz5 rfl rfl rfl (by kernel_rfl) rfl rfl (RL_enc (fun x_ : Int => [Value.int .u8 x_]) (fun _ _ => rfl) (by kernel_rfl)) fun b31 => ?_)
            obtain ⟨g34, H⟩ := g_pos H
            obtain ⟨n37, hn37, H⟩ := g_lt H
            refine RA_step rfl (OA_app (k := 1) (A := A6) (c := c7) (xs := x3_5) (ys := ([rd l0 x4_5] : (List Int))) n37 hn37 rfl Try.underlying23 inf5 rfl rfl rfl rfl rfl (Yld.slice Try.underlying23 (Src.buf (k := 2) rfl)) (by omega) (by omega) fun A35 c36 => ?_)
            refine RA_step rfl (OA_v (v := .slice A35 n37.length c36) rfl (V_assign rfl) ?_)
            refine RA_nil ?_
            refine inb_normal ?_
            refine inb_normal ?_
            refine at_normal ?_
            refine SA_region ?_
            refine RA_step rfl (OA_v (v := .int .i64 x4_5) rfl (V_move rfl) ?_)
            refine RA_step rfl (OA_v (v := .int .i64 (IntKind.i64.wrap (x4_5 + 1))) rfl (V_add rfl rfl) ?_)
            obtain ⟨n38, hn38, H⟩ := g_lt H
            refine RA_step rfl (OA_v (v := .int .i64 n38) rfl (V_assign (v := .int .i64 n38) (congrArg (Value.int .i64) hn38.symm)) ?_)
            refine RA_nil ?_
            exact at_normal ⟨k10, Nat.lt_succ_self _, _, _, A35, c36, H, St.mk1 (aeq rfl (aeq rfl (aeq rfl aeq0))) (Gh.sel [0, 1] rfl rfl)⟩
    · replace H := g_iff h12 H
      refine SA_condF rfl h12 ?_
      refine SA_exit ?_
      refine thn_exit ?_
      refine thn_exit ?_
      refine inb_hit ?_
      have hr_ := Option.some.inj H
      subst hr_
      exact at_normal ⟨A6, c7, St.mk1 (aeq rfl aeq0) (Gh.sel [1] rfl rfl)⟩
  · rintro e ds As ⟨A3, c4, hst39⟩
    clear H
    have H := Bt2
    clear Bt2
    refine at_normal ?_
    refine SA.of_St hst39 fun junk => ?_
    refine SA_seq ?_
    refine SA_region ?_
    refine RA_step rfl (OA_v (v := .slice A3 t2.length c4) rfl (V_move rfl) ?_)
    refine RA_step rfl (OA_v (v := .slice A3 t2.length c4) rfl (V_assign rfl) ?_)
    refine RA_nil ?_
    refine at_normal ?_
    refine SA_ret ?_
    have hr_ := Option.some.inj H
    subst hr_
    exact BQ_R1 [Buf (Kd.int .u8) 5 A3 c4 t2] rfl rfl (Gh.sel [0] rfl rfl) ⟨A3, c4, rfl, rfl⟩

/-! ### function 15: wayfarer/wayfarerref20.Encode -/
def F15.f (k : Nat) (a0 : S25) (a1 : Bool) (a2 : Bool) : Option ((List Int) × Int) := (F59.f a0).bind (fun r4 => if (!r4) = true then (some ((([] : (List Int)), 2))) else (if a0.f0 = 1 then (if ([] : (List Int)).length + a0.f1.length ≤ 140737488355328 then lt (([] : (List Int)) ++ a0.f1) fun n14 => (some ((n14, 0))) else none) else (if a0.f0 = 3 then ((F18.f k a0.f1).bind (fun r16 => if a2 = true then (if ([27, 91, 50, 48, 48, 126] : (List Int)).length + r16.length ≤ 140737488355328 then lt (([27, 91, 50, 48, 48, 126] : (List Int)) ++ r16) fun n27 => (if n27.length + (bytesOf (⟨#[27, 91, 50, 48, 49, 126]⟩ : ByteArray)).length ≤ 140737488355328 then lt (n27 ++ (bytesOf (⟨#[27, 91, 50, 48, 49, 126]⟩ : ByteArray))) fun n32 => (some ((n32, 0))) else none) else none) else (some ((r16, 0))))) else (if a0.f0 = 4 then (if a1 = true then (some ((([27, 79, a0.f4] : (List Int)), 0))) else (some ((([27, 91, a0.f4] : (List Int)), 0)))) else (some ((([] : (List Int)), 0)))))))
set_option maxHeartbeats 2000000 in
set_option maxRecDepth 100000 in
theorem F15.ok {k : Nat} {a0 : S25} {a1 : Bool} {a2 : Bool} {A0_0 : Option Addr} {c0_0 : Nat} {r : (List Int) × Int} (H : F15.f k a0 a1 a2 = some r) : SCA Try.prog 15 #[.agg #[.int .u8 a0.f0, .slice A0_0 a0.f1.length c0_0, .int .i64 a0.f2, .int .i64 a0.f3, .int .u8 a0.f4], .bool a1, .bool a2] [Ro (Kd.int .u8) A0_0 c0_0 a0.f1] (fun v B => ∃ (A0_0_ : Option Addr) (c0_0_ : Nat), v = .tuple #[.slice A0_0_ r.1.length c0_0_, .int .i64 r.2] ∧ B = [Buf (Kd.int .u8) 5 A0_0_ c0_0_ r.1]) := by
  refine SCA_of_body Try.func15 rfl rfl ?_
  unfold F15.f at H
  refine SA_seq ?_
  refine SA_region ?_
  refine RA_step rfl (OA_box rfl rfl fun b2 => ?_)
  refine RA_step rfl (OA_v (v := .slice none 0 0) rfl (V_assign rfl) ?_)
  refine RA_step rfl (OA_v (v := .int .i64 0) rfl (V_assign rfl) ?_)
  refine RA_nil ?_
  refine at_normal ?_
  refine SA_seq ?_
  refine SA_seq ?_
  refine SA_region ?_
  refine RA_step rfl (OA_r rfl (VR_loadA_blk (b := b2) (m := 0) (k := 1) (vs := [.int .u8 a0.f0, .slice A0_0 a0.f1.length c0_0, .int .i64 a0.f2, .int .i64 a0.f3, .int .u8 a0.f4]) Try.underlying25 rfl sz25 rfl rfl rfl) ?_)
  obtain ⟨r4, C41, H⟩ := g_bind H
  refine RA_step rfl (OA_callA [0] [0, 1] rfl (X_fn (vs := [.agg #[.int .u8 a0.f0, .slice A0_0 a0.f1.length c0_0, .int .i64 a0.f2, .int .i64 a0.f3, .int .u8 a0.f4]]) Try.func59 nm59 rfl rfl) rfl (F59.ok (a0 := a0) (A0_0 := A0_0) (c0_0 := c0_0) C41) rfl ?_)
  rintro _ _ ⟨rfl, rfl⟩
  refine RA_step rfl (OA_v (v := .bool (!r4)) rfl (V_not rfl) ?_)
  refine RA_nil ?_
  refine at_normal ?_
  by_cases h5 : (!r4) = true
  · replace H := g_ift h5 H
    refine SA_condTb rfl h5 ?_
    refine SA_seq ?_
    refine SA_region ?_
    refine RA_step rfl (OA_v (v := .slice none 0 0) rfl (V_assign rfl) ?_)
    refine RA_step rfl (OA_v (v := .int .i64 2) rfl (V_assign rfl) ?_)
    refine RA_nil ?_
    refine at_normal ?_
    refine SA_ret ?_
    refine thn_ret ?_
    have hr_ := Option.some.inj H
    subst hr_
    exact BQ_R2 [Buf (Kd.int .u8) 5 none 0 ([] : (List Int))] rfl rfl rfl ((Gh.nilBuf (Kd.int .u8) 5).trans (Gh.sel [2] rfl rfl)) ⟨none, 0, rfl, rfl⟩
  · replace H := g_iff h5 H
    refine SA_condFb rfl h5 ?_
    refine SA_skip ?_
    refine at_normal ?_
    refine SA_seq ?_
    refine SA_seq ?_
    refine SA_region ?_
    refine RA_step rfl (OA_v (v := .pointer (some ⟨b2, 0, none⟩)) rfl (V_fieldAddrN (B := ⟨b2, 0, none⟩) (m := 0) (o := 0) Try.underlying25 rfl nz22 rfl rfl) ?_)
    refine RA_step rfl (OA_r rfl (VR_load_blk (b := b2) (m := 0) (k := 1) Try.underlying22 rfl rfl rfl rfl) ?_)
    refine RA_nil ?_
    refine at_normal ?_
    refine SA_block ?_
    refine SA_seq ?_
    refine SA_region ?_
    refine RA_step rfl (OA_v (v := .bool (decide (a0.f0 = 1))) rfl (V_eql rfl rfl) ?_)
    refine RA_step rfl (OA_v (v := .bool (decide (a0.f0 = 1))) rfl (V_assign rfl) ?_)
    refine RA_nil ?_
    refine at_normal ?_
    by_cases h7 : a0.f0 = 1
    · replace H := g_ift h7 H
      refine SA_condT rfl h7 ?_
      refine SA_seq ?_
      refine SA_region ?_
      refine RA_step rfl (OA_bs (kd := (Kd.int .u8)) (zv := (.int .u8 0)) (sz := 1) (cells := []) (xs := ([] : (List Int))) rfl Try.underlying23 zero5 sz5 rfl rfl rfl (by kernel_rfl) rfl rfl (RL_enc (fun x_ : Int => [Value.int .u8 x_]) (fun _ _ => rfl) (by kernel_rfl)) fun b8 => ?_)
      refine RA_step rfl (OA_v (v := .pointer (some ((⟨b2, 0, none⟩ : Addr).add 1))) rfl (V_fieldAddrN (B := ⟨b2, 0, none⟩) (m := 0) (o := 1) Try.underlying25 rfl nz23 rfl rfl) ?_)
      refine RA_step rfl (OA_r rfl (VR_load_blk (b := b2) (m := 1) (k := 1) Try.underlying23 rfl rfl rfl rfl) ?_)
      obtain ⟨g11, H⟩ := g_pos H
      obtain ⟨n14, hn14, H⟩ := g_lt H
      refine RA_step rfl (OA_app (k := 2) (A := some ⟨b8, 0, none⟩) (c := 0) (xs := ([] : (List Int))) (ys := a0.f1) n14 hn14 rfl Try.underlying23 inf5 rfl rfl rfl rfl rfl (Yld.slice Try.underlying23 (Src.ro (k := 0) rfl)) (by omega) (by omega) fun A12 c13 => ?_)
      refine RA_step rfl (OA_v (v := .slice A12 n14.length c13) rfl (V_assign rfl) ?_)
      refine RA_step rfl (OA_v (v := .int .i64 0) rfl (V_assign rfl) ?_)
      refine RA_nil ?_
      refine at_normal ?_
      refine SA_ret ?_
      refine inb_ret ?_
      refine thn_ret ?_
      have hr_ := Option.some.inj H
      subst hr_
      exact BQ_R2 [Buf (Kd.int .u8) 5 A12 c13 n14] rfl rfl rfl (Gh.sel [2] rfl rfl) ⟨A12, c13, rfl, rfl⟩
    · replace H := g_iff h7 H
      refine SA_condF rfl h7 ?_
      refine SA_seq ?_
      refine SA_region ?_
      refine RA_step rfl (OA_v (v := .bool (decide (a0.f0 = 3))) rfl (V_eql rfl rfl) ?_)
      refine RA_step rfl (OA_v (v := .bool (decide (a0.f0 = 3))) rfl (V_assign rfl) ?_)
      refine RA_nil ?_
      refine at_normal ?_
      by_cases h15 : a0.f0 = 3
      · replace H := g_ift h15 H
        refine SA_condT rfl h15 ?_
        refine SA_seq ?_
        refine SA_region ?_
        refine RA_step rfl (OA_v (v := .pointer (some ((⟨b2, 0, none⟩ : Addr).add 1))) rfl (V_fieldAddrN (B := ⟨b2, 0, none⟩) (m := 0) (o := 1) Try.underlying25 rfl nz23 rfl rfl) ?_)
        refine RA_step rfl (OA_r rfl (VR_load_blk (b := b2) (m := 1) (k := 1) Try.underlying23 rfl rfl rfl rfl) ?_)
        obtain ⟨r16, C33, H⟩ := g_bind H
        refine RA_step rfl (OA_callA [0] [0, 1] rfl (X_fn (vs := [.slice A0_0 a0.f1.length c0_0]) Try.func18 nm18 rfl rfl) rfl (F18.ok (l0 := a0.f1) (A0 := A0_0) (c0 := c0_0) C33) rfl ?_)
        rintro _ _ ⟨A17, c18, rfl, rfl⟩
        refine RA_step rfl (OA_v (v := .slice A17 r16.length c18) rfl (V_assign rfl) ?_)
        refine RA_nil ?_
        refine at_normal ?_
        refine SA_seq ?_
        refine SA_seq ?_
        refine SA_region ?_
        refine RA_step rfl (OA_v (v := .bool a2) rfl (V_move rfl) ?_)
        refine RA_nil ?_
        refine at_normal ?_
        by_cases h20 : a2 = true
        · replace H := g_ift h20 H
          refine SA_condTb rfl h20 ?_
          refine SA_region ?_
          refine RA_step rfl (OA_bs (kd := (Kd.int .u8)) (zv := (.int .u8 0)) (sz := 1) (cells := [.int .u8 27, .int .u8 91, .int .u8 50, .int .u8 48, .int .u8 48, .int .u8 126]) (xs := ([27, 91, 50, 48, 48, 126] : (List Int))) rfl Try.underlying23 zero5 sz5 rfl rfl rfl (by kernel_rfl) rfl rfl (RL_enc (fun x_ : Int => [Value.int .u8 x_]) (fun _ _ => rfl) (by kernel_rfl)) fun b21 => ?_)
          refine RA_step rfl (OA_bytesConst (k := 3) rfl Try.underlying23 Try.underlying5 rfl (by simp) rfl ?_)
          refine RA_step rfl (OA_v (v := .slice A17 r16.length c18) rfl (V_move rfl) ?_)
          obtain ⟨g24, H⟩ := g_pos H
          obtain ⟨n27, hn27, H⟩ := g_lt H
          refine RA_step rfl (OA_app (k := 3) (A := some ⟨b21, 0, none⟩) (c := 6) (xs := ([27, 91, 50, 48, 48, 126] : (List Int))) (ys := r16) n27 hn27 rfl Try.underlying23 inf5 rfl rfl rfl rfl rfl (Yld.slice Try.underlying23 (Src.buf (k := 0) rfl)) (by omega) (by omega) fun A25 c26 => ?_)
          obtain ⟨g29, H⟩ := g_pos H
          obtain ⟨n32, hn32, H⟩ := g_lt H
          refine RA_step rfl (OA_app (k := 3) (A := A25) (c := c26) (xs := n27) (ys := bytesOf (⟨#[27, 91, 50, 48, 49, 126]⟩ : ByteArray)) n32 hn32 rfl Try.underlying23 inf5 rfl rfl rfl rfl rfl (Yld.str Try.underlying9) (by omega) (by omega) fun A30 c31 => ?_)
          refine RA_step rfl (OA_v (v := .slice A30 n32.length c31) rfl (V_assign rfl) ?_)
          refine RA_nil ?_
          refine at_normal ?_
          refine SA_seq ?_
          refine SA_region ?_
          refine RA_step rfl (OA_v (v := .slice A30 n32.length c31) rfl (V_move rfl) ?_)
          refine RA_step rfl (OA_v (v := .slice A30 n32.length c31) rfl (V_assign rfl) ?_)
          refine RA_step rfl (OA_v (v := .int .i64 0) rfl (V_assign rfl) ?_)
          refine RA_nil ?_
          refine at_normal ?_
          refine SA_ret ?_
          refine inb_ret ?_
          refine thn_ret ?_
          have hr_ := Option.some.inj H
          subst hr_
          exact BQ_R2 [Buf (Kd.int .u8) 5 A30 c31 n32] rfl rfl rfl (Gh.sel [3] rfl rfl) ⟨A30, c31, rfl, rfl⟩
        · replace H := g_iff h20 H
          refine SA_condFb rfl h20 ?_
          refine SA_skip ?_
          refine at_normal ?_
          refine SA_seq ?_
          refine SA_region ?_
          refine RA_step rfl (OA_v (v := .slice A17 r16.length c18) rfl (V_move rfl) ?_)
          refine RA_step rfl (OA_v (v := .slice A17 r16.length c18) rfl (V_assign rfl) ?_)
          refine RA_step rfl (OA_v (v := .int .i64 0) rfl (V_assign rfl) ?_)
          refine RA_nil ?_
          refine at_normal ?_
          refine SA_ret ?_
          refine inb_ret ?_
          refine thn_ret ?_
          have hr_ := Option.some.inj H
          subst hr_
          exact BQ_R2 [Buf (Kd.int .u8) 5 A17 c18 r16] rfl rfl rfl (Gh.sel [0] rfl rfl) ⟨A17, c18, rfl, rfl⟩
      · replace H := g_iff h15 H
        refine SA_condF rfl h15 ?_
        refine SA_seq ?_
        refine SA_region ?_
        refine RA_step rfl (OA_v (v := .bool (decide (a0.f0 = 4))) rfl (V_eql rfl rfl) ?_)
        refine RA_step rfl (OA_v (v := .bool (decide (a0.f0 = 4))) rfl (V_assign rfl) ?_)
        refine RA_nil ?_
        refine at_normal ?_
        by_cases h34 : a0.f0 = 4
        · replace H := g_ift h34 H
          refine SA_condT rfl h34 ?_
          refine SA_seq ?_
          refine SA_seq ?_
          refine SA_region ?_
          refine RA_step rfl (OA_v (v := .bool a1) rfl (V_move rfl) ?_)
          refine RA_nil ?_
          refine at_normal ?_
          by_cases h35 : a1 = true
          · replace H := g_ift h35 H
            refine SA_condTb rfl h35 ?_
            refine SA_seq ?_
            refine SA_region ?_
            refine RA_step rfl (OA_v (v := .pointer (some ((⟨b2, 0, none⟩ : Addr).add 4))) rfl (V_fieldAddrN (B := ⟨b2, 0, none⟩) (m := 0) (o := 4) Try.underlying25 rfl nz5 rfl rfl) ?_)
            refine RA_step rfl (OA_r rfl (VR_load_blk (b := b2) (m := 4) (k := 1) Try.underlying5 rfl rfl rfl rfl) ?_)
            refine RA_step rfl (OA_bs (kd := (Kd.int .u8)) (zv := (.int .u8 0)) (sz := 1) (cells := [.int .u8 27, .int .u8 79, .int .u8 a0.f4]) (xs := ([27, 79, a0.f4] : (List Int))) rfl Try.underlying23 zero5 sz5 rfl rfl rfl (by kernel_rfl) rfl rfl (RL_enc (fun x_ : Int => [Value.int .u8 x_]) (fun _ _ => rfl) (by kernel_rfl)) fun b36 => ?_)
            refine RA_step rfl (OA_v (v := .slice (some ⟨b36, 0, none⟩) ([27, 79, a0.f4] : (List Int)).length 3) rfl (V_assign rfl) ?_)
            refine RA_step rfl (OA_v (v := .int .i64 0) rfl (V_assign rfl) ?_)
            refine RA_nil ?_
            refine at_normal ?_
            refine SA_ret ?_
            refine thn_ret ?_
            refine inb_ret ?_
            refine thn_ret ?_
            have hr_ := Option.some.inj H
            subst hr_
            exact BQ_R2 [Buf (Kd.int .u8) 5 (some ⟨b36, 0, none⟩) 3 ([27, 79, a0.f4] : (List Int))] rfl rfl rfl (Gh.sel [2] rfl rfl) ⟨some ⟨b36, 0, none⟩, 3, rfl, rfl⟩
          · replace H := g_iff h35 H
            refine SA_condFb rfl h35 ?_
            refine SA_skip ?_
            refine at_normal ?_
            refine SA_seq ?_
            refine SA_region ?_
            refine RA_step rfl (OA_v (v := .pointer (some ((⟨b2, 0, none⟩ : Addr).add 4))) rfl (V_fieldAddrN (B := ⟨b2, 0, none⟩) (m := 0) (o := 4) Try.underlying25 rfl nz5 rfl rfl) ?_)
            refine RA_step rfl (OA_r rfl (VR_load_blk (b := b2) (m := 4) (k := 1) Try.underlying5 rfl rfl rfl rfl) ?_)
            refine RA_step rfl (OA_bs (kd := (Kd.int .u8)) (zv := (.int .u8 0)) (sz := 1) (cells := [.int .u8 27, .int .u8 91, .int .u8 a0.f4]) (xs := ([27, 91, a0.f4] : (List Int))) rfl Try.underlying23 zero5 sz5 rfl rfl rfl (by kernel_rfl) rfl rfl (RL_enc (fun x_ : Int => [Value.int .u8 x_]) (fun _ _ => rfl) (by kernel_rfl)) fun b38 => ?_)
            refine RA_step rfl (OA_v (v := .slice (some ⟨b38, 0, none⟩) ([27, 91, a0.f4] : (List Int)).length 3) rfl (V_assign rfl) ?_)
            refine RA_step rfl (OA_v (v := .int .i64 0) rfl (V_assign rfl) ?_)
            refine RA_nil ?_
            refine at_normal ?_
            refine SA_ret ?_
            refine inb_ret ?_
            refine thn_ret ?_
            have hr_ := Option.some.inj H
            subst hr_
            exact BQ_R2 [Buf (Kd.int .u8) 5 (some ⟨b38, 0, none⟩) 3 ([27, 91, a0.f4] : (List Int))] rfl rfl rfl (Gh.sel [2] rfl rfl) ⟨some ⟨b38, 0, none⟩, 3, rfl, rfl⟩
        · replace H := g_iff h34 H
          refine SA_condF rfl h34 ?_
          refine SA_skip ?_
          refine inb_normal ?_
          refine at_normal ?_
          refine SA_seq ?_
          refine SA_region ?_
          refine RA_step rfl (OA_v (v := .slice none 0 0) rfl (V_assign rfl) ?_)
          refine RA_step rfl (OA_v (v := .int .i64 0) rfl (V_assign rfl) ?_)
          refine RA_nil ?_
          refine at_normal ?_
          refine SA_ret ?_
          have hr_ := Option.some.inj H
          subst hr_
          exact BQ_R2 [Buf (Kd.int .u8) 5 none 0 ([] : (List Int))] rfl rfl rfl ((Gh.nilBuf (Kd.int .u8) 5).trans (Gh.sel [2] rfl rfl)) ⟨none, 0, rfl, rfl⟩

/-! ### function 35: wayfarer/wayfarerref20.All -/
def F35.l0 (a0 : S83) (l1 : (List S25)) : Nat → (List Int) → Int → Option (Out ((List Int) × Int) ((List Int)))
  | 0, _, _ => none
  | k + 1, x6_15, x7_15 => if x7_15 < (l1.length : Int) then (if 0 ≤ x7_15 ∧ x7_15 < (l1.length : Int) then ((F15.f k (rd l1 x7_15) a0.f11 a0.f12).bind (fun r503 => if r503.2 ≠ 0 then (some (Out.ret ((([] : (List Int)), r503.2)))) else (if x6_15.length + r503.1.length ≤ 140737488355328 then lt (x6_15 ++ r503.1) fun n870 => (lt (IntKind.i64.wrap (x7_15 + 1)) fun n871 => F35.l0 a0 l1 k n870 n871) else none))) else none) else (some (Out.go x6_15))
def F35.f (k : Nat) (a0 : S83) (l1 : (List S25)) : Option ((List Int) × Int) := (F75.f k a0).bind (fun r8 => if (!r8) = true then (some ((([] : (List Int)), 2))) else ((F35.l0 a0 l1 k ([]) 0 : Option (Out ((List Int) × Int) ((List Int)))).bind (fun t11 => Out.el t11 (fun r_ => some r_) (fun s12 => some ((s12, 0))))))
set_option maxHeartbeats 2000000 in
set_option maxRecDepth 100000 in
theorem F35.ok {k : Nat} {a0 : S83} {l1 : (List S25)} {A0_0 : Option Addr} {c0_0 : Nat} {A0_1 : Option Addr} {c0_1 : Nat} {A0_2 : Option Addr} {c0_2 : Nat} {A0_3 : Option Addr} {c0_3 : Nat} {A1 : Option Addr} {c1 : Nat} {r : (List Int) × Int} (H : F35.f k a0 l1 = some r) : SCA Try.prog 35 #[.agg (List.toArray (.int .i64 a0.f0.f0 :: .int .i64 a0.f0.f1 :: .slice A0_0 a0.f0.f2.length c0_0 :: .int .i64 a0.f1 :: .int .i64 a0.f2 :: .bool a0.f3 :: .int .i64 a0.f4.f0 :: .int .i64 a0.f4.f1 :: .bool a0.f4.f2 :: .bool a0.f4.f3 :: .bool a0.f4.f4 :: .bool a0.f4.f5 :: .bool a0.f4.f6 :: .bool a0.f4.f7 :: .bool a0.f4.f8 :: .bool a0.f4.f9 :: .int .i64 a0.f5 :: .int .i64 a0.f6 :: .slice A0_1 a0.f7.length c0_1 :: .bool a0.f8 :: .bool a0.f9 :: .bool a0.f10 :: .bool a0.f11 :: .bool a0.f12 :: .bool a0.f13 :: .int .i64 a0.f14.f0 :: .int .i64 a0.f14.f1 :: .bool a0.f14.f2 :: .bool a0.f14.f3 :: .int .i64 a0.f14.f4.f0 :: .int .i64 a0.f14.f4.f1 :: .bool a0.f14.f4.f2 :: .bool a0.f14.f4.f3 :: .bool a0.f14.f4.f4 :: .bool a0.f14.f4.f5 :: .bool a0.f14.f4.f6 :: .bool a0.f14.f4.f7 :: .bool a0.f14.f4.f8 :: .bool a0.f14.f4.f9 :: .bool a0.f15 :: .int .i64 a0.f16.f0 :: .int .i64 a0.f16.f1 :: .slice A0_2 a0.f16.f2.length c0_2 :: .slice A0_3 a0.f17.length c0_3 :: [])), .slice A1 l1.length c1] [Ro k76 A0_0 c0_0 a0.f0.f2, Ro (Kd.int .i64) A0_1 c0_1 a0.f7, Ro k76 A0_2 c0_2 a0.f16.f2, Ro (Kd.int .i32) A0_3 c0_3 a0.f17, Ro k25 A1 c1 l1] (fun v B => ∃ (A0_0_ : Option Addr) (c0_0_ : Nat), v = .tuple #[.slice A0_0_ r.1.length c0_0_, .int .i64 r.2] ∧ B = [Buf (Kd.int .u8) 5 A0_0_ c0_0_ r.1]) := by
  refine SCA_of_body Try.func35 rfl rfl ?_
  unfold F35.f at H
  refine SA_seq ?_
  refine SA_region ?_
  refine RA_step rfl (OA_box rfl rfl fun b6 => ?_)
  refine RA_step rfl (OA_v (v := .slice none 0 0) rfl (V_assign rfl) ?_)
  refine RA_step rfl (OA_v (v := .int .i64 0) rfl (V_assign rfl) ?_)
  refine RA_nil ?_
  refine at_normal ?_
  refine SA_seq ?_
  refine SA_seq ?_
  refine SA_region ?_
  refine RA_step rfl (OA_r rfl (VR_loadA_blk (b := b6) (m := 0) (k := 5) (vs := (.int .i64 a0.f0.f0 :: .int .i64 a0.f0.f1 :: .slice A0_0 a0.f0.f2.length c0_0 :: .int .i64 a0.f1 :: .int .i64 a0.f2 :: .bool a0.f3 :: .int .i64 a0.f4.f0 :: .int .i64 a0.f4.f1 :: .bool a0.f4.f2 :: .bool a0.f4.f3 :: .bool a0.f4.f4 :: .bool a0.f4.f5 :: .bool a0.f4.f6 :: .bool a0.f4.f7 :: .bool a0.f4.f8 :: .bool a0.f4.f9 :: .int .i64 a0.f5 :: .int .i64 a0.f6 :: .slice A0_1 a0.f7.length c0_1 :: .bool a0.f8 :: .bool a0.f9 :: .bool a0.f10 :: .bool a0.f11 :: .bool a0.f12 :: .bool a0.f13 :: .int .i64 a0.f14.f0 :: .int .i64 a0.f14.f1 :: .bool a0.f14.f2 :: .bool a0.f14.f3 :: .int .i64 a0.f14.f4.f0 :: .int .i64 a0.f14.f4.f1 :: .bool a0.f14.f4.f2 :: .bool a0.f14.f4.f3 :: .bool a0.f14.f4.f4 :: .bool a0.f14.f4.f5 :: .bool a0.f14.f4.f6 :: .bool a0.f14.f4.f7 :: .bool a0.f14.f4.f8 :: .bool a0.f14.f4.f9 :: .bool a0.f15 :: .int .i64 a0.f16.f0 :: .int .i64 a0.f16.f1 :: .slice A0_2 a0.f16.f2.length c0_2 :: .slice A0_3 a0.f17.length c0_3 :: [])) Try.underlying83 rfl sz83 rfl rfl rfl) ?_)
  obtain ⟨r8, C873, H⟩ := g_bind H
  refine RA_step rfl (OA_callA [0, 1, 2, 3] [0, 1, 2, 3, 4, 5] rfl (X_fn (vs := [.agg (List.toArray (.int .i64 a0.f0.f0 :: .int .i64 a0.f0.f1 :: .slice A0_0 a0.f0.f2.length c0_0 :: .int .i64 a0.f1 :: .int .i64 a0.f2 :: .bool a0.f3 :: .int .i64 a0.f4.f0 :: .int .i64 a0.f4.f1 :: .bool a0.f4.f2 :: .bool a0.f4.f3 :: .bool a0.f4.f4 :: .bool a0.f4.f5 :: .bool a0.f4.f6 :: .bool a0.f4.f7 :: .bool a0.f4.f8 :: .bool a0.f4.f9 :: .int .i64 a0.f5 :: .int .i64 a0.f6 :: .slice A0_1 a0.f7.length c0_1 :: .bool a0.f8 :: .bool a0.f9 :: .bool a0.f10 :: .bool a0.f11 :: .bool a0.f12 :: .bool a0.f13 :: .int .i64 a0.f14.f0 :: .int .i64 a0.f14.f1 :: .bool a0.f14.f2 :: .bool a0.f14.f3 :: .int .i64 a0.f14.f4.f0 :: .int .i64 a0.f14.f4.f1 :: .bool a0.f14.f4.f2 :: .bool a0.f14.f4.f3 :: .bool a0.f14.f4.f4 :: .bool a0.f14.f4.f5 :: .bool a0.f14.f4.f6 :: .bool a0.f14.f4.f7 :: .bool a0.f14.f4.f8 :: .bool a0.f14.f4.f9 :: .bool a0.f15 :: .int .i64 a0.f16.f0 :: .int .i64 a0.f16.f1 :: .slice A0_2 a0.f16.f2.length c0_2 :: .slice A0_3 a0.f17.length c0_3 :: []))]) Try.func75 nm75 rfl rfl) rfl (F75.ok (a0 := a0) (A0_0 := A0_0) (c0_0 := c0_0) (A0_1 := A0_1) (c0_1 := c0_1) (A0_2 := A0_2) (c0_2 := c0_2) (A0_3 := A0_3) (c0_3 := c0_3) C873) rfl ?_)
  rintro _ _ ⟨rfl, rfl⟩
  refine RA_step rfl (OA_v (v := .bool (!r8)) rfl (V_not rfl) ?_)
  refine RA_nil ?_
  refine at_normal ?_
  by_cases h9 : (!r8) = true
  · replace H := g_ift h9 H
    refine SA_condTb rfl h9 ?_
    refine SA_seq ?_
    refine SA_region ?_
    refine RA_step rfl (OA_v (v := .slice none 0 0) rfl (V_assign rfl) ?_)
    refine RA_step rfl (OA_v (v := .int .i64 2) rfl (V_assign rfl) ?_)
    refine RA_nil ?_
    refine at_normal ?_
    refine SA_ret ?_
    refine thn_ret ?_
    have hr_ := Option.some.inj H
    subst hr_
    exact BQ_R2 [Buf (Kd.int .u8) 5 none 0 ([] : (List Int))] rfl rfl rfl ((Gh.nilBuf (Kd.int .u8) 5).trans (Gh.sel [6] rfl rfl)) ⟨none, 0, rfl, rfl⟩
  · replace H := g_iff h9 H
    refine SA_condFb rfl h9 ?_
    refine SA_skip ?_
    refine at_normal ?_
    refine SA_seq ?_
    refine SA_region ?_
    refine RA_step rfl (OA_v (v := .slice none 0 0) rfl (V_assign rfl) ?_)
    refine RA_nil ?_
    refine at_normal ?_
    refine SA_seq ?_
    refine SA_seq ?_
    refine SA_region ?_
    refine RA_step rfl (OA_v (v := .int .i64 0) rfl (V_assign rfl) ?_)
    refine RA_nil ?_
    refine at_normal ?_
    obtain ⟨t11, H, Bt11⟩ := g_bind H
    refine SA_mid (fun e ds As => ∃ (s12 : (List Int)), t11 = Out.go s12 ∧ ∃ (A13 : Option Addr) (c14 : Nat), St [(6, .slice A13 s12.length c14)] [Buf (Kd.int .u8) 5 A13 c14 s12] e ds As) ?_ ?_
    · refine SA_block ?_
      refine SA_loop (fun k_ e ds As => ∃ (x6_15 : (List Int)) (x7_15 : Int), ∃ (A16 : Option Addr) (c17 : Nat), F35.l0 a0 l1 k_ x6_15 x7_15 = some t11 ∧ St [(1, .slice A1 l1.length c1), (2, .pointer (some ⟨b6, 0, none⟩)), (6, .slice A16 x6_15.length c17), (7, .int .i64 x7_15)] [Ro k25 A1 c1 l1, Blk b6 83 (.int .i64 a0.f0.f0 :: .int .i64 a0.f0.f1 :: .slice A0_0 a0.f0.f2.length c0_0 :: .int .i64 a0.f1 :: .int .i64 a0.f2 :: .bool a0.f3 :: .int .i64 a0.f4.f0 :: .int .i64 a0.f4.f1 :: .bool a0.f4.f2 :: .bool a0.f4.f3 :: .bool a0.f4.f4 :: .bool a0.f4.f5 :: .bool a0.f4.f6 :: .bool a0.f4.f7 :: .bool a0.f4.f8 :: .bool a0.f4.f9 :: .int .i64 a0.f5 :: .int .i64 a0.f6 :: .slice A0_1 a0.f7.length c0_1 :: .bool a0.f8 :: .bool a0.f9 :: .bool a0.f10 :: .bool a0.f11 :: .bool a0.f12 :: .bool a0.f13 :: .int .i64 a0.f14.f0 :: .int .i64 a0.f14.f1 :: .bool a0.f14.f2 :: .bool a0.f14.f3 :: .int .i64 a0.f14.f4.f0 :: .int .i64 a0.f14.f4.f1 :: .bool a0.f14.f4.f2 :: .bool a0.f14.f4.f3 :: .bool a0.f14.f4.f4 :: .bool a0.f14.f4.f5 :: .bool a0.f14.f4.f6 :: .bool a0.f14.f4.f7 :: .bool a0.f14.f4.f8 :: .bool a0.f14.f4.f9 :: .bool a0.f15 :: .int .i64 a0.f16.f0 :: .int .i64 a0.f16.f1 :: .slice A0_2 a0.f16.f2.length c0_2 :: .slice A0_3 a0.f17.length c0_3 :: []), Ro k76 A0_0 c0_0 a0.f0.f2, Ro (Kd.int .i64) A0_1 c0_1 a0.f7, Ro k76 A0_2 c0_2 a0.f16.f2, Ro (Kd.int .i32) A0_3 c0_3 a0.f17, Buf (Kd.int .u8) 5 A16 c17 x6_15] e ds As) (k := k) ⟨_, _, none, 0, H, St.mk1 (aeq rfl (aeq rfl (aeq rfl (aeq rfl aeq0)))) ((Gh.nilBuf (Kd.int .u8) 5).trans (Gh.sel [4, 5, 0, 1, 2, 3, 6] rfl rfl))⟩ ?_
      clear H
      rintro k20 e ds As ⟨x6_15, x7_15, A16, c17, H, hst21⟩
      obtain _ | k20 := k20
      · cases H
      rw [F35.l0] at H
      refine SA.of_St hst21 fun junk => ?_
      refine SA_seq ?_
      refine SA_seq ?_
      refine SA_region ?_
      refine RA_step rfl (OA_v (v := .int .i64 x7_15) rfl (V_move rfl) ?_)
      refine RA_step rfl (OA_v (v := .slice A1 l1.length c1) rfl (V_move rfl) ?_)
      refine RA_step rfl (OA_v (v := .int .i64 (l1.length : Int)) rfl (V_len Try.underlying84 rfl) ?_)
      refine RA_step rfl (OA_v (v := .bool (decide (x7_15 < (l1.length : Int)))) rfl (V_lss rfl rfl) ?_)
      refine RA_nil ?_
      refine at_normal ?_
      by_cases h22 : x7_15 < (l1.length : Int)
      · replace H := g_ift h22 H
        refine SA_condT rfl h22 ?_
        refine SA_skip ?_
        refine at_normal ?_
        refine SA_seq ?_
        refine SA_block ?_
        refine SA_seq ?_
        refine SA_drawH [0, 1, 2, 4, 5, 6, 7, 9, 10, 11, 12, 13] (List.toArray ([] :: [] :: [0, 1] :: [0, 1, 2] :: [] :: [4] :: [] :: [6] :: [0, 1, 2, 4, 5, 6, 7] :: [0, 1, 2, 4, 5, 6, 7] :: [0, 1, 2, 4, 5, 6, 7, 9] :: [0, 1, 2, 4, 5, 6, 7, 9] :: [0, 1, 2, 4, 5, 6, 7, 9, 10] :: [0, 1, 2, 4, 5, 6, 7, 9, 10, 11, 12] :: [])) [0, 1, 2, 3, 4, 5] [0, 2, 3, 4, 5, 6] mixed rfl rfl rfl fun I0 hS h0 hh0 w0 sH dd => ?_
        refine DH_take (v := .slice A1 l1.length c1) 0 (by kernel_rfl) rfl rfl (.no rfl) (PanOk.thn (PanOk.inb (PanOk.thn (PanOk.thn (PanOk.inb (PanOk.thn (PanOk.thn PanOk.body))))))) sH rfl (VR.ofV (V_move rfl)) ?_
        refine DH_take (v := .int .i64 x7_15) 1 (by kernel_rfl) rfl rfl (.no rfl) (PanOk.thn (PanOk.inb (PanOk.thn (PanOk.thn (PanOk.inb (PanOk.thn (PanOk.thn PanOk.body))))))) sH rfl (VR.ofV (V_move rfl)) ?_
        obtain ⟨⟨g143, g144⟩, H⟩ := g_pos H
        refine DH_take 2 (by kernel_rfl) rfl rfl (.no rfl) (PanOk.thn (PanOk.inb (PanOk.thn (PanOk.thn (PanOk.inb (PanOk.thn (PanOk.thn PanOk.body))))))) sH rfl (VR_index (i := x7_15) Try.underlying84 sz25 rfl rfl (Src.ro (k := 0) rfl) g143 g144) ?_
        refine DH_take (v := .pointer (some ((⟨b6, 0, none⟩ : Addr).add 22))) 4 (by kernel_rfl) rfl rfl (.no rfl) (PanOk.thn (PanOk.inb (PanOk.thn (PanOk.thn (PanOk.inb (PanOk.thn (PanOk.thn PanOk.body))))))) sH rfl (VR.ofV (V_fieldAddrN (B := ⟨b6, 0, none⟩) (m := 0) (o := 22) Try.underlying83 rfl nz4 rfl rfl)) ?_
        refine DH_take 5 (by kernel_rfl) rfl rfl (.no rfl) (PanOk.thn (PanOk.inb (PanOk.thn (PanOk.thn (PanOk.inb (PanOk.thn (PanOk.thn PanOk.body))))))) sH rfl (VR_load_blk (b := b6) (m := 22) (k := 1) Try.underlying4 rfl rfl rfl rfl) ?_
        refine DH_take (v := .pointer (some ((⟨b6, 0, none⟩ : Addr).add 23))) 6 (by kernel_rfl) rfl rfl (.no rfl) (PanOk.thn (PanOk.inb (PanOk.thn (PanOk.thn (PanOk.inb (PanOk.thn (PanOk.thn PanOk.body))))))) sH rfl (VR.ofV (V_fieldAddrN (B := ⟨b6, 0, none⟩) (m := 0) (o := 23) Try.underlying83 rfl nz4 rfl rfl)) ?_
        refine DH_take 7 (by kernel_rfl) rfl rfl (.no rfl) (PanOk.thn (PanOk.inb (PanOk.thn (PanOk.thn (PanOk.inb (PanOk.thn (PanOk.thn PanOk.body))))))) sH rfl (VR_load_blk (b := b6) (m := 23) (k := 1) Try.underlying4 rfl rfl rfl rfl) ?_
        refine DH_one 3 dd (by kernel_rfl) rfl (.no rfl) (OA_loadSlA (i := x7_15) (j := x7_15.toNat * 5) (m := 0) (sz := 5) (k := 5) (fun vs_ Bs_ => ∃ (A203 : Option Addr) (c204 : Nat), vs_ = [.int .u8 ((rd l1 x7_15).f0), .slice A203 ((rd l1 x7_15).f1).length c204, .int .i64 ((rd l1 x7_15).f2), .int .i64 ((rd l1 x7_15).f3), .int .u8 ((rd l1 x7_15).f4)] ∧ Bs_ = [Ro (Kd.int .u8) A203 c204 ((rd l1 x7_15).f1)]) rfl Try.underlying25 rfl sz25 rfl rfl rfl (Src.ro (k := 0) rfl) g143 g144 (fun _ _ ⟨_, ⟨A203, c204, e_, eb_⟩, hp_⟩ => ⟨_, ⟨A203, c204, by subst e_; rfl, rfl⟩, fun B_ hB_ => hp_ B_ (by subst eb_; first | exact hB_ | (simp only [List.mem_cons, List.not_mem_nil, or_false] at hB_ ⊢; first | exact hB_ | simp [hB_]))⟩) (fun _ _ ⟨_, _, e_, _⟩ => by subst e_; rfl) ?_)
        rintro _ _ ⟨A203, c204, rfl, rfl⟩
        obtain ⟨r503, C507, H⟩ := g_bind H
        refine DH_one 8 dd (by kernel_rfl) rfl (.no rfl) (OA_callA [6] [0, 1, 2, 3, 4, 5, 6] rfl (X_fn (vs := [.agg #[.int .u8 ((rd l1 x7_15).f0), .slice A203 ((rd l1 x7_15).f1).length c204, .int .i64 ((rd l1 x7_15).f2), .int .i64 ((rd l1 x7_15).f3), .int .u8 ((rd l1 x7_15).f4)], .bool a0.f11, .bool a0.f12]) Try.func15 nm15 rfl rfl) rfl (F15.ok (a0 := (rd l1 x7_15)) (A0_0 := A203) (c0_0 := c204) (a1 := a0.f11) (a2 := a0.f12) C507) rfl ?_)
        rintro _ _ ⟨A504, c505, rfl, rfl⟩
        refine DH_take (v := .tuple #[.slice A504 r503.1.length c505, .int .i64 r503.2]) 9 (by kernel_rfl) rfl rfl (.no rfl) (PanOk.thn (PanOk.inb (PanOk.thn (PanOk.thn (PanOk.inb (PanOk.thn (PanOk.thn PanOk.body))))))) sH rfl (VR.ofV (V_move rfl)) ?_
        refine DH_take (v := .slice A504 r503.1.length c505) 10 (by kernel_rfl) rfl rfl (.no rfl) (PanOk.thn (PanOk.inb (PanOk.thn (PanOk.thn (PanOk.inb (PanOk.thn (PanOk.thn PanOk.body))))))) sH rfl (VR.ofV (V_extract rfl rfl)) ?_
        refine DH_take (v := .int .i64 r503.2) 11 (by kernel_rfl) rfl rfl (.no rfl) (PanOk.thn (PanOk.inb (PanOk.thn (PanOk.thn (PanOk.inb (PanOk.thn (PanOk.thn PanOk.body))))))) sH rfl (VR.ofV (V_extract rfl rfl)) ?_
        refine DH_take (v := .slice A504 r503.1.length c505) 12 (by kernel_rfl) rfl rfl (.no rfl) (PanOk.thn (PanOk.inb (PanOk.thn (PanOk.thn (PanOk.inb (PanOk.thn (PanOk.thn PanOk.body))))))) sH rfl (VR.ofV (V_assign rfl)) ?_
        refine DH_take (v := .int .i64 r503.2) 13 (by kernel_rfl) rfl rfl (.no rfl) (PanOk.thn (PanOk.inb (PanOk.thn (PanOk.thn (PanOk.inb (PanOk.thn (PanOk.thn PanOk.body))))))) sH rfl (VR.ofV (V_assign rfl)) ?_
        refine DH_open dd sH ?_
        refine DN_done (by kernel_rfl) ?_
        refine at_normal ?_
        refine SA.of_St (l := [(1, .slice A1 l1.length c1), (2, .pointer (some ⟨b6, 0, none⟩)), (6, .slice A16 x6_15.length c17), (7, .int .i64 x7_15), (8, .slice A504 r503.1.length c505), (9, .int .i64 r503.2)]) (B := [Ro k25 A1 c1 l1, Blk b6 83 (.int .i64 a0.f0.f0 :: .int .i64 a0.f0.f1 :: .slice A0_0 a0.f0.f2.length c0_0 :: .int .i64 a0.f1 :: .int .i64 a0.f2 :: .bool a0.f3 :: .int .i64 a0.f4.f0 :: .int .i64 a0.f4.f1 :: .bool a0.f4.f2 :: .bool a0.f4.f3 :: .bool a0.f4.f4 :: .bool a0.f4.f5 :: .bool a0.f4.f6 :: .bool a0.f4.f7 :: .bool a0.f4.f8 :: .bool a0.f4.f9 :: .int .i64 a0.f5 :: .int .i64 a0.f6 :: .slice A0_1 a0.f7.length c0_1 :: .bool a0.f8 :: .bool a0.f9 :: .bool a0.f10 :: .bool a0.f11 :: .bool a0.f12 :: .bool a0.f13 :: .int .i64 a0.f14.f0 :: .int .i64 a0.f14.f1 :: .bool a0.f14.f2 :: .bool a0.f14.f3 :: .int .i64 a0.f14.f4.f0 :: .int .i64 a0.f14.f4.f1 :: .bool a0.f14.f4.f2 :: .bool a0.f14.f4.f3 :: .bool a0.f14.f4.f4 :: .bool a0.f14.f4.f5 :: .bool a0.f14.f4.f6 :: .bool a0.f14.f4.f7 :: .bool a0.f14.f4.f8 :: .bool a0.f14.f4.f9 :: .bool a0.f15 :: .int .i64 a0.f16.f0 :: .int .i64 a0.f16.f1 :: .slice A0_2 a0.f16.f2.length c0_2 :: .slice A0_3 a0.f17.length c0_3 :: []), Ro k76 A0_0 c0_0 a0.f0.f2, Ro (Kd.int .i64) A0_1 c0_1 a0.f7, Ro k76 A0_2 c0_2 a0.f16.f2, Ro (Kd.int .i32) A0_3 c0_3 a0.f17, Buf (Kd.int .u8) 5 A16 c17 x6_15, Buf (Kd.int .u8) 5 A504 c505 r503.1]) (St.mk1 (aeq rfl (aeq rfl (aeq rfl (aeq rfl (aeq rfl (aeq rfl aeq0)))))) (Gh.sel [0, 1, 2, 3, 4, 5, 12, 6] rfl rfl)) fun junk => ?_
        refine SA_seq ?_
        refine SA_seq ?_
        refine SA_region ?_
        refine RA_step rfl (OA_v (v := .int .i64 r503.2) rfl (V_move rfl) ?_)
        refine RA_step rfl (OA_v (v := .bool (decide (r503.2 ≠ 0))) rfl (V_neq rfl rfl) ?_)
        refine RA_nil ?_
        refine at_normal ?_
        by_cases h864 : r503.2 ≠ 0
        · replace H := g_ift h864 H
          refine SA_condT rfl h864 ?_
          refine SA_seq ?_
          refine SA_region ?_
          refine RA_step rfl (OA_v (v := .int .i64 r503.2) rfl (V_move rfl) ?_)
          refine RA_step rfl (OA_v (v := .slice none 0 0) rfl (V_assign rfl) ?_)
          refine RA_step rfl (OA_v (v := .int .i64 r503.2) rfl (V_assign rfl) ?_)
          refine RA_nil ?_
          refine at_normal ?_
          refine SA_ret ?_
          refine thn_ret ?_
          refine inb_ret ?_
          refine thn_ret ?_
          refine thn_ret ?_
          refine inb_ret ?_
          refine thn_ret ?_
          refine thn_ret ?_
          have hr_ := Option.some.inj H
          subst hr_
          have hb_ := el_ret Bt11
          have hr_ := Option.some.inj hb_
          clear hb_
          subst hr_
          exact BQ_R2 [Buf (Kd.int .u8) 5 none 0 ([] : (List Int))] rfl rfl rfl ((Gh.nilBuf (Kd.int .u8) 5).trans (Gh.sel [8] rfl rfl)) ⟨none, 0, rfl, rfl⟩
        · replace H := g_iff h864 H
          refine SA_condF rfl h864 ?_
          refine SA_skip ?_
          refine at_normal ?_
          refine SA_region ?_
          refine RA_step rfl (OA_v (v := .slice A16 x6_15.length c17) rfl (V_move rfl) ?_)
          refine RA_step rfl (OA_v (v := .slice A504 r503.1.length c505) rfl (V_move rfl) ?_)
          obtain ⟨g867, H⟩ := g_pos H
          obtain ⟨n870, hn870, H⟩ := g_lt H
          refine RA_step rfl (OA_app (k := 6) (A := A16) (c := c17) (xs := x6_15) (ys := r503.1) n870 hn870 rfl Try.underlying23 inf5 rfl rfl rfl rfl rfl (Yld.slice Try.underlying23 (Src.buf (k := 7) rfl)) (by omega) (by omega) fun A868 c869 => ?_)
          refine RA_step rfl (OA_v (v := .slice A868 n870.length c869) rfl (V_assign rfl) ?_)
          refine RA_nil ?_
          refine inb_normal ?_
          refine at_normal ?_
          refine SA_region ?_
          refine RA_step rfl (OA_v (v := .int .i64 x7_15) rfl (V_move rfl) ?_)
          refine RA_step rfl (OA_v (v := .int .i64 (IntKind.i64.wrap (x7_15 + 1))) rfl (V_add rfl rfl) ?_)
          obtain ⟨n871, hn871, H⟩ := g_lt H
          refine RA_step rfl (OA_v (v := .int .i64 n871) rfl (V_assign (v := .int .i64 n871) (congrArg (Value.int .i64) hn871.symm)) ?_)
          refine RA_nil ?_
          exact at_normal ⟨k20, Nat.lt_succ_self _, _, _, A868, c869, H, St.mk1 (aeq rfl (aeq rfl (aeq rfl (aeq rfl aeq0)))) (Gh.sel [0, 1, 2, 3, 4, 5, 6] rfl rfl)⟩
      · replace H := g_iff h22 H
        refine SA_condF rfl h22 ?_
        refine SA_exit ?_
        refine thn_exit ?_
        refine thn_exit ?_
        refine inb_hit ?_
        have hr_ := Option.some.inj H
        subst hr_
        exact at_normal ⟨x6_15, rfl, A16, c17, St.mk1 (aeq rfl aeq0) (Gh.sel [6] rfl rfl)⟩
    · rintro e ds As ⟨s12, ht, A13, c14, hst872⟩
      clear H
      subst ht
      replace Bt11 := el_go Bt11
      have H := Bt11
      clear Bt11
      refine at_normal ?_
      refine SA.of_St hst872 fun junk => ?_
      refine SA_seq ?_
      refine SA_region ?_
      refine RA_step rfl (OA_v (v := .slice A13 s12.length c14) rfl (V_move rfl) ?_)
      refine RA_step rfl (OA_v (v := .slice A13 s12.length c14) rfl (V_assign rfl) ?_)
      refine RA_step rfl (OA_v (v := .int .i64 0) rfl (V_assign rfl) ?_)
      refine RA_nil ?_
      refine at_normal ?_
      refine SA_ret ?_
      have hr_ := Option.some.inj H
      subst hr_
      exact BQ_R2 [Buf (Kd.int .u8) 5 A13 c14 s12] rfl rfl rfl (Gh.sel [0] rfl rfl) ⟨A13, c14, rfl, rfl⟩

/-! ### function 16: wayfarer/wayfarerref02.Same -/
def F16.f (l0 : (List Int)) (l1 : (List Int)) : Option (Bool) := some (decide ((strOf l0) = (strOf l1)))
set_option maxHeartbeats 2000000 in
set_option maxRecDepth 100000 in
theorem F16.ok {l0 : (List Int)} {l1 : (List Int)} {A0 : Option Addr} {c0 : Nat} {A1 : Option Addr} {c1 : Nat} {r : Bool} (H : F16.f l0 l1 = some r) : SCA Try.prog 16 #[.slice A0 l0.length c0, .slice A1 l1.length c1] [Ro (Kd.int .u8) A0 c0 l0, Ro (Kd.int .u8) A1 c1 l1] (fun v B => v = .bool r ∧ B = []) := by
  refine SCA_of_body Try.func16 rfl rfl ?_
  unfold F16.f at H
  refine SA_seq ?_
  refine SA_region ?_
  refine RA_step rfl (OA_v (v := .bool false) rfl (V_assign rfl) ?_)
  refine RA_nil ?_
  refine at_normal ?_
  refine SA_seq ?_
  refine SA_region ?_
  refine RA_step rfl (OA_v (v := .slice A0 l0.length c0) rfl (V_move rfl) ?_)
  refine RA_step rfl (OA_r rfl (VR_str Try.underlying23 Try.underlying5 Try.underlying9 rfl (Src.ro (k := 0) rfl)) ?_)
  refine RA_step rfl (OA_v (v := .slice A1 l1.length c1) rfl (V_move rfl) ?_)
  refine RA_step rfl (OA_r rfl (VR_str Try.underlying23 Try.underlying5 Try.underlying9 rfl (Src.ro (k := 1) rfl)) ?_)
  refine RA_step rfl (OA_v (v := .bool (decide ((strOf l0) = (strOf l1)))) rfl (V_eqlS rfl rfl) ?_)
  refine RA_step rfl (OA_v (v := .bool (decide ((strOf l0) = (strOf l1)))) rfl (V_assign rfl) ?_)
  refine RA_nil ?_
  refine at_normal ?_
  refine SA_ret ?_
  have hr_ := Option.some.inj H
  subst hr_
  exact BQ_R1 [] rfl rfl (Gh.sel [] rfl rfl) ⟨rfl, rfl⟩

/-! ### function 19: wayfarer/wayfarerlaw20.anchored -/
def F19.f (k : Nat)  : Option (Bool) := (F14.f k (S25.mk 4 ([] : (List Int)) 0 0 65) false false).bind (fun r2 => (F14.f k (S25.mk 4 ([] : (List Int)) 0 0 65) true false).bind (fun r7 => (F14.f k (S25.mk 3 ([97, 27, 98, 10] : (List Int)) 0 0 0) false true).bind (fun r13 => lt ((decide (r2.2 = 0)) && (decide (r7.2 = 0))) fun q17 => lt (q17 && (decide (r13.2 = 0))) fun q20 => (if q20 = true then ((F16.f r2.1 ([27, 91, 65] : (List Int))).bind (fun r27 => some r27)) else (some false) : Option Bool).bind (fun q23 => (if q23 = true then ((F16.f r7.1 ([27, 79, 65] : (List Int))).bind (fun r34 => some r34)) else (some false) : Option Bool).bind (fun q30 => (if q30 = true then ((F16.f r13.1 ((27 :: 91 :: 50 :: 48 :: 48 :: 126 :: 97 :: 98 :: 13 :: 27 :: 91 :: 50 :: 48 :: 49 :: 126 :: []) : (List Int))).bind (fun r41 => some r41)) else (some false) : Option Bool).bind (fun q37 => some (q37)))))))
set_option maxHeartbeats 2000000 in
set_option maxRecDepth 100000 in
theorem F19.ok {k : Nat}  {r : Bool} (H : F19.f k  = some r) : SCA Try.prog 19 #[] [] (fun v B => v = .bool r ∧ B = []) := by
  refine SCA_of_body Try.func19 rfl rfl ?_
  unfold F19.f at H
  refine SA_seq ?_
  refine SA_region ?_
  refine RA_step rfl (OA_v (v := .bool false) rfl (V_assign rfl) ?_)
  refine RA_nil ?_
  refine at_normal ?_
  refine SA_seq ?_
  refine SA_region ?_
  refine RA_step rfl (OA_v (v := .agg #[.int .u8 4, .slice none 0 0, .int .i64 0, .int .i64 0, .int .u8 65]) rfl (V_build (cells := [.int .u8 4, .slice none 0 0, .int .i64 0, .int .i64 0, .int .u8 65]) zero25 Try.underlying25 plc25 (by kernel_rfl)) ?_)
  obtain ⟨r2, C46, H⟩ := g_bind H
  refine RA_step rfl (OA.ghost (Gh.nilRo (Kd.int .u8) none 0) (OA_callA [0] [0] rfl (X_fn (vs := [.agg #[.int .u8 4, .slice none 0 0, .int .i64 0, .int .i64 0, .int .u8 65], .bool false, .bool false]) Try.func14 nm14 rfl rfl) rfl (F14.ok (a0 := (S25.mk 4 ([] : (List Int)) 0 0 65)) (A0_0 := none) (c0_0 := 0) (a1 := false) (a2 := false) C46) rfl ?_))
  rintro _ _ ⟨A3, c4, rfl, rfl⟩
  refine RA_step rfl (OA_v (v := .tuple #[.slice A3 r2.1.length c4, .int .i64 r2.2]) rfl (V_move rfl) ?_)
  refine RA_step rfl (OA_v (v := .slice A3 r2.1.length c4) rfl (V_extract rfl rfl) ?_)
  refine RA_step rfl (OA_v (v := .int .i64 r2.2) rfl (V_extract rfl rfl) ?_)
  refine RA_step rfl (OA_v (v := .slice A3 r2.1.length c4) rfl (V_assign rfl) ?_)
  refine RA_step rfl (OA_v (v := .int .i64 r2.2) rfl (V_assign rfl) ?_)
  refine RA_nil ?_
  refine at_normal ?_
  refine SA_seq ?_
  refine SA_region ?_
  refine RA_step rfl (OA_v (v := .agg #[.int .u8 4, .slice none 0 0, .int .i64 0, .int .i64 0, .int .u8 65]) rfl (V_build (cells := [.int .u8 4, .slice none 0 0, .int .i64 0, .int .i64 0, .int .u8 65]) zero25 Try.underlying25 plc25 (by kernel_rfl)) ?_)
  obtain ⟨r7, C45, H⟩ := g_bind H
  refine RA_step rfl (OA.ghost (Gh.nilRo (Kd.int .u8) none 0) (OA_callA [2] [0, 1, 2] rfl (X_fn (vs := [.agg #[.int .u8 4, .slice none 0 0, .int .i64 0, .int .i64 0, .int .u8 65], .bool true, .bool false]) Try.func14 nm14 rfl rfl) rfl (F14.ok (a0 := (S25.mk 4 ([] : (List Int)) 0 0 65)) (A0_0 := none) (c0_0 := 0) (a1 := true) (a2 := false) C45) rfl ?_))
  rintro _ _ ⟨A8, c9, rfl, rfl⟩
  refine RA_step rfl (OA_v (v := .tuple #[.slice A8 r7.1.length c9, .int .i64 r7.2]) rfl (V_move rfl) ?_)
  refine RA_step rfl (OA_v (v := .slice A8 r7.1.length c9) rfl (V_extract rfl rfl) ?_)
  refine RA_step rfl (OA_v (v := .int .i64 r7.2) rfl (V_extract rfl rfl) ?_)
  refine RA_step rfl (OA_v (v := .slice A8 r7.1.length c9) rfl (V_assign rfl) ?_)
  refine RA_step rfl (OA_v (v := .int .i64 r7.2) rfl (V_assign rfl) ?_)
  refine RA_nil ?_
  refine at_normal ?_
  refine SA_seq ?_
  refine SA_region ?_
  refine RA_step rfl (OA_bs (kd := (Kd.int .u8)) (zv := (.int .u8 0)) (sz := 1) (cells := [.int .u8 97, .int .u8 27, .int .u8 98, .int .u8 10]) (xs := ([97, 27, 98, 10] : (List Int))) rfl Try.underlying23 zero5 sz5 rfl rfl rfl (by kernel_rfl) rfl rfl (RL_enc (fun x_ : Int => [Value.int .u8 x_]) (fun _ _ => rfl) (by kernel_rfl)) fun b11 => ?_)
  refine RA_step rfl (OA_bytesConst (k := 4) rfl Try.underlying23 Try.underlying5 rfl (by simp) rfl ?_)
  refine RA_step rfl (OA_v (v := .agg #[.int .u8 3, .slice (some ⟨b11, 0, none⟩) ([97, 27, 98, 10] : (List Int)).length 4, .int .i64 0, .int .i64 0, .int .u8 0]) rfl (V_build (cells := [.int .u8 3, .slice (some ⟨b11, 0, none⟩) ([97, 27, 98, 10] : (List Int)).length 4, .int .i64 0, .int .i64 0, .int .u8 0]) zero25 Try.underlying25 plc25 (by kernel_rfl)) ?_)
  obtain ⟨r13, C44, H⟩ := g_bind H
  refine RA_step rfl (OA.ghost (Gh.freeze (k := 4) rfl) (OA_callA [4] [0, 1, 2, 3, 4] rfl (X_fn (vs := [.agg #[.int .u8 3, .slice (some ⟨b11, 0, none⟩) ([97, 27, 98, 10] : (List Int)).length 4, .int .i64 0, .int .i64 0, .int .u8 0], .bool false, .bool true]) Try.func14 nm14 rfl rfl) rfl (F14.ok (a0 := (S25.mk 3 ([97, 27, 98, 10] : (List Int)) 0 0 0)) (A0_0 := some ⟨b11, 0, none⟩) (c0_0 := 4) (a1 := false) (a2 := true) C44) rfl ?_))
  rintro _ _ ⟨A14, c15, rfl, rfl⟩
  refine RA_step rfl (OA_v (v := .tuple #[.slice A14 r13.1.length c15, .int .i64 r13.2]) rfl (V_move rfl) ?_)
  refine RA_step rfl (OA_v (v := .slice A14 r13.1.length c15) rfl (V_extract rfl rfl) ?_)
  refine RA_step rfl (OA_v (v := .int .i64 r13.2) rfl (V_extract rfl rfl) ?_)
  refine RA_step rfl (OA_v (v := .slice A14 r13.1.length c15) rfl (V_assign rfl) ?_)
  refine RA_step rfl (OA_v (v := .int .i64 r13.2) rfl (V_assign rfl) ?_)
  refine RA_nil ?_
  refine at_normal ?_
  refine SA_seq ?_
  refine SA_region ?_
  refine RA_step rfl (OA_v (v := .int .i64 r2.2) rfl (V_move rfl) ?_)
  refine RA_step rfl (OA_v (v := .bool (decide (r2.2 = 0))) rfl (V_eql rfl rfl) ?_)
  refine RA_step rfl (OA_v (v := .bool (decide (r2.2 = 0))) rfl (V_move rfl) ?_)
  obtain ⟨q17, hq17, H⟩ := g_lt H
  refine RA_cut 3 (fun e ds As => St [(1, .slice A3 r2.1.length c4), (3, .slice A8 r7.1.length c9), (5, .slice A14 r13.1.length c15), (6, .int .i64 r13.2), (29, .bool q17)] [Buf (Kd.int .u8) 5 A3 c4 r2.1, Buf (Kd.int .u8) 5 A8 c9 r7.1, Buf (Kd.int .u8) 5 A14 c15 r13.1] e ds As) ?_ ?_
  · by_cases h18 : r2.2 = 0
    · refine RA_yesB rfl rfl rfl rfl (dec_t h18) (OA_v (v := .int .i64 r7.2) rfl (V_move rfl) ?_)
      refine RA_yesB rfl rfl rfl rfl (dec_t h18) (OA_v (v := .bool (decide (r7.2 = 0))) rfl (V_eql rfl rfl) ?_)
      refine RA_step rfl (OA_v rfl (V_pickT rfl (dec_t h18) rfl) ?_)
      refine RA_nil ?_
      exact at_normal (St.mk1 (aeq rfl (aeq rfl (aeq rfl (aeq rfl (aeq (congrArg Value.bool (and_t hq17 (dec_t h18))) aeq0))))) (Gh.sel [2, 1, 0] rfl rfl))
    · refine RA_noB rfl rfl rfl rfl (dec_f h18) rfl ?_
      refine RA_noB rfl rfl rfl rfl (dec_f h18) rfl ?_
      refine RA_step rfl (OA_v rfl (V_pickF rfl (dec_f h18) rfl) ?_)
      refine RA_nil ?_
      exact at_normal (St.mk1 (aeq rfl (aeq rfl (aeq rfl (aeq rfl (aeq (congrArg Value.bool (and_f hq17 (dec_f h18))) aeq0))))) (Gh.sel [2, 1, 0] rfl rfl))
  · rintro e ds As hst19
    refine RA.of_St rfl hst19 fun junk => ?_
    refine RA_step rfl (OA_v (v := .bool q17) rfl (V_move rfl) ?_)
    obtain ⟨q20, hq20, H⟩ := g_lt H
    refine RA_cut 3 (fun e ds As => St [(1, .slice A3 r2.1.length c4), (3, .slice A8 r7.1.length c9), (5, .slice A14 r13.1.length c15), (33, .bool q20)] [Buf (Kd.int .u8) 5 A3 c4 r2.1, Buf (Kd.int .u8) 5 A8 c9 r7.1, Buf (Kd.int .u8) 5 A14 c15 r13.1] e ds As) ?_ ?_
    · by_cases h21 : q17 = true
      · refine RA_yesB rfl rfl rfl rfl (h21) (OA_v (v := .int .i64 r13.2) rfl (V_move rfl) ?_)
        refine RA_yesB rfl rfl rfl rfl (h21) (OA_v (v := .bool (decide (r13.2 = 0))) rfl (V_eql rfl rfl) ?_)
        refine RA_step rfl (OA_v rfl (V_pickT rfl (h21) rfl) ?_)
        refine RA_nil ?_
        exact at_normal (St.mk1 (aeq rfl (aeq rfl (aeq rfl (aeq (congrArg Value.bool (and_t hq20 (h21))) aeq0)))) (Gh.sel [0, 1, 2] rfl rfl))
      · refine RA_noB rfl rfl rfl rfl (bno h21) rfl ?_
        refine RA_noB rfl rfl rfl rfl (bno h21) rfl ?_
        refine RA_step rfl (OA_v rfl (V_pickF rfl (bno h21) rfl) ?_)
        refine RA_nil ?_
        exact at_normal (St.mk1 (aeq rfl (aeq rfl (aeq rfl (aeq (congrArg Value.bool (and_f hq20 (bno h21))) aeq0)))) (Gh.sel [0, 1, 2] rfl rfl))
    · rintro e ds As hst22
      refine RA.of_St rfl hst22 fun junk => ?_
      refine RA_step rfl (OA_v (v := .bool q20) rfl (V_move rfl) ?_)
      obtain ⟨q23, H, Bq23⟩ := g_bind H
      refine RA_cut 5 (fun e ds As => St [(3, .slice A8 r7.1.length c9), (5, .slice A14 r13.1.length c15), (39, .bool q23)] [Buf (Kd.int .u8) 5 A8 c9 r7.1, Buf (Kd.int .u8) 5 A14 c15 r13.1] e ds As) ?_ ?_
      · by_cases h24 : q20 = true
        · replace H := g_ift h24 H
          refine RA_yesB rfl rfl rfl rfl (h24) (OA_v (v := .slice A3 r2.1.length c4) rfl (V_move rfl) ?_)
          refine RA_yesB rfl rfl rfl rfl (h24) (OA_bs (kd := (Kd.int .u8)) (zv := (.int .u8 0)) (sz := 1) (cells := [.int .u8 27, .int .u8 91, .int .u8 65]) (xs := ([27, 91, 65] : (List Int))) rfl Try.underlying23 zero5 sz5 rfl rfl rfl (by kernel_rfl) rfl rfl (RL_enc (fun x_ : Int => [Value.int .u8 x_]) (fun _ _ => rfl) (by kernel_rfl)) fun b25 => ?_)
          refine RA_yesB rfl rfl rfl rfl (h24) (OA_bytesConst (k := 3) rfl Try.underlying23 Try.underlying5 rfl (by simp) rfl ?_)
          obtain ⟨r27, C28, H⟩ := g_bind H
          refine RA_yesB rfl rfl rfl rfl (h24) (OA.ghost (Gh.freeze (k := 0) rfl) (OA.ghost (Gh.freeze (k := 3) rfl) (OA_callA [0, 3] [0, 1, 2, 3] rfl (X_fn (vs := [.slice A3 r2.1.length c4, .slice (some ⟨b25, 0, none⟩) ([27, 91, 65] : (List Int)).length 3]) Try.func16 nm16 rfl rfl) rfl (F16.ok (l0 := r2.1) (A0 := A3) (c0 := c4) (l1 := ([27, 91, 65] : (List Int))) (A1 := some ⟨b25, 0, none⟩) (c1 := 3) C28) rfl ?_)))
          rintro _ _ ⟨rfl, rfl⟩
          refine RA_step rfl (OA_v rfl (V_pickT rfl (h24) rfl) ?_)
          have hr_ := Option.some.inj H
          subst hr_
          refine RA_nil ?_
          exact at_normal (St.mk1 (aeq rfl (aeq rfl (aeq rfl aeq0))) (Gh.sel [1, 2] rfl rfl))
        · replace H := g_iff h24 H
          refine RA_noB rfl rfl rfl rfl (bno h24) rfl ?_
          refine RA_noB rfl rfl rfl rfl (bno h24) rfl ?_
          refine RA_noB rfl rfl rfl rfl (bno h24) rfl ?_
          refine RA_noB rfl rfl rfl rfl (bno h24) rfl ?_
          refine RA_step rfl (OA_v rfl (V_pickF rfl (bno h24) rfl) ?_)
          have hr_ := Option.some.inj H
          subst hr_
          refine RA_nil ?_
          exact at_normal (St.mk1 (aeq rfl (aeq rfl (aeq rfl aeq0))) (Gh.sel [1, 2] rfl rfl))
      · rintro e ds As hst29
        clear H
        have H := Bq23
        clear Bq23
        refine RA.of_St rfl hst29 fun junk => ?_
        refine RA_step rfl (OA_v (v := .bool q23) rfl (V_move rfl) ?_)
        obtain ⟨q30, H, Bq30⟩ := g_bind H
        refine RA_cut 5 (fun e ds As => St [(5, .slice A14 r13.1.length c15), (45, .bool q30)] [Buf (Kd.int .u8) 5 A14 c15 r13.1] e ds As) ?_ ?_
        · by_cases h31 : q23 = true
          · replace H := g_ift h31 H
            refine RA_yesB rfl rfl rfl rfl (h31) (OA_v (v := .slice A8 r7.1.length c9) rfl (V_move rfl) ?_)
            refine RA_yesB rfl rfl rfl rfl (h31) (OA_bs (kd := (Kd.int .u8)) (zv := (.int .u8 0)) (sz := 1) (cells := [.int .u8 27, .int .u8 79, .int .u8 65]) (xs := ([27, 79, 65] : (List Int))) rfl Try.underlying23 zero5 sz5 rfl rfl rfl (by kernel_rfl) rfl rfl (RL_enc (fun x_ : Int => [Value.int .u8 x_]) (fun _ _ => rfl) (by kernel_rfl)) fun b32 => ?_)
            refine RA_yesB rfl rfl rfl rfl (h31) (OA_bytesConst (k := 2) rfl Try.underlying23 Try.underlying5 rfl (by simp) rfl ?_)
            obtain ⟨r34, C35, H⟩ := g_bind H
            refine RA_yesB rfl rfl rfl rfl (h31) (OA.ghost (Gh.freeze (k := 0) rfl) (OA.ghost (Gh.freeze (k := 2) rfl) (OA_callA [0, 2] [0, 1, 2] rfl (X_fn (vs := [.slice A8 r7.1.length c9, .slice (some ⟨b32, 0, none⟩) ([27, 79, 65] : (List Int)).length 3]) Try.func16 nm16 rfl rfl) rfl (F16.ok (l0 := r7.1) (A0 := A8) (c0 := c9) (l1 := ([27, 79, 65] : (List Int))) (A1 := some ⟨b32, 0, none⟩) (c1 := 3) C35) rfl ?_)))
            rintro _ _ ⟨rfl, rfl⟩
            refine RA_step rfl (OA_v rfl (V_pickT rfl (h31) rfl) ?_)
            have hr_ := Option.some.inj H
            subst hr_
            refine RA_nil ?_
            exact at_normal (St.mk1 (aeq rfl (aeq rfl aeq0)) (Gh.sel [1] rfl rfl))
          · replace H := g_iff h31 H
            refine RA_noB rfl rfl rfl rfl (bno h31) rfl ?_
            refine RA_noB rfl rfl rfl rfl (bno h31) rfl ?_
            refine RA_noB rfl rfl rfl rfl (bno h31) rfl ?_
            refine RA_noB rfl rfl rfl rfl (bno h31) rfl ?_
            refine RA_step rfl (OA_v rfl (V_pickF rfl (bno h31) rfl) ?_)
            have hr_ := Option.some.inj H
            subst hr_
            refine RA_nil ?_
            exact at_normal (St.mk1 (aeq rfl (aeq rfl aeq0)) (Gh.sel [1] rfl rfl))
        · rintro e ds As hst36
          clear H
          have H := Bq30
          clear Bq30
          refine RA.of_St rfl hst36 fun junk => ?_
          refine RA_step rfl (OA_v (v := .bool q30) rfl (V_move rfl) ?_)
          obtain ⟨q37, H, Bq37⟩ := g_bind H
          refine RA_cut 5 (fun e ds As => St [(51, .bool q37)] [] e ds As) ?_ ?_
          · by_cases h38 : q30 = true
            · replace H := g_ift h38 H
              refine RA_yesB rfl rfl rfl rfl (h38) (OA_v (v := .slice A14 r13.1.length c15) rfl (V_move rfl) ?_)
              refine RA_yesB rfl rfl rfl rfl (h38) (OA_bs (kd := (Kd.int .u8)) (zv := (.int .u8 0)) (sz := 1) (cells := (.int .u8 27 :: .int .u8 91 :: .int .u8 50 :: .int .u8 48 :: .int .u8 48 :: .int .u8 126 :: .int .u8 97 :: .int .u8 98 :: .int .u8 13 :: .int .u8 27 :: .int .u8 91 :: .int .u8 50 :: .int .u8 48 :: .int .u8 49 :: .int .u8 126 :: [])) (xs := ((27 :: 91 :: 50 :: 48 :: 48 :: 126 :: 97 :: 98 :: 13 :: 27 :: 91 :: 50 :: 48 :: 49 :: 126 :: []) : (List Int))) rfl Try.underlying23 zero5 sz5 rfl rfl rfl (by kernel_rfl) rfl rfl (RL_enc (fun x_ : Int => [Value.int .u8 x_]) (fun _ _ => rfl) (by kernel_rfl)) fun b39 => ?_)
              refine RA_yesB rfl rfl rfl rfl (h38) (OA_bytesConst (k := 1) rfl Try.underlying23 Try.underlying5 rfl (by simp) rfl ?_)
              obtain ⟨r41, C42, H⟩ := g_bind H
              refine RA_yesB rfl rfl rfl rfl (h38) (OA.ghost (Gh.freeze (k := 0) rfl) (OA.ghost (Gh.freeze (k := 1) rfl) (OA_callA [0, 1] [0, 1] rfl (X_fn (vs := [.slice A14 r13.1.length c15, .slice (some ⟨b39, 0, none⟩) ((27 :: 91 :: 50 :: 48 :: 48 :: 126 :: 97 :: 98 :: 13 :: 27 :: 91 :: 50 :: 48 :: 49 :: 126 :: []) : (List Int)).length 15]) Try.func16 nm16 rfl rfl) rfl (F16.ok (l0 := r13.1) (A0 := A14) (c0 := c15) (l1 := ((27 :: 91 :: 50 :: 48 :: 48 :: 126 :: 97 :: 98 :: 13 :: 27 :: 91 :: 50 :: 48 :: 49 :: 126 :: []) : (List Int))) (A1 := some ⟨b39, 0, none⟩) (c1 := 15) C42) rfl ?_)))
              rintro _ _ ⟨rfl, rfl⟩
              refine RA_step rfl (OA_v rfl (V_pickT rfl (h38) rfl) ?_)
              have hr_ := Option.some.inj H
              subst hr_
              refine RA_nil ?_
              exact at_normal (St.mk1 (aeq rfl aeq0) (Gh.sel [] rfl rfl))
            · replace H := g_iff h38 H
              refine RA_noB rfl rfl rfl rfl (bno h38) rfl ?_
              refine RA_noB rfl rfl rfl rfl (bno h38) rfl ?_
              refine RA_noB rfl rfl rfl rfl (bno h38) rfl ?_
              refine RA_noB rfl rfl rfl rfl (bno h38) rfl ?_
              refine RA_step rfl (OA_v rfl (V_pickF rfl (bno h38) rfl) ?_)
              have hr_ := Option.some.inj H
              subst hr_
              refine RA_nil ?_
              exact at_normal (St.mk1 (aeq rfl aeq0) (Gh.sel [] rfl rfl))
          · rintro e ds As hst43
            clear H
            have H := Bq37
            clear Bq37
            refine RA.of_St rfl hst43 fun junk => ?_
            refine RA_step rfl (OA_v (v := .bool q37) rfl (V_assign rfl) ?_)
            refine RA_nil ?_
            refine at_normal ?_
            refine SA_ret ?_
            have hr_ := Option.some.inj H
            subst hr_
            exact BQ_R1 [] rfl rfl (Gh.sel [] rfl rfl) ⟨rfl, rfl⟩
end Go.Proofs.Ytodkeoibebimgaa.Kc

/- What functions compute, and that they do: 14, 17, 57, 58, 71, 78, 103, 121. -/
import Derived.Test.YtodkeoibebimgaaKb0
namespace Go.Proofs.Ytodkeoibebimgaa.Kb
open Go Go.RowKit Go.Proofs.Ytodkeoibebimgaa.SL
set_option linter.unusedVariables false
set_option linter.unusedSimpArgs false
attribute [local irreducible] IntKind.wrap minI maxI shrI shlI andI orI xorI andNotI cplI rd sub bytesOf strOf slA
/-! ### function 57: wayfarer/wire.May -/
def F57.f (a0 : S25) : Option (Bool) := lt ((decide (a0.f2 = 0)) && (decide (a0.f3 = 0))) fun q4 => if a0.f0 = 1 then (lt (q4 && (decide (a0.f4 = 0))) fun q8 => lt (q8 && (decide ((a0.f1.length : Int) ≥ 1))) fun q11 => lt (q11 && (decide ((a0.f1.length : Int) ≤ 4096))) fun q14 => some (q14)) else (if a0.f0 = 3 then (lt (q4 && (decide (a0.f4 = 0))) fun q18 => lt (q18 && (decide ((a0.f1.length : Int) ≤ 4096))) fun q21 => some (q21)) else (if a0.f0 = 2 then (lt ((decide (a0.f4 = 0)) && (decide ((a0.f1.length : Int) = 0))) fun q25 => lt (q25 && (decide (a0.f2 ≥ 1))) fun q28 => lt (q28 && (decide (a0.f2 ≤ 512))) fun q31 => lt (q31 && (decide (a0.f3 ≥ 1))) fun q34 => lt (q34 && (decide (a0.f3 ≤ 512))) fun q37 => some (q37)) else (if a0.f0 = 4 then (lt (q4 && (decide ((a0.f1.length : Int) = 0))) fun q41 => lt (q41 && (decide (a0.f4 ≥ 65))) fun q44 => lt (q44 && (decide (a0.f4 ≤ 68))) fun q47 => some (q47)) else (some (false)))))
set_option maxHeartbeats 2000000 in
set_option maxRecDepth 100000 in
theorem F57.ok {a0 : S25} {A0_0 : Option Addr} {c0_0 : Nat} {r : Bool} (H : F57.f a0 = some r) : SCA Try.prog 57 #[.agg #[.int .u8 a0.f0, .slice A0_0 a0.f1.length c0_0, .int .i64 a0.f2, .int .i64 a0.f3, .int .u8 a0.f4]] [Ro (Kd.int .u8) A0_0 c0_0 a0.f1] (fun v B => v = .bool r ∧ B = []) := by
  refine SCA_of_body Try.func57 rfl rfl ?_
  unfold F57.f at H
  refine SA_seq ?_
  refine SA_region ?_
  refine RA_step rfl (OA_box rfl rfl fun b2 => ?_)
  refine RA_step rfl (OA_v (v := .bool false) rfl (V_assign rfl) ?_)
  refine RA_nil ?_
  refine at_normal ?_
  refine SA_seq ?_
  refine SA_region ?_
  refine RA_step rfl (OA_v (v := .pointer (some ((⟨b2, 0, none⟩ : Addr).add 2))) rfl (V_fieldAddrN (B := ⟨b2, 0, none⟩) (m := 0) (o := 2) Try.underlying25 rfl nz3 rfl rfl) ?_)
  refine RA_step rfl (OA_r rfl (VR_load_blk (b := b2) (m := 2) (k := 1) Try.underlying3 rfl rfl rfl rfl) ?_)
  refine RA_step rfl (OA_v (v := .bool (decide (a0.f2 = 0))) rfl (V_eql rfl rfl) ?_)
  refine RA_step rfl (OA_v (v := .bool (decide (a0.f2 = 0))) rfl (V_move rfl) ?_)
  obtain ⟨q4, hq4, H⟩ := g_lt H
  refine RA_cut 4 (fun e ds As => St [(1, .pointer (some ⟨b2, 0, none⟩)), (11, .bool q4)] [Blk b2 25 [.int .u8 a0.f0, .slice A0_0 a0.f1.length c0_0, .int .i64 a0.f2, .int .i64 a0.f3, .int .u8 a0.f4], Ro (Kd.int .u8) A0_0 c0_0 a0.f1] e ds As) ?_ ?_
  · by_cases h5 : a0.f2 = 0
    · refine RA_yesB rfl rfl rfl rfl (dec_t h5) (OA_v (v := .pointer (some ((⟨b2, 0, none⟩ : Addr).add 3))) rfl (V_fieldAddrN (B := ⟨b2, 0, none⟩) (m := 0) (o := 3) Try.underlying25 rfl nz3 rfl rfl) ?_)
      refine RA_yesB rfl rfl rfl rfl (dec_t h5) (OA_r rfl (VR_load_blk (b := b2) (m := 3) (k := 1) Try.underlying3 rfl rfl rfl rfl) ?_)
      refine RA_yesB rfl rfl rfl rfl (dec_t h5) (OA_v (v := .bool (decide (a0.f3 = 0))) rfl (V_eql rfl rfl) ?_)
      refine RA_step rfl (OA_v rfl (V_pickT rfl (dec_t h5) rfl) ?_)
      refine RA_nil ?_
      exact at_normal (St.mk1 (aeq rfl (aeq (congrArg Value.bool (and_t hq4 (dec_t h5))) aeq0)) (Gh.sel [1, 0] rfl rfl))
    · refine RA_noB rfl rfl rfl rfl (dec_f h5) rfl ?_
      refine RA_noB rfl rfl rfl rfl (dec_f h5) rfl ?_
      refine RA_noB rfl rfl rfl rfl (dec_f h5) rfl ?_
      refine RA_step rfl (OA_v rfl (V_pickF rfl (dec_f h5) rfl) ?_)
      refine RA_nil ?_
      exact at_normal (St.mk1 (aeq rfl (aeq (congrArg Value.bool (and_f hq4 (dec_f h5))) aeq0)) (Gh.sel [1, 0] rfl rfl))
  · rintro e ds As hst6
    refine RA.of_St rfl hst6 fun junk => ?_
    refine RA_step rfl (OA_v (v := .bool q4) rfl (V_assign rfl) ?_)
    refine RA_nil ?_
    refine at_normal ?_
    refine SA_seq ?_
    refine SA_seq ?_
    refine SA_region ?_
    refine RA_step rfl (OA_v (v := .pointer (some ⟨b2, 0, none⟩)) rfl (V_fieldAddrN (B := ⟨b2, 0, none⟩) (m := 0) (o := 0) Try.underlying25 rfl nz22 rfl rfl) ?_)
    refine RA_step rfl (OA_r rfl (VR_load_blk (b := b2) (m := 0) (k := 0) Try.underlying22 rfl rfl rfl rfl) ?_)
    refine RA_nil ?_
    refine at_normal ?_
    refine SA_block ?_
    refine SA_seq ?_
    refine SA_region ?_
    refine RA_step rfl (OA_v (v := .bool (decide (a0.f0 = 1))) rfl (V_eql rfl rfl) ?_)
    refine RA_step rfl (OA_v (v := .bool (decide (a0.f0 = 1))) rfl (V_assign rfl) ?_)
    refine RA_nil ?_
    refine at_normal ?_
    by_cases h7 : a0.f0 = 1
    · replace H := g_ift h7 H
      refine SA_condT rfl h7 ?_
      refine SA_seq ?_
      refine SA_region ?_
      refine RA_step rfl (OA_v (v := .bool q4) rfl (V_move rfl) ?_)
      refine RA_step rfl (OA_v (v := .bool q4) rfl (V_move rfl) ?_)
      obtain ⟨q8, hq8, H⟩ := g_lt H
      refine RA_cut 4 (fun e ds As => St [(1, .pointer (some ⟨b2, 0, none⟩)), (21, .bool q8)] [Blk b2 25 [.int .u8 a0.f0, .slice A0_0 a0.f1.length c0_0, .int .i64 a0.f2, .int .i64 a0.f3, .int .u8 a0.f4], Ro (Kd.int .u8) A0_0 c0_0 a0.f1] e ds As) ?_ ?_
      · by_cases h9 : q4 = true
        · refine RA_yesB rfl rfl rfl rfl (h9) (OA_v (v := .pointer (some ((⟨b2, 0, none⟩ : Addr).add 4))) rfl (V_fieldAddrN (B := ⟨b2, 0, none⟩) (m := 0) (o := 4) Try.underlying25 rfl nz5 rfl rfl) ?_)
          refine RA_yesB rfl rfl rfl rfl (h9) (OA_r rfl (VR_load_blk (b := b2) (m := 4) (k := 0) Try.underlying5 rfl rfl rfl rfl) ?_)
          refine RA_yesB rfl rfl rfl rfl (h9) (OA_v (v := .bool (decide (a0.f4 = 0))) rfl (V_eql rfl rfl) ?_)
          refine RA_step rfl (OA_v rfl (V_pickT rfl (h9) rfl) ?_)
          refine RA_nil ?_
          exact at_normal (St.mk1 (aeq rfl (aeq (congrArg Value.bool (and_t hq8 (h9))) aeq0)) (Gh.sel [0, 1] rfl rfl))
        · refine RA_noB rfl rfl rfl rfl (bno h9) rfl ?_
          refine RA_noB rfl rfl rfl rfl (bno h9) rfl ?_
          refine RA_noB rfl rfl rfl rfl (bno h9) rfl ?_
          refine RA_step rfl (OA_v rfl (V_pickF rfl (bno h9) rfl) ?_)
          refine RA_nil ?_
          exact at_normal (St.mk1 (aeq rfl (aeq (congrArg Value.bool (and_f hq8 (bno h9))) aeq0)) (Gh.sel [0, 1] rfl rfl))
      · rintro e ds As hst10
        refine RA.of_St rfl hst10 fun junk => ?_
        refine RA_step rfl (OA_v (v := .bool q8) rfl (V_move rfl) ?_)
        obtain ⟨q11, hq11, H⟩ := g_lt H
        refine RA_cut 5 (fun e ds As => St [(1, .pointer (some ⟨b2, 0, none⟩)), (27, .bool q11)] [Blk b2 25 [.int .u8 a0.f0, .slice A0_0 a0.f1.length c0_0, .int .i64 a0.f2, .int .i64 a0.f3, .int .u8 a0.f4], Ro (Kd.int .u8) A0_0 c0_0 a0.f1] e ds As) ?_ ?_
        · by_cases h12 : q8 = true
          · refine RA_yesB rfl rfl rfl rfl (h12) (OA_v (v := .pointer (some ((⟨b2, 0, none⟩ : Addr).add 1))) rfl (V_fieldAddrN (B := ⟨b2, 0, none⟩) (m := 0) (o := 1) Try.underlying25 rfl nz23 rfl rfl) ?_)
            refine RA_yesB rfl rfl rfl rfl (h12) (OA_r rfl (VR_load_blk (b := b2) (m := 1) (k := 0) Try.underlying23 rfl rfl rfl rfl) ?_)
            refine RA_yesB rfl rfl rfl rfl (h12) (OA_v (v := .int .i64 (a0.f1.length : Int)) rfl (V_len Try.underlying23 rfl) ?_)
            refine RA_yesB rfl rfl rfl rfl (h12) (OA_v (v := .bool (decide ((a0.f1.length : Int) ≥ 1))) rfl (V_geq rfl rfl) ?_)
            refine RA_step rfl (OA_v rfl (V_pickT rfl (h12) rfl) ?_)
            refine RA_nil ?_
            exact at_normal (St.mk1 (aeq rfl (aeq (congrArg Value.bool (and_t hq11 (h12))) aeq0)) (Gh.sel [0, 1] rfl rfl))
          · refine RA_noB rfl rfl rfl rfl (bno h12) rfl ?_
            refine RA_noB rfl rfl rfl rfl (bno h12) rfl ?_
            refine RA_noB rfl rfl rfl rfl (bno h12) rfl ?_
            refine RA_noB rfl rfl rfl rfl (bno h12) rfl ?_
            refine RA_step rfl (OA_v rfl (V_pickF rfl (bno h12) rfl) ?_)
            refine RA_nil ?_
            exact at_normal (St.mk1 (aeq rfl (aeq (congrArg Value.bool (and_f hq11 (bno h12))) aeq0)) (Gh.sel [0, 1] rfl rfl))
        · rintro e ds As hst13
          refine RA.of_St rfl hst13 fun junk => ?_
          refine RA_step rfl (OA_v (v := .bool q11) rfl (V_move rfl) ?_)
          obtain ⟨q14, hq14, H⟩ := g_lt H
          refine RA_cut 5 (fun e ds As => St [(33, .bool q14)] [] e ds As) ?_ ?_
          · by_cases h15 : q11 = true
            · refine RA_yesB rfl rfl rfl rfl (h15) (OA_v (v := .pointer (some ((⟨b2, 0, none⟩ : Addr).add 1))) rfl (V_fieldAddrN (B := ⟨b2, 0, none⟩) (m := 0) (o := 1) Try.underlying25 rfl nz23 rfl rfl) ?_)
              refine RA_yesB rfl rfl rfl rfl (h15) (OA_r rfl (VR_load_blk (b := b2) (m := 1) (k := 0) Try.underlying23 rfl rfl rfl rfl) ?_)
              refine RA_yesB rfl rfl rfl rfl (h15) (OA_v (v := .int .i64 (a0.f1.length : Int)) rfl (V_len Try.underlying23 rfl) ?_)
              refine RA_yesB rfl rfl rfl rfl (h15) (OA_v (v := .bool (decide ((a0.f1.length : Int) ≤ 4096))) rfl (V_leq rfl rfl) ?_)
              refine RA_step rfl (OA_v rfl (V_pickT rfl (h15) rfl) ?_)
              refine RA_nil ?_
              exact at_normal (St.mk1 (aeq (congrArg Value.bool (and_t hq14 (h15))) aeq0) (Gh.sel [] rfl rfl))
            · refine RA_noB rfl rfl rfl rfl (bno h15) rfl ?_
              refine RA_noB rfl rfl rfl rfl (bno h15) rfl ?_
              refine RA_noB rfl rfl rfl rfl (bno h15) rfl ?_
              refine RA_noB rfl rfl rfl rfl (bno h15) rfl ?_
              refine RA_step rfl (OA_v rfl (V_pickF rfl (bno h15) rfl) ?_)
              refine RA_nil ?_
              exact at_normal (St.mk1 (aeq (congrArg Value.bool (and_f hq14 (bno h15))) aeq0) (Gh.sel [] rfl rfl))
          · rintro e ds As hst16
            refine RA.of_St rfl hst16 fun junk => ?_
            refine RA_step rfl (OA_v (v := .bool q14) rfl (V_assign rfl) ?_)
            refine RA_nil ?_
            refine at_normal ?_
            refine SA_ret ?_
            refine inb_ret ?_
            refine thn_ret ?_
            have hr_ := Option.some.inj H
            subst hr_
            exact BQ_R1 [] rfl rfl (Gh.sel [] rfl rfl) ⟨rfl, rfl⟩
    · replace H := g_iff h7 H
      refine SA_condF rfl h7 ?_
      refine SA_seq ?_
      refine SA_region ?_
      refine RA_step rfl (OA_v (v := .bool (decide (a0.f0 = 3))) rfl (V_eql rfl rfl) ?_)
      refine RA_step rfl (OA_v (v := .bool (decide (a0.f0 = 3))) rfl (V_assign rfl) ?_)
      refine RA_nil ?_
      refine at_normal ?_
      by_cases h17 : a0.f0 = 3
      · replace H := g_ift h17 H
        refine SA_condT rfl h17 ?_
        refine SA_seq ?_
        refine SA_region ?_
        refine RA_step rfl (OA_v (v := .bool q4) rfl (V_move rfl) ?_)
        refine RA_step rfl (OA_v (v := .bool q4) rfl (V_move rfl) ?_)
        obtain ⟨q18, hq18, H⟩ := g_lt H
        refine RA_cut 4 (fun e ds As => St [(1, .pointer (some ⟨b2, 0, none⟩)), (41, .bool q18)] [Blk b2 25 [.int .u8 a0.f0, .slice A0_0 a0.f1.length c0_0, .int .i64 a0.f2, .int .i64 a0.f3, .int .u8 a0.f4], Ro (Kd.int .u8) A0_0 c0_0 a0.f1] e ds As) ?_ ?_
        · by_cases h19 : q4 = true
          · refine RA_yesB rfl rfl rfl rfl (h19) (OA_v (v := .pointer (some ((⟨b2, 0, none⟩ : Addr).add 4))) rfl (V_fieldAddrN (B := ⟨b2, 0, none⟩) (m := 0) (o := 4) Try.underlying25 rfl nz5 rfl rfl) ?_)
            refine RA_yesB rfl rfl rfl rfl (h19) (OA_r rfl (VR_load_blk (b := b2) (m := 4) (k := 0) Try.underlying5 rfl rfl rfl rfl) ?_)
            refine RA_yesB rfl rfl rfl rfl (h19) (OA_v (v := .bool (decide (a0.f4 = 0))) rfl (V_eql rfl rfl) ?_)
            refine RA_step rfl (OA_v rfl (V_pickT rfl (h19) rfl) ?_)
            refine RA_nil ?_
            exact at_normal (St.mk1 (aeq rfl (aeq (congrArg Value.bool (and_t hq18 (h19))) aeq0)) (Gh.sel [0, 1] rfl rfl))
          · refine RA_noB rfl rfl rfl rfl (bno h19) rfl ?_
            refine RA_noB rfl rfl rfl rfl (bno h19) rfl ?_
            refine RA_noB rfl rfl rfl rfl (bno h19) rfl ?_
            refine RA_step rfl (OA_v rfl (V_pickF rfl (bno h19) rfl) ?_)
            refine RA_nil ?_
            exact at_normal (St.mk1 (aeq rfl (aeq (congrArg Value.bool (and_f hq18 (bno h19))) aeq0)) (Gh.sel [0, 1] rfl rfl))
        · rintro e ds As hst20
          refine RA.of_St rfl hst20 fun junk => ?_
          refine RA_step rfl (OA_v (v := .bool q18) rfl (V_move rfl) ?_)
          obtain ⟨q21, hq21, H⟩ := g_lt H
          refine RA_cut 5 (fun e ds As => St [(47, .bool q21)] [] e ds As) ?_ ?_
          · by_cases h22 : q18 = true
            · refine RA_yesB rfl rfl rfl rfl (h22) (OA_v (v := .pointer (some ((⟨b2, 0, none⟩ : Addr).add 1))) rfl (V_fieldAddrN (B := ⟨b2, 0, none⟩) (m := 0) (o := 1) Try.underlying25 rfl nz23 rfl rfl) ?_)
              refine RA_yesB rfl rfl rfl rfl (h22) (OA_r rfl (VR_load_blk (b := b2) (m := 1) (k := 0) Try.underlying23 rfl rfl rfl rfl) ?_)
              refine RA_yesB rfl rfl rfl rfl (h22) (OA_v (v := .int .i64 (a0.f1.length : Int)) rfl (V_len Try.underlying23 rfl) ?_)
              refine RA_yesB rfl rfl rfl rfl (h22) (OA_v (v := .bool (decide ((a0.f1.length : Int) ≤ 4096))) rfl (V_leq rfl rfl) ?_)
              refine RA_step rfl (OA_v rfl (V_pickT rfl (h22) rfl) ?_)
              refine RA_nil ?_
              exact at_normal (St.mk1 (aeq (congrArg Value.bool (and_t hq21 (h22))) aeq0) (Gh.sel [] rfl rfl))
            · refine RA_noB rfl rfl rfl rfl (bno h22) rfl ?_
              refine RA_noB rfl rfl rfl rfl (bno h22) rfl ?_
              refine RA_noB rfl rfl rfl rfl (bno h22) rfl ?_
              refine RA_noB rfl rfl rfl rfl (bno h22) rfl ?_
              refine RA_step rfl (OA_v rfl (V_pickF rfl (bno h22) rfl) ?_)
              refine RA_nil ?_
              exact at_normal (St.mk1 (aeq (congrArg Value.bool (and_f hq21 (bno h22))) aeq0) (Gh.sel [] rfl rfl))
          · rintro e ds As hst23
            refine RA.of_St rfl hst23 fun junk => ?_
            refine RA_step rfl (OA_v (v := .bool q21) rfl (V_assign rfl) ?_)
            refine RA_nil ?_
            refine at_normal ?_
            refine SA_ret ?_
            refine inb_ret ?_
            refine thn_ret ?_
            have hr_ := Option.some.inj H
            subst hr_
            exact BQ_R1 [] rfl rfl (Gh.sel [] rfl rfl) ⟨rfl, rfl⟩
      · replace H := g_iff h17 H
        refine SA_condF rfl h17 ?_
        refine SA_seq ?_
        refine SA_region ?_
        refine RA_step rfl (OA_v (v := .bool (decide (a0.f0 = 2))) rfl (V_eql rfl rfl) ?_)
        refine RA_step rfl (OA_v (v := .bool (decide (a0.f0 = 2))) rfl (V_assign rfl) ?_)
        refine RA_nil ?_
        refine at_normal ?_
        by_cases h24 : a0.f0 = 2
        · replace H := g_ift h24 H
          refine SA_condT rfl h24 ?_
          refine SA_seq ?_
          refine SA_region ?_
          refine RA_step rfl (OA_v (v := .pointer (some ((⟨b2, 0, none⟩ : Addr).add 4))) rfl (V_fieldAddrN (B := ⟨b2, 0, none⟩) (m := 0) (o := 4) Try.underlying25 rfl nz5 rfl rfl) ?_)
          refine RA_step rfl (OA_r rfl (VR_load_blk (b := b2) (m := 4) (k := 0) Try.underlying5 rfl rfl rfl rfl) ?_)
          refine RA_step rfl (OA_v (v := .bool (decide (a0.f4 = 0))) rfl (V_eql rfl rfl) ?_)
          refine RA_step rfl (OA_v (v := .bool (decide (a0.f4 = 0))) rfl (V_move rfl) ?_)
          obtain ⟨q25, hq25, H⟩ := g_lt H
          refine RA_cut 5 (fun e ds As => St [(1, .pointer (some ⟨b2, 0, none⟩)), (58, .bool q25)] [Blk b2 25 [.int .u8 a0.f0, .slice A0_0 a0.f1.length c0_0, .int .i64 a0.f2, .int .i64 a0.f3, .int .u8 a0.f4], Ro (Kd.int .u8) A0_0 c0_0 a0.f1] e ds As) ?_ ?_
          · by_cases h26 : a0.f4 = 0
            · refine RA_yesB rfl rfl rfl rfl (dec_t h26) (OA_v (v := .pointer (some ((⟨b2, 0, none⟩ : Addr).add 1))) rfl (V_fieldAddrN (B := ⟨b2, 0, none⟩) (m := 0) (o := 1) Try.underlying25 rfl nz23 rfl rfl) ?_)
              refine RA_yesB rfl rfl rfl rfl (dec_t h26) (OA_r rfl (VR_load_blk (b := b2) (m := 1) (k := 0) Try.underlying23 rfl rfl rfl rfl) ?_)
              refine RA_yesB rfl rfl rfl rfl (dec_t h26) (OA_v (v := .int .i64 (a0.f1.length : Int)) rfl (V_len Try.underlying23 rfl) ?_)
              refine RA_yesB rfl rfl rfl rfl (dec_t h26) (OA_v (v := .bool (decide ((a0.f1.length : Int) = 0))) rfl (V_eql rfl rfl) ?_)
              refine RA_step rfl (OA_v rfl (V_pickT rfl (dec_t h26) rfl) ?_)
              refine RA_nil ?_
              exact at_normal (St.mk1 (aeq rfl (aeq (congrArg Value.bool (and_t hq25 (dec_t h26))) aeq0)) (Gh.sel [0, 1] rfl rfl))
            · refine RA_noB rfl rfl rfl rfl (dec_f h26) rfl ?_
              refine RA_noB rfl rfl rfl rfl (dec_f h26) rfl ?_
              refine RA_noB rfl rfl rfl rfl (dec_f h26) rfl ?_
              refine RA_noB rfl rfl rfl rfl (dec_f h26) rfl ?_
              refine RA_step rfl (OA_v rfl (V_pickF rfl (dec_f h26) rfl) ?_)
              refine RA_nil ?_
              exact at_normal (St.mk1 (aeq rfl (aeq (congrArg Value.bool (and_f hq25 (dec_f h26))) aeq0)) (Gh.sel [0, 1] rfl rfl))
          · rintro e ds As hst27
            refine RA.of_St rfl hst27 fun junk => ?_
            refine RA_step rfl (OA_v (v := .bool q25) rfl (V_move rfl) ?_)
            obtain ⟨q28, hq28, H⟩ := g_lt H
            refine RA_cut 4 (fun e ds As => St [(1, .pointer (some ⟨b2, 0, none⟩)), (63, .bool q28)] [Blk b2 25 [.int .u8 a0.f0, .slice A0_0 a0.f1.length c0_0, .int .i64 a0.f2, .int .i64 a0.f3, .int .u8 a0.f4], Ro (Kd.int .u8) A0_0 c0_0 a0.f1] e ds As) ?_ ?_
            · by_cases h29 : q25 = true
              · refine RA_yesB rfl rfl rfl rfl (h29) (OA_v (v := .pointer (some ((⟨b2, 0, none⟩ : Addr).add 2))) rfl (V_fieldAddrN (B := ⟨b2, 0, none⟩) (m := 0) (o := 2) Try.underlying25 rfl nz3 rfl rfl) ?_)
                refine RA_yesB rfl rfl rfl rfl (h29) (OA_r rfl (VR_load_blk (b := b2) (m := 2) (k := 0) Try.underlying3 rfl rfl rfl rfl) ?_)
                refine RA_yesB rfl rfl rfl rfl (h29) (OA_v (v := .bool (decide (a0.f2 ≥ 1))) rfl (V_geq rfl rfl) ?_)
                refine RA_step rfl (OA_v rfl (V_pickT rfl (h29) rfl) ?_)
                refine RA_nil ?_
                exact at_normal (St.mk1 (aeq rfl (aeq (congrArg Value.bool (and_t hq28 (h29))) aeq0)) (Gh.sel [0, 1] rfl rfl))
              · refine RA_noB rfl rfl rfl rfl (bno h29) rfl ?_
                refine RA_noB rfl rfl rfl rfl (bno h29) rfl ?_
                refine RA_noB rfl rfl rfl rfl (bno h29) rfl ?_
                refine RA_step rfl (OA_v rfl (V_pickF rfl (bno h29) rfl) ?_)
                refine RA_nil ?_
                exact at_normal (St.mk1 (aeq rfl (aeq (congrArg Value.bool (and_f hq28 (bno h29))) aeq0)) (Gh.sel [0, 1] rfl rfl))
            · rintro e ds As hst30
              refine RA.of_St rfl hst30 fun junk => ?_
              refine RA_step rfl (OA_v (v := .bool q28) rfl (V_move rfl) ?_)
              obtain ⟨q31, hq31, H⟩ := g_lt H
              refine RA_cut 4 (fun e ds As => St [(1, .pointer (some ⟨b2, 0, none⟩)), (68, .bool q31)] [Blk b2 25 [.int .u8 a0.f0, .slice A0_0 a0.f1.length c0_0, .int .i64 a0.f2, .int .i64 a0.f3, .int .u8 a0.f4], Ro (Kd.int .u8) A0_0 c0_0 a0.f1] e ds As) ?_ ?_
              · by_cases h32 : q28 = true
                · refine RA_yesB rfl rfl rfl rfl (h32) (OA_v (v := .pointer (some ((⟨b2, 0, none⟩ : Addr).add 2))) rfl (V_fieldAddrN (B := ⟨b2, 0, none⟩) (m := 0) (o := 2) Try.underlying25 rfl nz3 rfl rfl) ?_)
                  refine RA_yesB rfl rfl rfl rfl (h32) (OA_r rfl (VR_load_blk (b := b2) (m := 2) (k := 0) Try.underlying3 rfl rfl rfl rfl) ?_)
                  refine RA_yesB rfl rfl rfl rfl (h32) (OA_v (v := .bool (decide (a0.f2 ≤ 512))) rfl (V_leq rfl rfl) ?_)
                  refine RA_step rfl (OA_v rfl (V_pickT rfl (h32) rfl) ?_)
                  refine RA_nil ?_
                  exact at_normal (St.mk1 (aeq rfl (aeq (congrArg Value.bool (and_t hq31 (h32))) aeq0)) (Gh.sel [0, 1] rfl rfl))
                · refine RA_noB rfl rfl rfl rfl (bno h32) rfl ?_
                  refine RA_noB rfl rfl rfl rfl (bno h32) rfl ?_
                  refine RA_noB rfl rfl rfl rfl (bno h32) rfl ?_
                  refine RA_step rfl (OA_v rfl (V_pickF rfl (bno h32) rfl) ?_)
                  refine RA_nil ?_
                  exact at_normal (St.mk1 (aeq rfl (aeq (congrArg Value.bool (and_f hq31 (bno h32))) aeq0)) (Gh.sel [0, 1] rfl rfl))
              · rintro e ds As hst33
                refine RA.of_St rfl hst33 fun junk => ?_
                refine RA_step rfl (OA_v (v := .bool q31) rfl (V_move rfl) ?_)
                obtain ⟨q34, hq34, H⟩ := g_lt H
                refine RA_cut 4 (fun e ds As => St [(1, .pointer (some ⟨b2, 0, none⟩)), (73, .bool q34)] [Blk b2 25 [.int .u8 a0.f0, .slice A0_0 a0.f1.length c0_0, .int .i64 a0.f2, .int .i64 a0.f3, .int .u8 a0.f4], Ro (Kd.int .u8) A0_0 c0_0 a0.f1] e ds As) ?_ ?_
                · by_cases h35 : q31 = true
                  · refine RA_yesB rfl rfl rfl rfl (h35) (OA_v (v := .pointer (some ((⟨b2, 0, none⟩ : Addr).add 3))) rfl (V_fieldAddrN (B := ⟨b2, 0, none⟩) (m := 0) (o := 3) Try.underlying25 rfl nz3 rfl rfl) ?_)
                    refine RA_yesB rfl rfl rfl rfl (h35) (OA_r rfl (VR_load_blk (b := b2) (m := 3) (k := 0) Try.underlying3 rfl rfl rfl rfl) ?_)
                    refine RA_yesB rfl rfl rfl rfl (h35) (OA_v (v := .bool (decide (a0.f3 ≥ 1))) rfl (V_geq rfl rfl) ?_)
                    refine RA_step rfl (OA_v rfl (V_pickT rfl (h35) rfl) ?_)
                    refine RA_nil ?_
                    exact at_normal (St.mk1 (aeq rfl (aeq (congrArg Value.bool (and_t hq34 (h35))) aeq0)) (Gh.sel [0, 1] rfl rfl))
                  · refine RA_noB rfl rfl rfl rfl (bno h35) rfl ?_
                    refine RA_noB rfl rfl rfl rfl (bno h35) rfl ?_
                    refine RA_noB rfl rfl rfl rfl (bno h35) rfl ?_
                    refine RA_step rfl (OA_v rfl (V_pickF rfl (bno h35) rfl) ?_)
                    refine RA_nil ?_
                    exact at_normal (St.mk1 (aeq rfl (aeq (congrArg Value.bool (and_f hq34 (bno h35))) aeq0)) (Gh.sel [0, 1] rfl rfl))
                · rintro e ds As hst36
                  refine RA.of_St rfl hst36 fun junk => ?_
                  refine RA_step rfl (OA_v (v := .bool q34) rfl (V_move rfl) ?_)
                  obtain ⟨q37, hq37, H⟩ := g_lt H
                  refine RA_cut 4 (fun e ds As => St [(78, .bool q37)] [] e ds As) ?_ ?_
                  · by_cases h38 : q34 = true
                    · refine RA_yesB rfl rfl rfl rfl (h38) (OA_v (v := .pointer (some ((⟨b2, 0, none⟩ : Addr).add 3))) rfl (V_fieldAddrN (B := ⟨b2, 0, none⟩) (m := 0) (o := 3) Try.underlying25 rfl nz3 rfl rfl) ?_)
                      refine RA_yesB rfl rfl rfl rfl (h38) (OA_r rfl (VR_load_blk (b := b2) (m := 3) (k := 0) Try.underlying3 rfl rfl rfl rfl) ?_)
                      refine RA_yesB rfl rfl rfl rfl (h38) (OA_v (v := .bool (decide (a0.f3 ≤ 512))) rfl (V_leq rfl rfl) ?_)
                      refine RA_step rfl (OA_v rfl (V_pickT rfl (h38) rfl) ?_)
                      refine RA_nil ?_
                      exact at_normal (St.mk1 (aeq (congrArg Value.bool (and_t hq37 (h38))) aeq0) (Gh.sel [] rfl rfl))
                    · refine RA_noB rfl rfl rfl rfl (bno h38) rfl ?_
                      refine RA_noB rfl rfl rfl rfl (bno h38) rfl ?_
                      refine RA_noB rfl rfl rfl rfl (bno h38) rfl ?_
                      refine RA_step rfl (OA_v rfl (V_pickF rfl (bno h38) rfl) ?_)
                      refine RA_nil ?_
                      exact at_normal (St.mk1 (aeq (congrArg Value.bool (and_f hq37 (bno h38))) aeq0) (Gh.sel [] rfl rfl))
                  · rintro e ds As hst39
                    refine RA.of_St rfl hst39 fun junk => ?_
                    refine RA_step rfl (OA_v (v := .bool q37) rfl (V_assign rfl) ?_)
                    refine RA_nil ?_
                    refine at_normal ?_
                    refine SA_ret ?_
                    refine inb_ret ?_
                    refine thn_ret ?_
                    have hr_ := Option.some.inj H
                    subst hr_
                    exact BQ_R1 [] rfl rfl (Gh.sel [] rfl rfl) ⟨rfl, rfl⟩
        · replace H := g_iff h24 H
          refine SA_condF rfl h24 ?_
          refine SA_seq ?_
          refine SA_region ?_
          refine RA_step rfl (OA_v (v := .bool (decide (a0.f0 = 4))) rfl (V_eql rfl rfl) ?_)
          refine RA_step rfl (OA_v (v := .bool (decide (a0.f0 = 4))) rfl (V_assign rfl) ?_)
          refine RA_nil ?_
          refine at_normal ?_
          by_cases h40 : a0.f0 = 4
          · replace H := g_ift h40 H
            refine SA_condT rfl h40 ?_
            refine SA_seq ?_
            refine SA_region ?_
            refine RA_step rfl (OA_v (v := .bool q4) rfl (V_move rfl) ?_)
            refine RA_step rfl (OA_v (v := .bool q4) rfl (V_move rfl) ?_)
            obtain ⟨q41, hq41, H⟩ := g_lt H
            refine RA_cut 5 (fun e ds As => St [(1, .pointer (some ⟨b2, 0, none⟩)), (87, .bool q41)] [Blk b2 25 [.int .u8 a0.f0, .slice A0_0 a0.f1.length c0_0, .int .i64 a0.f2, .int .i64 a0.f3, .int .u8 a0.f4], Ro (Kd.int .u8) A0_0 c0_0 a0.f1] e ds As) ?_ ?_
            · by_cases h42 : q4 = true
              · refine RA_yesB rfl rfl rfl rfl (h42) (OA_v (v := .pointer (some ((⟨b2, 0, none⟩ : Addr).add 1))) rfl (V_fieldAddrN (B := ⟨b2, 0, none⟩) (m := 0) (o := 1) Try.underlying25 rfl nz23 rfl rfl) ?_)
                refine RA_yesB rfl rfl rfl rfl (h42) (OA_r rfl (VR_load_blk (b := b2) (m := 1) (k := 0) Try.underlying23 rfl rfl rfl rfl) ?_)
                refine RA_yesB rfl rfl rfl rfl (h42) (OA_v (v := .int .i64 (a0.f1.length : Int)) rfl (V_len Try.underlying23 rfl) ?_)
                refine RA_yesB rfl rfl rfl rfl (h42) (OA_v (v := .bool (decide ((a0.f1.length : Int) = 0))) rfl (V_eql rfl rfl) ?_)
                refine RA_step rfl (OA_v rfl (V_pickT rfl (h42) rfl) ?_)
                refine RA_nil ?_
                exact at_normal (St.mk1 (aeq rfl (aeq (congrArg Value.bool (and_t hq41 (h42))) aeq0)) (Gh.sel [0, 1] rfl rfl))
              · refine RA_noB rfl rfl rfl rfl (bno h42) rfl ?_
                refine RA_noB rfl rfl rfl rfl (bno h42) rfl ?_
                refine RA_noB rfl rfl rfl rfl (bno h42) rfl ?_
                refine RA_noB rfl rfl rfl rfl (bno h42) rfl ?_
                refine RA_step rfl (OA_v rfl (V_pickF rfl (bno h42) rfl) ?_)
                refine RA_nil ?_
                exact at_normal (St.mk1 (aeq rfl (aeq (congrArg Value.bool (and_f hq41 (bno h42))) aeq0)) (Gh.sel [0, 1] rfl rfl))
            · rintro e ds As hst43
              refine RA.of_St rfl hst43 fun junk => ?_
              refine RA_step rfl (OA_v (v := .bool q41) rfl (V_move rfl) ?_)
              obtain ⟨q44, hq44, H⟩ := g_lt H
              refine RA_cut 4 (fun e ds As => St [(1, .pointer (some ⟨b2, 0, none⟩)), (92, .bool q44)] [Blk b2 25 [.int .u8 a0.f0, .slice A0_0 a0.f1.length c0_0, .int .i64 a0.f2, .int .i64 a0.f3, .int .u8 a0.f4], Ro (Kd.int .u8) A0_0 c0_0 a0.f1] e ds As) ?_ ?_
              · by_cases h45 : q41 = true
                · refine RA_yesB rfl rfl rfl rfl (h45) (OA_v (v := .pointer (some ((⟨b2, 0, none⟩ : Addr).add 4))) rfl (V_fieldAddrN (B := ⟨b2, 0, none⟩) (m := 0) (o := 4) Try.underlying25 rfl nz5 rfl rfl) ?_)
                  refine RA_yesB rfl rfl rfl rfl (h45) (OA_r rfl (VR_load_blk (b := b2) (m := 4) (k := 0) Try.underlying5 rfl rfl rfl rfl) ?_)
                  refine RA_yesB rfl rfl rfl rfl (h45) (OA_v (v := .bool (decide (a0.f4 ≥ 65))) rfl (V_geq rfl rfl) ?_)
                  refine RA_step rfl (OA_v rfl (V_pickT rfl (h45) rfl) ?_)
                  refine RA_nil ?_
                  exact at_normal (St.mk1 (aeq rfl (aeq (congrArg Value.bool (and_t hq44 (h45))) aeq0)) (Gh.sel [0, 1] rfl rfl))
                · refine RA_noB rfl rfl rfl rfl (bno h45) rfl ?_
                  refine RA_noB rfl rfl rfl rfl (bno h45) rfl ?_
                  refine RA_noB rfl rfl rfl rfl (bno h45) rfl ?_
                  refine RA_step rfl (OA_v rfl (V_pickF rfl (bno h45) rfl) ?_)
                  refine RA_nil ?_
                  exact at_normal (St.mk1 (aeq rfl (aeq (congrArg Value.bool (and_f hq44 (bno h45))) aeq0)) (Gh.sel [0, 1] rfl rfl))
              · rintro e ds As hst46
                refine RA.of_St rfl hst46 fun junk => ?_
                refine RA_step rfl (OA_v (v := .bool q44) rfl (V_move rfl) ?_)
                obtain ⟨q47, hq47, H⟩ := g_lt H
                refine RA_cut 4 (fun e ds As => St [(97, .bool q47)] [] e ds As) ?_ ?_
                · by_cases h48 : q44 = true
                  · refine RA_yesB rfl rfl rfl rfl (h48) (OA_v (v := .pointer (some ((⟨b2, 0, none⟩ : Addr).add 4))) rfl (V_fieldAddrN (B := ⟨b2, 0, none⟩) (m := 0) (o := 4) Try.underlying25 rfl nz5 rfl rfl) ?_)
                    refine RA_yesB rfl rfl rfl rfl (h48) (OA_r rfl (VR_load_blk (b := b2) (m := 4) (k := 0) Try.underlying5 rfl rfl rfl rfl) ?_)
                    refine RA_yesB rfl rfl rfl rfl (h48) (OA_v (v := .bool (decide (a0.f4 ≤ 68))) rfl (V_leq rfl rfl) ?_)
                    refine RA_step rfl (OA_v rfl (V_pickT rfl (h48) rfl) ?_)
                    refine RA_nil ?_
                    exact at_normal (St.mk1 (aeq (congrArg Value.bool (and_t hq47 (h48))) aeq0) (Gh.sel [] rfl rfl))
                  · refine RA_noB rfl rfl rfl rfl (bno h48) rfl ?_
                    refine RA_noB rfl rfl rfl rfl (bno h48) rfl ?_
                    refine RA_noB rfl rfl rfl rfl (bno h48) rfl ?_
                    refine RA_step rfl (OA_v rfl (V_pickF rfl (bno h48) rfl) ?_)
                    refine RA_nil ?_
                    exact at_normal (St.mk1 (aeq (congrArg Value.bool (and_f hq47 (bno h48))) aeq0) (Gh.sel [] rfl rfl))
                · rintro e ds As hst49
                  refine RA.of_St rfl hst49 fun junk => ?_
                  refine RA_step rfl (OA_v (v := .bool q47) rfl (V_assign rfl) ?_)
                  refine RA_nil ?_
                  refine at_normal ?_
                  refine SA_ret ?_
                  refine inb_ret ?_
                  refine thn_ret ?_
                  have hr_ := Option.some.inj H
                  subst hr_
                  exact BQ_R1 [] rfl rfl (Gh.sel [] rfl rfl) ⟨rfl, rfl⟩
          · replace H := g_iff h40 H
            refine SA_condF rfl h40 ?_
            refine SA_skip ?_
            refine inb_normal ?_
            refine at_normal ?_
            refine SA_seq ?_
            refine SA_region ?_
            refine RA_step rfl (OA_v (v := .bool false) rfl (V_assign rfl) ?_)
            refine RA_nil ?_
            refine at_normal ?_
            refine SA_ret ?_
            have hr_ := Option.some.inj H
            subst hr_
            exact BQ_R1 [] rfl rfl (Gh.sel [] rfl rfl) ⟨rfl, rfl⟩

/-! ### function 58: wayfarer/keys.put -/
def F58.f (l0 : (List Int)) (l1 : (List Int)) : Option ((List Int)) := if 0 ≤ (IntKind.i64.wrap ((l0.length : Int) + (l1.length : Int))) ∧ (IntKind.i64.wrap ((l0.length : Int) + (l1.length : Int))) ≤ 140737488355328 then lt (List.replicate (IntKind.i64.wrap ((l0.length : Int) + (l1.length : Int))).toNat 0) fun n7 => (lt (over n7 0 (l0.take n7.length)) fun n8 => (lt (minI (l0.length : Int) (n8.length : Int)) fun n9 => if 0 ≤ n9 ∧ n9 ≤ (n8.length : Int) ∧ (n8.length : Int) ≤ (n8.length : Int) ∧ (n8.length : Int) ≤ (n8.length : Int) ∧ (n8.length : Int) ≤ (n8.length : Int) then (lt (over n8 n9.toNat (l1.take ((n8.length : Int).toNat - n9.toNat))) fun n15 => (some (n15))) else none)) else none
set_option maxHeartbeats 2000000 in
set_option maxRecDepth 100000 in
theorem F58.ok {l0 : (List Int)} {l1 : (List Int)} {A0 : Option Addr} {c0 : Nat} {A1 : Option Addr} {c1 : Nat} {r : (List Int)} (H : F58.f l0 l1 = some r) : SCA Try.prog 58 #[.slice A0 l0.length c0, .slice A1 l1.length c1] [Ro (Kd.int .u8) A0 c0 l0, Ro (Kd.int .u8) A1 c1 l1] (fun v B => ∃ (A0_0_ : Option Addr) (c0_0_ : Nat), v = .slice A0_0_ r.length c0_0_ ∧ B = [Buf (Kd.int .u8) 5 A0_0_ c0_0_ r]) := by
  refine SCA_of_body Try.func58 rfl rfl ?_
  unfold F58.f at H
  refine SA_seq ?_
  refine SA_region ?_
  refine RA_step rfl (OA_v (v := .slice none 0 0) rfl (V_assign rfl) ?_)
  refine RA_nil ?_
  refine at_normal ?_
  refine SA_seq ?_
  refine SA_region ?_
  refine RA_step rfl (OA_v (v := .slice A0 l0.length c0) rfl (V_move rfl) ?_)
  refine RA_step rfl (OA_v (v := .int .i64 (l0.length : Int)) rfl (V_len Try.underlying23 rfl) ?_)
  refine RA_step rfl (OA_v (v := .slice A1 l1.length c1) rfl (V_move rfl) ?_)
  refine RA_step rfl (OA_v (v := .int .i64 (l1.length : Int)) rfl (V_len Try.underlying23 rfl) ?_)
  refine RA_step rfl (OA_v (v := .int .i64 (IntKind.i64.wrap ((l0.length : Int) + (l1.length : Int)))) rfl (V_add rfl rfl) ?_)
  obtain ⟨⟨g5, g6⟩, H⟩ := g_pos H
  obtain ⟨n7, hn7, H⟩ := g_lt H
  refine RA_step rfl (OA_mk (kd := (Kd.int .u8)) (sz := 1) (l := IntKind.i64.wrap ((l0.length : Int) + (l1.length : Int))) 0 n7 hn7 rfl Try.underlying23 inf5 rfl rfl g5 (by omega) (by omega) rfl rfl (fun _ => rfl) fun b3 => ?_)
  refine RA_step rfl (OA_v (v := .slice (some ⟨b3, 0, none⟩) n7.length ((IntKind.i64.wrap ((l0.length : Int) + (l1.length : Int))).toNat)) rfl (V_assign rfl) ?_)
  refine RA_nil ?_
  refine at_normal ?_
  refine SA_seq ?_
  refine SA_region ?_
  refine RA_step rfl (OA_v (v := .slice (some ⟨b3, 0, none⟩) n7.length ((IntKind.i64.wrap ((l0.length : Int) + (l1.length : Int))).toNat)) rfl (V_move rfl) ?_)
  refine RA_step rfl (OA_v (v := .slice A0 l0.length c0) rfl (V_move rfl) ?_)
  obtain ⟨n8, hn8, H⟩ := g_lt H
  have hl_n8 : n8.length = n7.length := by rw [hn8]; exact over_len (by rw [List.length_take]; omega)
  refine RA_step rfl (OA_copyF (k := 2) (xs := n7) (ys := l0) n8 hn8 rfl Try.underlying23 sz5 rfl rfl rfl rfl (Cpy.slice (Src.ro (k := 0) rfl)) ?_)
  try rewrite [← hl_n8]
  obtain ⟨n9, hn9, H⟩ := g_lt H
  refine RA_step rfl (OA_v (v := .int .i64 n9) rfl (V_assign (v := .int .i64 n9) (congrArg (Value.int .i64) hn9.symm)) ?_)
  refine RA_nil ?_
  refine at_normal ?_
  refine SA_seq ?_
  refine SA_region ?_
  refine RA_step rfl (OA_v (v := .slice (some ⟨b3, 0, none⟩) n8.length ((IntKind.i64.wrap ((l0.length : Int) + (l1.length : Int))).toNat)) rfl (V_move rfl) ?_)
  refine RA_step rfl (OA_v (v := .int .i64 n9) rfl (V_move rfl) ?_)
  refine RA_step rfl (OA_v (v := .slice (some ⟨b3, 0, none⟩) n8.length ((IntKind.i64.wrap ((l0.length : Int) + (l1.length : Int))).toNat)) rfl (V_move rfl) ?_)
  refine RA_step rfl (OA_v (v := .int .i64 (n8.length : Int)) rfl (V_len Try.underlying23 rfl) ?_)
  refine RA_step rfl (OA_v (v := .slice (some ⟨b3, 0, none⟩) n8.length ((IntKind.i64.wrap ((l0.length : Int) + (l1.length : Int))).toNat)) rfl (V_move rfl) ?_)
  refine RA_step rfl (OA_v (v := .int .i64 (n8.length : Int)) rfl (V_len Try.underlying23 rfl) ?_)
  obtain ⟨⟨g10, g11, g12, g13, g14⟩, H⟩ := g_pos H
  refine RA_step rfl (OA_r rfl (VR_win (k := 2) (l := n9) (h := (n8.length : Int)) (m := (n8.length : Int)) rfl Try.underlying23 sz5 rfl rfl rfl rfl (.inr ⟨_, rfl⟩) (.inr ⟨_, rfl⟩) (.inr ⟨⟨_, rfl⟩, ⟨_, rfl⟩, g13, g14⟩) g10 g11 g12) ?_)
  refine RA_step rfl (OA_v (v := .slice A1 l1.length c1) rfl (V_move rfl) ?_)
  obtain ⟨n15, hn15, H⟩ := g_lt H
  have hl_n15 : n15.length = n8.length := by rw [hn15]; exact over_len (by rw [List.length_take]; omega)
  refine RA_step rfl (OA_copyW (k := 2) (l := n9) (h := (n8.length : Int)) (m := (n8.length : Int)) (xs := n8) (ys := l1) n15 hn15 rfl Try.underlying23 sz5 rfl rfl rfl g10 g11 g12 (.inr g13) rfl (Cpy.slice (Src.ro (k := 1) rfl)) ?_)
  try rewrite [← hl_n15]
  refine RA_nil ?_
  refine at_normal ?_
  refine SA_seq ?_
  refine SA_region ?_
  refine RA_step rfl (OA_v (v := .slice (some ⟨b3, 0, none⟩) n15.length ((IntKind.i64.wrap ((l0.length : Int) + (l1.length : Int))).toNat)) rfl (V_move rfl) ?_)
  refine RA_step rfl (OA_v (v := .slice (some ⟨b3, 0, none⟩) n15.length ((IntKind.i64.wrap ((l0.length : Int) + (l1.length : Int))).toNat)) rfl (V_assign rfl) ?_)
  refine RA_nil ?_
  refine at_normal ?_
  refine SA_ret ?_
  have hr_ := Option.some.inj H
  subst hr_
  exact BQ_R1 [Buf (Kd.int .u8) 5 (some ⟨b3, 0, none⟩) ((IntKind.i64.wrap ((l0.length : Int) + (l1.length : Int))).toNat) n15] rfl rfl (Gh.sel [2] rfl rfl) ⟨some ⟨b3, 0, none⟩, (IntKind.i64.wrap ((l0.length : Int) + (l1.length : Int))).toNat, rfl, rfl⟩

/-! ### function 17: wayfarer/keys.Clean -/
def F17.l0 (l0 : (List Int)) : Nat → (List Int) → Int → Option ((List Int))
  | 0, _, _ => none
  | k + 1, x3_5, x8_5 => if x8_5 < (l0.length : Int) then (if 0 ≤ x8_5 ∧ x8_5 < (l0.length : Int) then (lt (rd l0 x8_5) fun n15 => (if n15 = 27 then (some (decide (n15 = 27))) else (some (decide (n15 = 155))) : Option (Bool)).bind (fun t16 => if t16 = true then (F17.l0 l0 k x3_5 (IntKind.i64.wrap (x8_5 + 1))) else (if n15 = 10 then (if x3_5.length + ([13] : (List Int)).length ≤ 140737488355328 then lt (x3_5 ++ ([13] : (List Int))) fun n27 => (F17.l0 l0 k n27 (IntKind.i64.wrap (x8_5 + 1))) else none) else (if x3_5.length + ([n15] : (List Int)).length ≤ 140737488355328 then lt (x3_5 ++ ([n15] : (List Int))) fun n34 => (F17.l0 l0 k n34 (IntKind.i64.wrap (x8_5 + 1))) else none)))) else none) else (some x3_5)
def F17.f (k : Nat) (l0 : (List Int)) : Option ((List Int)) := (F17.l0 l0 k ([]) 0 : Option ((List Int))).bind (fun t2 => some (t2))
set_option maxHeartbeats 2000000 in
set_option maxRecDepth 100000 in
theorem F17.ok {k : Nat} {l0 : (List Int)} {A0 : Option Addr} {c0 : Nat} {r : (List Int)} (H : F17.f k l0 = some r) : SCA Try.prog 17 #[.slice A0 l0.length c0] [Ro (Kd.int .u8) A0 c0 l0] (fun v B => ∃ (A0_0_ : Option Addr) (c0_0_ : Nat), v = .slice A0_0_ r.length c0_0_ ∧ B = [Buf (Kd.int .u8) 5 A0_0_ c0_0_ r]) := by
  refine SCA_of_body Try.func17 rfl rfl ?_
  unfold F17.f at H
  refine SA_seq ?_
  refine SA_region ?_
  refine RA_step rfl (OA_v (v := .slice none 0 0) rfl (V_assign rfl) ?_)
  refine RA_nil ?_
  refine at_normal ?_
  refine SA_seq ?_
  refine SA_region ?_
  refine RA_step rfl (OA_v (v := .slice none 0 0) rfl (V_assign rfl) ?_)
  refine RA_nil ?_
  refine at_normal ?_
  refine SA_seq ?_
  refine SA_seq ?_
  refine SA_region ?_
  refine RA_step rfl (OA_v (v := .slice A0 l0.length c0) rfl (V_move rfl) ?_)
  refine RA_step rfl (OA_v (v := .int .i64 (l0.length : Int)) rfl (V_len Try.underlying23 rfl) ?_)
  refine RA_step rfl (OA_v (v := .int .i64 0) rfl (V_move rfl) ?_)
  refine RA_nil ?_
  refine at_normal ?_
  obtain ⟨t2, H, Bt2⟩ := g_bind H
  refine SA_mid (fun e ds As => ∃ (A3 : Option Addr) (c4 : Nat), St [(3, .slice A3 t2.length c4)] [Buf (Kd.int .u8) 5 A3 c4 t2] e ds As) ?_ ?_
  · refine SA_block ?_
    refine SA_loop (fun k_ e ds As => ∃ (x3_5 : (List Int)) (x8_5 : Int), ∃ (A6 : Option Addr) (c7 : Nat), F17.l0 l0 k_ x3_5 x8_5 = some t2 ∧ St [(3, .slice A6 x3_5.length c7), (6, .slice A0 l0.length c0), (7, .int .i64 (l0.length : Int)), (8, .int .i64 x8_5)] [Buf (Kd.int .u8) 5 A6 c7 x3_5, Ro (Kd.int .u8) A0 c0 l0] e ds As) (k := k) ⟨_, _, none, 0, H, St.mk1 (aeq rfl (aeq rfl (aeq rfl (aeq rfl aeq0)))) ((Gh.nilBuf (Kd.int .u8) 5).trans (Gh.sel [1, 0] rfl rfl))⟩ ?_
    clear H
    rintro k10 e ds As ⟨x3_5, x8_5, A6, c7, H, hst11⟩
    obtain _ | k10 := k10
    · cases H
    rw [F17.l0] at H
    refine SA.of_St hst11 fun junk => ?_
    refine SA_seq ?_
    refine SA_region ?_
    refine RA_step rfl (OA_v (v := .bool (decide (x8_5 < (l0.length : Int)))) rfl (V_lss rfl rfl) ?_)
    refine RA_nil ?_
    refine at_normal ?_
    refine SA_seq ?_
    by_cases h12 : x8_5 < (l0.length : Int)
    · replace H := g_ift h12 H
      refine SA_condT rfl h12 ?_
      refine SA_skip ?_
      refine at_normal ?_
      refine SA_seq ?_
      refine SA_block ?_
      refine SA_seq ?_
      refine SA_region ?_
      obtain ⟨⟨g13, g14⟩, H⟩ := g_pos H
      refine RA_step rfl (OA_r rfl (VR_index (i := x8_5) Try.underlying23 sz5 rfl rfl (Src.ro (k := 1) rfl) g13 g14) ?_)
      refine RA_step rfl (OA_r rfl (VR_load_el (enc := (fun x_ : Int => [Value.int .u8 x_])) (i := x8_5) (j := x8_5.toNat * 1) (m := 0) (sz := 1) Try.underlying5 rfl rfl rfl rfl (Src.ro (k := 1) rfl) g13 g14 (fun _ _ h => h) rfl) ?_)
      obtain ⟨n15, hn15, H⟩ := g_lt H
      refine RA_step rfl (OA_v (v := .int .u8 n15) rfl (V_assign (v := .int .u8 n15) (congrArg (Value.int .u8) hn15.symm)) ?_)
      refine RA_nil ?_
      refine at_normal ?_
      refine SA_seq ?_
      refine SA_region ?_
      refine RA_step rfl (OA_v (v := .int .u8 n15) rfl (V_move rfl) ?_)
      refine RA_nil ?_
      refine at_normal ?_
      refine SA_block ?_
      refine SA_seq ?_
      refine SA_seq ?_
      refine SA_region ?_
      refine RA_step rfl (OA_v (v := .bool (decide (n15 = 27))) rfl (V_eql rfl rfl) ?_)
      refine RA_step rfl (OA_v (v := .bool (decide (n15 = 27))) rfl (V_assign rfl) ?_)
      refine RA_nil ?_
      refine at_normal ?_
      obtain ⟨t16, H, Bt16⟩ := g_bind H
      refine SA_mid (fun e ds As => St [(3, .slice A6 x3_5.length c7), (5, .int .u8 n15), (6, .slice A0 l0.length c0), (7, .int .i64 (l0.length : Int)), (8, .int .i64 x8_5), (12, .int .u8 n15), (17, .bool t16)] [Buf (Kd.int .u8) 5 A6 c7 x3_5, Ro (Kd.int .u8) A0 c0 l0] e ds As) ?_ ?_
      · by_cases h17 : n15 = 27
        · replace H := g_ift h17 H
          refine SA_condT rfl h17 ?_
          refine SA_skip ?_
          have hr_ := Option.some.inj H
          subst hr_
          exact at_normal (St.mk1 (aeq rfl (aeq rfl (aeq rfl (aeq rfl (aeq rfl (aeq rfl (aeq rfl aeq0))))))) (Gh.sel [0, 1] rfl rfl))
        · replace H := g_iff h17 H
          refine SA_condF rfl h17 ?_
          refine SA_region ?_
          refine RA_step rfl (OA_v (v := .bool (decide (n15 = 155))) rfl (V_eql rfl rfl) ?_)
          refine RA_step rfl (OA_v (v := .bool (decide (n15 = 155))) rfl (V_assign rfl) ?_)
          refine RA_nil ?_
          have hr_ := Option.some.inj H
          subst hr_
          exact at_normal (St.mk1 (aeq rfl (aeq rfl (aeq rfl (aeq rfl (aeq rfl (aeq rfl (aeq rfl aeq0))))))) (Gh.sel [0, 1] rfl rfl))
      · rintro e ds As hst18
        clear H
        have H := Bt16
        clear Bt16
        refine at_normal ?_
        refine SA.of_St hst18 fun junk => ?_
        by_cases h19 : t16 = true
        · replace H := g_ift h19 H
          refine SA_condTb rfl h19 ?_
          refine SA_skip ?_
          refine inb_normal ?_
          refine inb_normal ?_
          refine at_normal ?_
          refine SA_region ?_
          refine RA_step rfl (OA_v (v := .int .i64 (IntKind.i64.wrap (x8_5 + 1))) rfl (V_add rfl rfl) ?_)
          refine RA_step rfl (OA_v (v := .int .i64 (IntKind.i64.wrap (x8_5 + 1))) rfl (V_move rfl) ?_)
          refine RA_nil ?_
          exact at_normal ⟨k10, Nat.lt_succ_self _, _, _, A6, c7, H, St.mk1 (aeq rfl (aeq rfl (aeq rfl (aeq rfl aeq0)))) (Gh.sel [0, 1] rfl rfl)⟩
        · replace H := g_iff h19 H
          refine SA_condFb rfl h19 ?_
          refine SA_seq ?_
          refine SA_region ?_
          refine RA_step rfl (OA_v (v := .bool (decide (n15 = 10))) rfl (V_eql rfl rfl) ?_)
          refine RA_step rfl (OA_v (v := .bool (decide (n15 = 10))) rfl (V_assign rfl) ?_)
          refine RA_nil ?_
          refine at_normal ?_
          by_cases h20 : n15 = 10
          · replace H := g_ift h20 H
            refine SA_condT rfl h20 ?_
            refine SA_region ?_
            refine RA_step rfl (OA_v (v := .slice A6 x3_5.length c7) rfl (V_move rfl) ?_)
            refine RA_step rfl (OA_bs (kd := (Kd.int .u8)) (zv := (.int .u8 0)) (sz := 1) (cells := [.int .u8 13]) (xs := ([13] : (List Int))) rfl Try.underlying23 zero5 sz5 rfl rfl rfl (by kernel_rfl) rfl rfl (RL_enc (fun x_ : Int => [Value.int .u8 x_]) (fun _ _ => rfl) (by kernel_rfl)) fun b21 => ?_)
            obtain ⟨g24, H⟩ := g_pos H
            obtain ⟨n27, hn27, H⟩ := g_lt H
            refine RA_step rfl (OA_app (k := 0) (A := A6) (c := c7) (xs := x3_5) (ys := ([13] : (List Int))) n27 hn27 rfl Try.underlying23 inf5 rfl rfl rfl rfl rfl (Yld.slice Try.underlying23 (Src.buf (k := 2) rfl)) (by omega) (by omega) fun A25 c26 => ?_)
            refine RA_step rfl (OA_v (v := .slice A25 n27.length c26) rfl (V_assign rfl) ?_)
            refine RA_nil ?_
            refine inb_normal ?_
            refine inb_normal ?_
            refine at_normal ?_
            refine SA_region ?_
            refine RA_step rfl (OA_v (v := .int .i64 (IntKind.i64.wrap (x8_5 + 1))) rfl (V_add rfl rfl) ?_)
            refine RA_step rfl (OA_v (v := .int .i64 (IntKind.i64.wrap (x8_5 + 1))) rfl (V_move rfl) ?_)
            refine RA_nil ?_
            exact at_normal ⟨k10, Nat.lt_succ_self _, _, _, A25, c26, H, St.mk1 (aeq rfl (aeq rfl (aeq rfl (aeq rfl aeq0)))) (Gh.sel [0, 1] rfl rfl)⟩
          · replace H := g_iff h20 H
            refine SA_condF rfl h20 ?_
            refine SA_region ?_
            refine RA_step rfl (OA_v (v := .slice A6 x3_5.length c7) rfl (V_move rfl) ?_)
            refine RA_step rfl (OA_v (v := .int .u8 n15) rfl (V_move rfl) ?_)
            refine RA_step rfl (OA_bs (kd := (Kd.int .u8)) (zv := (.int .u8 0)) (sz := 1) (cells := [.int .u8 n15]) (xs := ([n15] : (List Int))) rfl Try.underlying23 zero5 sz5 rfl rfl rfl (by kernel_rfl) rfl rfl (RL_enc (fun x_ : Int => [Value.int .u8 x_]) (fun _ _ => rfl) (by kernel_rfl)) fun b28 => ?_)
            obtain ⟨g31, H⟩ := g_pos H
            obtain ⟨n34, hn34, H⟩ := g_lt H
            refine RA_step rfl (OA_app (k := 0) (A := A6) (c := c7) (xs := x3_5) (ys := ([n15] : (List Int))) n34 hn34 rfl Try.underlying23 inf5 rfl rfl rfl rfl rfl (Yld.slice Try.underlying23 (Src.buf (k := 2) rfl)) (by omega) (by omega) fun A32 c33 => ?_)
            refine RA_step rfl (OA_v (v := .slice A32 n34.length c33) rfl (V_assign rfl) ?_)
            refine RA_nil ?_
            refine inb_normal ?_
            refine inb_normal ?_
            refine at_normal ?_
            refine SA_region ?_
            refine RA_step rfl (OA_v (v := .int .i64 (IntKind.i64.wrap (x8_5 + 1))) rfl (V_add rfl rfl) ?_)
            refine RA_step rfl (OA_v (v := .int .i64 (IntKind.i64.wrap (x8_5 + 1))) rfl (V_move rfl) ?_)
            refine RA_nil ?_
            exact at_normal ⟨k10, Nat.lt_succ_self _, _, _, A32, c33, H, St.mk1 (aeq rfl (aeq rfl (aeq rfl (aeq rfl aeq0)))) (Gh.sel [0, 1] rfl rfl)⟩
    · replace H := g_iff h12 H
      refine SA_condF rfl h12 ?_
      refine SA_exit ?_
      refine thn_exit ?_
      refine thn_exit ?_
      refine inb_hit ?_
      have hr_ := Option.some.inj H
      subst hr_
      exact at_normal ⟨A6, c7, St.mk1 (aeq rfl aeq0) (Gh.sel [0] rfl rfl)⟩
  · rintro e ds As ⟨A3, c4, hst35⟩
    clear H
    have H := Bt2
    clear Bt2
    refine at_normal ?_
    refine SA.of_St hst35 fun junk => ?_
    refine SA_seq ?_
    refine SA_region ?_
    refine RA_step rfl (OA_v (v := .slice A3 t2.length c4) rfl (V_move rfl) ?_)
    refine RA_step rfl (OA_v (v := .slice A3 t2.length c4) rfl (V_assign rfl) ?_)
    refine RA_nil ?_
    refine at_normal ?_
    refine SA_ret ?_
    have hr_ := Option.some.inj H
    subst hr_
    exact BQ_R1 [Buf (Kd.int .u8) 5 A3 c4 t2] rfl rfl (Gh.sel [0] rfl rfl) ⟨A3, c4, rfl, rfl⟩

/-! ### function 14: wayfarer/keys.Encode -/
def F14.f (k : Nat) (a0 : S25) (a1 : Bool) (a2 : Bool) : Option ((List Int) × Int) := (F57.f a0).bind (fun r4 => if (!r4) = true then (some ((([] : (List Int)), 2))) else (if a0.f0 = 1 then ((F58.f ([] : (List Int)) a0.f1).bind (fun r9 => some ((r9, 0)))) else (lt ((decide (a0.f0 = 4)) && a1) fun q14 => if q14 = true then (some ((([27, 79, a0.f4] : (List Int)), 0))) else (if a0.f0 = 4 then (some ((([27, 91, a0.f4] : (List Int)), 0))) else (lt ((decide (a0.f0 = 3)) && a2) fun q23 => if q23 = true then ((F17.f k a0.f1).bind (fun r29 => (F58.f ([27, 91, 50, 48, 48, 126] : (List Int)) r29).bind (fun r33 => (F58.f r33 ([27, 91, 50, 48, 49, 126] : (List Int))).bind (fun r39 => some ((r39, 0)))))) else (if a0.f0 = 3 then ((F17.f k a0.f1).bind (fun r47 => some ((r47, 0)))) else (some ((([] : (List Int)), 0)))))))))
set_option maxHeartbeats 2000000 in
set_option maxRecDepth 100000 in
theorem F14.ok {k : Nat} {a0 : S25} {a1 : Bool} {a2 : Bool} {A0_0 : Option Addr} {c0_0 : Nat} {r : (List Int) × Int} (H : F14.f k a0 a1 a2 = some r) : SCA Try.prog 14 #[.agg #[.int .u8 a0.f0, .slice A0_0 a0.f1.length c0_0, .int .i64 a0.f2, .int .i64 a0.f3, .int .u8 a0.f4], .bool a1, .bool a2] [Ro (Kd.int .u8) A0_0 c0_0 a0.f1] (fun v B => ∃ (A0_0_ : Option Addr) (c0_0_ : Nat), v = .tuple #[.slice A0_0_ r.1.length c0_0_, .int .i64 r.2] ∧ B = [Buf (Kd.int .u8) 5 A0_0_ c0_0_ r.1]) := by
  refine SCA_of_body Try.func14 rfl rfl ?_
  unfold F14.f at H
  refine SA_seq ?_
  refine SA_region ?_
  refine RA_step rfl (OA_box rfl rfl fun b2 => ?_)
  refine RA_step rfl (OA_v (v := .slice none 0 0) rfl (V_assign rfl) ?_)
  refine RA_step rfl (OA_v (v := .int .i64 0) rfl (V_assign rfl) ?_)
  refine RA_nil ?_
  refine at_normal ?_
  refine SA_seq ?_
  refine SA_seq ?_
  refine SA_region ?_
  refine RA_step rfl (OA_r rfl (VR_loadA_blk (b := b2) (m := 0) (k := 1) (vs := [.int .u8 a0.f0, .slice A0_0 a0.f1.length c0_0, .int .i64 a0.f2, .int .i64 a0.f3, .int .u8 a0.f4]) Try.underlying25 rfl sz25 rfl rfl rfl) ?_)
  obtain ⟨r4, C53, H⟩ := g_bind H
  refine RA_step rfl (OA_callA [0] [0, 1] rfl (X_fn (vs := [.agg #[.int .u8 a0.f0, .slice A0_0 a0.f1.length c0_0, .int .i64 a0.f2, .int .i64 a0.f3, .int .u8 a0.f4]]) Try.func57 nm57 rfl rfl) rfl (F57.ok (a0 := a0) (A0_0 := A0_0) (c0_0 := c0_0) C53) rfl ?_)
  rintro _ _ ⟨rfl, rfl⟩
  refine RA_step rfl (OA_v (v := .bool (!r4)) rfl (V_not rfl) ?_)
  refine RA_nil ?_
  refine at_normal ?_
  by_cases h5 : (!r4) = true
  · replace H := g_ift h5 H
    refine SA_condTb rfl h5 ?_
    refine SA_seq ?_
    refine SA_region ?_
    refine RA_step rfl (OA_v (v := .slice none 0 0) rfl (V_assign rfl) ?_)
    refine RA_step rfl (OA_v (v := .int .i64 2) rfl (V_assign rfl) ?_)
    refine RA_nil ?_
    refine at_normal ?_
    refine SA_ret ?_
    refine thn_ret ?_
    have hr_ := Option.some.inj H
    subst hr_
    exact BQ_R2 [Buf (Kd.int .u8) 5 none 0 ([] : (List Int))] rfl rfl rfl ((Gh.nilBuf (Kd.int .u8) 5).trans (Gh.sel [2] rfl rfl)) ⟨none, 0, rfl, rfl⟩
  · replace H := g_iff h5 H
    refine SA_condFb rfl h5 ?_
    refine SA_skip ?_
    refine at_normal ?_
    refine SA_seq ?_
    refine SA_block ?_
    refine SA_seq ?_
    refine SA_region ?_
    refine RA_step rfl (OA_v (v := .pointer (some ⟨b2, 0, none⟩)) rfl (V_fieldAddrN (B := ⟨b2, 0, none⟩) (m := 0) (o := 0) Try.underlying25 rfl nz22 rfl rfl) ?_)
    refine RA_step rfl (OA_r rfl (VR_load_blk (b := b2) (m := 0) (k := 1) Try.underlying22 rfl rfl rfl rfl) ?_)
    refine RA_step rfl (OA_v (v := .bool (decide (a0.f0 = 1))) rfl (V_eql rfl rfl) ?_)
    refine RA_step rfl (OA_v (v := .bool (decide (a0.f0 = 1))) rfl (V_assign rfl) ?_)
    refine RA_nil ?_
    refine at_normal ?_
    by_cases h7 : a0.f0 = 1
    · replace H := g_ift h7 H
      refine SA_condT rfl h7 ?_
      refine SA_seq ?_
      refine SA_region ?_
      refine RA_step rfl (OA_v (v := .pointer (some ((⟨b2, 0, none⟩ : Addr).add 1))) rfl (V_fieldAddrN (B := ⟨b2, 0, none⟩) (m := 0) (o := 1) Try.underlying25 rfl nz23 rfl rfl) ?_)
      refine RA_step rfl (OA_r rfl (VR_load_blk (b := b2) (m := 1) (k := 1) Try.underlying23 rfl rfl rfl rfl) ?_)
      obtain ⟨r9, C13, H⟩ := g_bind H
      refine RA_step rfl (OA.ghost (Gh.nilRo (Kd.int .u8) none 0) (OA_callA [2, 0] [0, 1, 2] rfl (X_fn (vs := [.slice none 0 0, .slice A0_0 a0.f1.length c0_0]) Try.func58 nm58 rfl rfl) rfl (F58.ok (l0 := ([] : (List Int))) (A0 := none) (c0 := 0) (l1 := a0.f1) (A1 := A0_0) (c1 := c0_0) C13) rfl ?_))
      rintro _ _ ⟨A10, c11, rfl, rfl⟩
      refine RA_step rfl (OA_v (v := .slice A10 r9.length c11) rfl (V_assign rfl) ?_)
      refine RA_step rfl (OA_v (v := .int .i64 0) rfl (V_assign rfl) ?_)
      refine RA_nil ?_
      refine at_normal ?_
      refine SA_ret ?_
      refine inb_ret ?_
      refine thn_ret ?_
      have hr_ := Option.some.inj H
      subst hr_
      exact BQ_R2 [Buf (Kd.int .u8) 5 A10 c11 r9] rfl rfl rfl (Gh.sel [0] rfl rfl) ⟨A10, c11, rfl, rfl⟩
    · replace H := g_iff h7 H
      refine SA_condF rfl h7 ?_
      refine SA_seq ?_
      refine SA_region ?_
      refine RA_step rfl (OA_v (v := .pointer (some ⟨b2, 0, none⟩)) rfl (V_fieldAddrN (B := ⟨b2, 0, none⟩) (m := 0) (o := 0) Try.underlying25 rfl nz22 rfl rfl) ?_)
      refine RA_step rfl (OA_r rfl (VR_load_blk (b := b2) (m := 0) (k := 1) Try.underlying22 rfl rfl rfl rfl) ?_)
      refine RA_step rfl (OA_v (v := .bool (decide (a0.f0 = 4))) rfl (V_eql rfl rfl) ?_)
      refine RA_step rfl (OA_v (v := .bool (decide (a0.f0 = 4))) rfl (V_move rfl) ?_)
      obtain ⟨q14, hq14, H⟩ := g_lt H
      refine RA_cut 2 (fun e ds As => St [(2, .bool a2), (3, .pointer (some ⟨b2, 0, none⟩)), (24, .bool q14)] [Blk b2 25 [.int .u8 a0.f0, .slice A0_0 a0.f1.length c0_0, .int .i64 a0.f2, .int .i64 a0.f3, .int .u8 a0.f4], Ro (Kd.int .u8) A0_0 c0_0 a0.f1] e ds As) ?_ ?_
      · by_cases h15 : a0.f0 = 4
        · refine RA_yesB rfl rfl rfl rfl (dec_t h15) (OA_v (v := .bool a1) rfl (V_move rfl) ?_)
          refine RA_step rfl (OA_v rfl (V_pickT rfl (dec_t h15) rfl) ?_)
          refine RA_nil ?_
          exact at_normal (St.mk1 (aeq rfl (aeq rfl (aeq (congrArg Value.bool (and_t hq14 (dec_t h15))) aeq0))) (Gh.sel [1, 0] rfl rfl))
        · refine RA_noB rfl rfl rfl rfl (dec_f h15) rfl ?_
          refine RA_step rfl (OA_v rfl (V_pickF rfl (dec_f h15) rfl) ?_)
          refine RA_nil ?_
          exact at_normal (St.mk1 (aeq rfl (aeq rfl (aeq (congrArg Value.bool (and_f hq14 (dec_f h15))) aeq0))) (Gh.sel [1, 0] rfl rfl))
      · rintro e ds As hst16
        refine RA.of_St rfl hst16 fun junk => ?_
        refine RA_step rfl (OA_v (v := .bool q14) rfl (V_assign rfl) ?_)
        refine RA_nil ?_
        refine at_normal ?_
        by_cases h17 : q14 = true
        · replace H := g_ift h17 H
          refine SA_condTb rfl h17 ?_
          refine SA_seq ?_
          refine SA_region ?_
          refine RA_step rfl (OA_v (v := .pointer (some ((⟨b2, 0, none⟩ : Addr).add 4))) rfl (V_fieldAddrN (B := ⟨b2, 0, none⟩) (m := 0) (o := 4) Try.underlying25 rfl nz5 rfl rfl) ?_)
          refine RA_step rfl (OA_r rfl (VR_load_blk (b := b2) (m := 4) (k := 0) Try.underlying5 rfl rfl rfl rfl) ?_)
          refine RA_step rfl (OA_bs (kd := (Kd.int .u8)) (zv := (.int .u8 0)) (sz := 1) (cells := [.int .u8 27, .int .u8 79, .int .u8 a0.f4]) (xs := ([27, 79, a0.f4] : (List Int))) rfl Try.underlying23 zero5 sz5 rfl rfl rfl (by kernel_rfl) rfl rfl (RL_enc (fun x_ : Int => [Value.int .u8 x_]) (fun _ _ => rfl) (by kernel_rfl)) fun b18 => ?_)
          refine RA_step rfl (OA_v (v := .slice (some ⟨b18, 0, none⟩) ([27, 79, a0.f4] : (List Int)).length 3) rfl (V_assign rfl) ?_)
          refine RA_step rfl (OA_v (v := .int .i64 0) rfl (V_assign rfl) ?_)
          refine RA_nil ?_
          refine at_normal ?_
          refine SA_ret ?_
          refine inb_ret ?_
          refine thn_ret ?_
          have hr_ := Option.some.inj H
          subst hr_
          exact BQ_R2 [Buf (Kd.int .u8) 5 (some ⟨b18, 0, none⟩) 3 ([27, 79, a0.f4] : (List Int))] rfl rfl rfl (Gh.sel [2] rfl rfl) ⟨some ⟨b18, 0, none⟩, 3, rfl, rfl⟩
        · replace H := g_iff h17 H
          refine SA_condFb rfl h17 ?_
          refine SA_seq ?_
          refine SA_region ?_
          refine RA_step rfl (OA_v (v := .pointer (some ⟨b2, 0, none⟩)) rfl (V_fieldAddrN (B := ⟨b2, 0, none⟩) (m := 0) (o := 0) Try.underlying25 rfl nz22 rfl rfl) ?_)
          refine RA_step rfl (OA_r rfl (VR_load_blk (b := b2) (m := 0) (k := 0) Try.underlying22 rfl rfl rfl rfl) ?_)
          refine RA_step rfl (OA_v (v := .bool (decide (a0.f0 = 4))) rfl (V_eql rfl rfl) ?_)
          refine RA_step rfl (OA_v (v := .bool (decide (a0.f0 = 4))) rfl (V_assign rfl) ?_)
          refine RA_nil ?_
          refine at_normal ?_
          by_cases h20 : a0.f0 = 4
          · replace H := g_ift h20 H
            refine SA_condT rfl h20 ?_
            refine SA_seq ?_
            refine SA_region ?_
            refine RA_step rfl (OA_v (v := .pointer (some ((⟨b2, 0, none⟩ : Addr).add 4))) rfl (V_fieldAddrN (B := ⟨b2, 0, none⟩) (m := 0) (o := 4) Try.underlying25 rfl nz5 rfl rfl) ?_)
            refine RA_step rfl (OA_r rfl (VR_load_blk (b := b2) (m := 4) (k := 0) Try.underlying5 rfl rfl rfl rfl) ?_)
            refine RA_step rfl (OA_bs (kd := (Kd.int .u8)) (zv := (.int .u8 0)) (sz := 1) (cells := [.int .u8 27, .int .u8 91, .int .u8 a0.f4]) (xs := ([27, 91, a0.f4] : (List Int))) rfl Try.underlying23 zero5 sz5 rfl rfl rfl (by kernel_rfl) rfl rfl (RL_enc (fun x_ : Int => [Value.int .u8 x_]) (fun _ _ => rfl) (by kernel_rfl)) fun b21 => ?_)
            refine RA_step rfl (OA_v (v := .slice (some ⟨b21, 0, none⟩) ([27, 91, a0.f4] : (List Int)).length 3) rfl (V_assign rfl) ?_)
            refine RA_step rfl (OA_v (v := .int .i64 0) rfl (V_assign rfl) ?_)
            refine RA_nil ?_
            refine at_normal ?_
            refine SA_ret ?_
            refine inb_ret ?_
            refine thn_ret ?_
            have hr_ := Option.some.inj H
            subst hr_
            exact BQ_R2 [Buf (Kd.int .u8) 5 (some ⟨b21, 0, none⟩) 3 ([27, 91, a0.f4] : (List Int))] rfl rfl rfl (Gh.sel [2] rfl rfl) ⟨some ⟨b21, 0, none⟩, 3, rfl, rfl⟩
          · replace H := g_iff h20 H
            refine SA_condF rfl h20 ?_
            refine SA_seq ?_
            refine SA_region ?_
            refine RA_step rfl (OA_v (v := .pointer (some ⟨b2, 0, none⟩)) rfl (V_fieldAddrN (B := ⟨b2, 0, none⟩) (m := 0) (o := 0) Try.underlying25 rfl nz22 rfl rfl) ?_)
            refine RA_step rfl (OA_r rfl (VR_load_blk (b := b2) (m := 0) (k := 0) Try.underlying22 rfl rfl rfl rfl) ?_)
            refine RA_step rfl (OA_v (v := .bool (decide (a0.f0 = 3))) rfl (V_eql rfl rfl) ?_)
            refine RA_step rfl (OA_v (v := .bool (decide (a0.f0 = 3))) rfl (V_move rfl) ?_)
            obtain ⟨q23, hq23, H⟩ := g_lt H
            refine RA_cut 2 (fun e ds As => St [(3, .pointer (some ⟨b2, 0, none⟩)), (41, .bool q23)] [Blk b2 25 [.int .u8 a0.f0, .slice A0_0 a0.f1.length c0_0, .int .i64 a0.f2, .int .i64 a0.f3, .int .u8 a0.f4], Ro (Kd.int .u8) A0_0 c0_0 a0.f1] e ds As) ?_ ?_
            · by_cases h24 : a0.f0 = 3
              · refine RA_yesB rfl rfl rfl rfl (dec_t h24) (OA_v (v := .bool a2) rfl (V_move rfl) ?_)
                refine RA_step rfl (OA_v rfl (V_pickT rfl (dec_t h24) rfl) ?_)
                refine RA_nil ?_
                exact at_normal (St.mk1 (aeq rfl (aeq (congrArg Value.bool (and_t hq23 (dec_t h24))) aeq0)) (Gh.sel [0, 1] rfl rfl))
              · refine RA_noB rfl rfl rfl rfl (dec_f h24) rfl ?_
                refine RA_step rfl (OA_v rfl (V_pickF rfl (dec_f h24) rfl) ?_)
                refine RA_nil ?_
                exact at_normal (St.mk1 (aeq rfl (aeq (congrArg Value.bool (and_f hq23 (dec_f h24))) aeq0)) (Gh.sel [0, 1] rfl rfl))
            · rintro e ds As hst25
              refine RA.of_St rfl hst25 fun junk => ?_
              refine RA_step rfl (OA_v (v := .bool q23) rfl (V_assign rfl) ?_)
              refine RA_nil ?_
              refine at_normal ?_
              by_cases h26 : q23 = true
              · replace H := g_ift h26 H
                refine SA_condTb rfl h26 ?_
                refine SA_seq ?_
                refine SA_region ?_
                refine RA_step rfl (OA_bs (kd := (Kd.int .u8)) (zv := (.int .u8 0)) (sz := 1) (cells := [.int .u8 27, .int .u8 91, .int .u8 50, .int .u8 48, .int .u8 48, .int .u8 126]) (xs := ([27, 91, 50, 48, 48, 126] : (List Int))) rfl Try.underlying23 zero5 sz5 rfl rfl rfl (by kernel_rfl) rfl rfl (RL_enc (fun x_ : Int => [Value.int .u8 x_]) (fun _ _ => rfl) (by kernel_rfl)) fun b27 => ?_)
                refine RA_step rfl (OA_bytesConst (k := 2) rfl Try.underlying23 Try.underlying5 rfl (by simp) rfl ?_)
                refine RA_step rfl (OA_v (v := .pointer (some ((⟨b2, 0, none⟩ : Addr).add 1))) rfl (V_fieldAddrN (B := ⟨b2, 0, none⟩) (m := 0) (o := 1) Try.underlying25 rfl nz23 rfl rfl) ?_)
                refine RA_step rfl (OA_r rfl (VR_load_blk (b := b2) (m := 1) (k := 0) Try.underlying23 rfl rfl rfl rfl) ?_)
                obtain ⟨r29, C45, H⟩ := g_bind H
                refine RA_step rfl (OA_callA [1] [0, 1, 2] rfl (X_fn (vs := [.slice A0_0 a0.f1.length c0_0]) Try.func17 nm17 rfl rfl) rfl (F17.ok (l0 := a0.f1) (A0 := A0_0) (c0 := c0_0) C45) rfl ?_)
                rintro _ _ ⟨A30, c31, rfl, rfl⟩
                obtain ⟨r33, C44, H⟩ := g_bind H
                refine RA_step rfl (OA.ghost (Gh.freeze (k := 3) rfl) (OA.ghost (Gh.freeze (k := 0) rfl) (OA_callA [3, 0] [0, 1, 2, 3] rfl (X_fn (vs := [.slice (some ⟨b27, 0, none⟩) ([27, 91, 50, 48, 48, 126] : (List Int)).length 6, .slice A30 r29.length c31]) Try.func58 nm58 rfl rfl) rfl (F58.ok (l0 := ([27, 91, 50, 48, 48, 126] : (List Int))) (A0 := some ⟨b27, 0, none⟩) (c0 := 6) (l1 := r29) (A1 := A30) (c1 := c31) C44) rfl ?_)))
                rintro _ _ ⟨A34, c35, rfl, rfl⟩
                refine RA_step rfl (OA_bs (kd := (Kd.int .u8)) (zv := (.int .u8 0)) (sz := 1) (cells := [.int .u8 27, .int .u8 91, .int .u8 50, .int .u8 48, .int .u8 49, .int .u8 126]) (xs := ([27, 91, 50, 48, 49, 126] : (List Int))) rfl Try.underlying23 zero5 sz5 rfl rfl rfl (by kernel_rfl) rfl rfl (RL_enc (fun x_ : Int => [Value.int .u8 x_]) (fun _ _ => rfl) (by kernel_rfl)) fun b37 => ?_)
                refine RA_step rfl (OA_bytesConst (k := 5) rfl Try.underlying23 Try.underlying5 rfl (by simp) rfl ?_)
                obtain ⟨r39, C43, H⟩ := g_bind H
                refine RA_step rfl (OA.ghost (Gh.freeze (k := 0) rfl) (OA.ghost (Gh.freeze (k := 5) rfl) (OA_callA [0, 5] [0, 1, 2, 3, 4, 5] rfl (X_fn (vs := [.slice A34 r33.length c35, .slice (some ⟨b37, 0, none⟩) ([27, 91, 50, 48, 49, 126] : (List Int)).length 6]) Try.func58 nm58 rfl rfl) rfl (F58.ok (l0 := r33) (A0 := A34) (c0 := c35) (l1 := ([27, 91, 50, 48, 49, 126] : (List Int))) (A1 := some ⟨b37, 0, none⟩) (c1 := 6) C43) rfl ?_)))
                rintro _ _ ⟨A40, c41, rfl, rfl⟩
                refine RA_step rfl (OA_v (v := .slice A40 r39.length c41) rfl (V_assign rfl) ?_)
                refine RA_step rfl (OA_v (v := .int .i64 0) rfl (V_assign rfl) ?_)
                refine RA_nil ?_
                refine at_normal ?_
                refine SA_ret ?_
                refine inb_ret ?_
                refine thn_ret ?_
                have hr_ := Option.some.inj H
                subst hr_
                exact BQ_R2 [Buf (Kd.int .u8) 5 A40 c41 r39] rfl rfl rfl (Gh.sel [0] rfl rfl) ⟨A40, c41, rfl, rfl⟩
              · replace H := g_iff h26 H
                refine SA_condFb rfl h26 ?_
                refine SA_seq ?_
                refine SA_region ?_
                refine RA_step rfl (OA_v (v := .pointer (some ⟨b2, 0, none⟩)) rfl (V_fieldAddrN (B := ⟨b2, 0, none⟩) (m := 0) (o := 0) Try.underlying25 rfl nz22 rfl rfl) ?_)
                refine RA_step rfl (OA_r rfl (VR_load_blk (b := b2) (m := 0) (k := 0) Try.underlying22 rfl rfl rfl rfl) ?_)
                refine RA_step rfl (OA_v (v := .bool (decide (a0.f0 = 3))) rfl (V_eql rfl rfl) ?_)
                refine RA_step rfl (OA_v (v := .bool (decide (a0.f0 = 3))) rfl (V_assign rfl) ?_)
                refine RA_nil ?_
                refine at_normal ?_
                by_cases h46 : a0.f0 = 3
                · replace H := g_ift h46 H
                  refine SA_condT rfl h46 ?_
                  refine SA_seq ?_
                  refine SA_region ?_
                  refine RA_step rfl (OA_v (v := .pointer (some ((⟨b2, 0, none⟩ : Addr).add 1))) rfl (V_fieldAddrN (B := ⟨b2, 0, none⟩) (m := 0) (o := 1) Try.underlying25 rfl nz23 rfl rfl) ?_)
                  refine RA_step rfl (OA_r rfl (VR_load_blk (b := b2) (m := 1) (k := 0) Try.underlying23 rfl rfl rfl rfl) ?_)
                  obtain ⟨r47, C51, H⟩ := g_bind H
                  refine RA_step rfl (OA_callA [1] [0, 1] rfl (X_fn (vs := [.slice A0_0 a0.f1.length c0_0]) Try.func17 nm17 rfl rfl) rfl (F17.ok (l0 := a0.f1) (A0 := A0_0) (c0 := c0_0) C51) rfl ?_)
                  rintro _ _ ⟨A48, c49, rfl, rfl⟩
                  refine RA_step rfl (OA_v (v := .slice A48 r47.length c49) rfl (V_assign rfl) ?_)
                  refine RA_step rfl (OA_v (v := .int .i64 0) rfl (V_assign rfl) ?_)
                  refine RA_nil ?_
                  refine at_normal ?_
                  refine SA_ret ?_
                  refine inb_ret ?_
                  refine thn_ret ?_
                  have hr_ := Option.some.inj H
                  subst hr_
                  exact BQ_R2 [Buf (Kd.int .u8) 5 A48 c49 r47] rfl rfl rfl (Gh.sel [0] rfl rfl) ⟨A48, c49, rfl, rfl⟩
                · replace H := g_iff h46 H
                  refine SA_condF rfl h46 ?_
                  refine SA_skip ?_
                  refine inb_normal ?_
                  refine at_normal ?_
                  refine SA_seq ?_
                  refine SA_region ?_
                  refine RA_step rfl (OA_v (v := .slice none 0 0) rfl (V_assign rfl) ?_)
                  refine RA_step rfl (OA_v (v := .int .i64 0) rfl (V_assign rfl) ?_)
                  refine RA_nil ?_
                  refine at_normal ?_
                  refine SA_ret ?_
                  have hr_ := Option.some.inj H
                  subst hr_
                  exact BQ_R2 [Buf (Kd.int .u8) 5 none 0 ([] : (List Int))] rfl rfl rfl ((Gh.nilBuf (Kd.int .u8) 5).trans (Gh.sel [2] rfl rfl)) ⟨none, 0, rfl, rfl⟩

/-! ### function 78: wayfarer/grid.sized -/
def F78.f (a0 : Int) (a1 : Int) : Option (Bool) := lt ((decide (a0 ≥ 1)) && (decide (a0 ≤ 512))) fun q1 => lt (q1 && (decide (a1 ≥ 1))) fun q4 => lt (q4 && (decide (a1 ≤ 512))) fun q7 => some (q7)
set_option maxHeartbeats 2000000 in
set_option maxRecDepth 100000 in
theorem F78.ok {a0 : Int} {a1 : Int} {r : Bool} (H : F78.f a0 a1 = some r) : SCA Try.prog 78 #[.int .i64 a0, .int .i64 a1] [] (fun v B => v = .bool r ∧ B = []) := by
  refine SCA_of_body Try.func78 rfl rfl ?_
  unfold F78.f at H
  refine SA_seq ?_
  refine SA_region ?_
  refine RA_step rfl (OA_v (v := .bool false) rfl (V_assign rfl) ?_)
  refine RA_nil ?_
  refine at_normal ?_
  refine SA_seq ?_
  refine SA_region ?_
  refine RA_step rfl (OA_v (v := .int .i64 a0) rfl (V_move rfl) ?_)
  refine RA_step rfl (OA_v (v := .bool (decide (a0 ≥ 1))) rfl (V_geq rfl rfl) ?_)
  refine RA_step rfl (OA_v (v := .bool (decide (a0 ≥ 1))) rfl (V_move rfl) ?_)
  obtain ⟨q1, hq1, H⟩ := g_lt H
  refine RA_cut 3 (fun e ds As => St [(1, .int .i64 a1), (10, .bool q1)] [] e ds As) ?_ ?_
  · by_cases h2 : a0 ≥ 1
    · refine RA_yesB rfl rfl rfl rfl (dec_t h2) (OA_v (v := .int .i64 a0) rfl (V_move rfl) ?_)
      refine RA_yesB rfl rfl rfl rfl (dec_t h2) (OA_v (v := .bool (decide (a0 ≤ 512))) rfl (V_leq rfl rfl) ?_)
      refine RA_step rfl (OA_v rfl (V_pickT rfl (dec_t h2) rfl) ?_)
      refine RA_nil ?_
      exact at_normal (St.mk1 (aeq rfl (aeq (congrArg Value.bool (and_t hq1 (dec_t h2))) aeq0)) (Gh.sel [] rfl rfl))
    · refine RA_noB rfl rfl rfl rfl (dec_f h2) rfl ?_
      refine RA_noB rfl rfl rfl rfl (dec_f h2) rfl ?_
      refine RA_step rfl (OA_v rfl (V_pickF rfl (dec_f h2) rfl) ?_)
      refine RA_nil ?_
      exact at_normal (St.mk1 (aeq rfl (aeq (congrArg Value.bool (and_f hq1 (dec_f h2))) aeq0)) (Gh.sel [] rfl rfl))
  · rintro e ds As hst3
    refine RA.of_St rfl hst3 fun junk => ?_
    refine RA_step rfl (OA_v (v := .bool q1) rfl (V_move rfl) ?_)
    obtain ⟨q4, hq4, H⟩ := g_lt H
    refine RA_cut 3 (fun e ds As => St [(1, .int .i64 a1), (14, .bool q4)] [] e ds As) ?_ ?_
    · by_cases h5 : q1 = true
      · refine RA_yesB rfl rfl rfl rfl (h5) (OA_v (v := .int .i64 a1) rfl (V_move rfl) ?_)
        refine RA_yesB rfl rfl rfl rfl (h5) (OA_v (v := .bool (decide (a1 ≥ 1))) rfl (V_geq rfl rfl) ?_)
        refine RA_step rfl (OA_v rfl (V_pickT rfl (h5) rfl) ?_)
        refine RA_nil ?_
        exact at_normal (St.mk1 (aeq rfl (aeq (congrArg Value.bool (and_t hq4 (h5))) aeq0)) (Gh.sel [] rfl rfl))
      · refine RA_noB rfl rfl rfl rfl (bno h5) rfl ?_
        refine RA_noB rfl rfl rfl rfl (bno h5) rfl ?_
        refine RA_step rfl (OA_v rfl (V_pickF rfl (bno h5) rfl) ?_)
        refine RA_nil ?_
        exact at_normal (St.mk1 (aeq rfl (aeq (congrArg Value.bool (and_f hq4 (bno h5))) aeq0)) (Gh.sel [] rfl rfl))
    · rintro e ds As hst6
      refine RA.of_St rfl hst6 fun junk => ?_
      refine RA_step rfl (OA_v (v := .bool q4) rfl (V_move rfl) ?_)
      obtain ⟨q7, hq7, H⟩ := g_lt H
      refine RA_cut 3 (fun e ds As => St [(18, .bool q7)] [] e ds As) ?_ ?_
      · by_cases h8 : q4 = true
        · refine RA_yesB rfl rfl rfl rfl (h8) (OA_v (v := .int .i64 a1) rfl (V_move rfl) ?_)
          refine RA_yesB rfl rfl rfl rfl (h8) (OA_v (v := .bool (decide (a1 ≤ 512))) rfl (V_leq rfl rfl) ?_)
          refine RA_step rfl (OA_v rfl (V_pickT rfl (h8) rfl) ?_)
          refine RA_nil ?_
          exact at_normal (St.mk1 (aeq (congrArg Value.bool (and_t hq7 (h8))) aeq0) (Gh.sel [] rfl rfl))
        · refine RA_noB rfl rfl rfl rfl (bno h8) rfl ?_
          refine RA_noB rfl rfl rfl rfl (bno h8) rfl ?_
          refine RA_step rfl (OA_v rfl (V_pickF rfl (bno h8) rfl) ?_)
          refine RA_nil ?_
          exact at_normal (St.mk1 (aeq (congrArg Value.bool (and_f hq7 (bno h8))) aeq0) (Gh.sel [] rfl rfl))
      · rintro e ds As hst9
        refine RA.of_St rfl hst9 fun junk => ?_
        refine RA_step rfl (OA_v (v := .bool q7) rfl (V_assign rfl) ?_)
        refine RA_nil ?_
        refine at_normal ?_
        refine SA_ret ?_
        have hr_ := Option.some.inj H
        subst hr_
        exact BQ_R1 [] rfl rfl (Gh.sel [] rfl rfl) ⟨rfl, rfl⟩

/-! ### function 103: wayfarer/cell.color -/
def F103.f (a0 : Int) : Option (Bool) := lt ((decide (a0 ≥ (-1))) && (decide (a0 ≤ 255))) fun q1 => some (q1)
set_option maxHeartbeats 2000000 in
set_option maxRecDepth 100000 in
theorem F103.ok {a0 : Int} {r : Bool} (H : F103.f a0 = some r) : SCA Try.prog 103 #[.int .i64 a0] [] (fun v B => v = .bool r ∧ B = []) := by
  refine SCA_of_body Try.func103 rfl rfl ?_
  unfold F103.f at H
  refine SA_seq ?_
  refine SA_region ?_
  refine RA_step rfl (OA_v (v := .bool false) rfl (V_assign rfl) ?_)
  refine RA_nil ?_
  refine at_normal ?_
  refine SA_seq ?_
  refine SA_region ?_
  refine RA_step rfl (OA_v (v := .int .i64 a0) rfl (V_move rfl) ?_)
  refine RA_step rfl (OA_v (v := .bool (decide (a0 ≥ (-1)))) rfl (V_geq rfl rfl) ?_)
  refine RA_step rfl (OA_v (v := .bool (decide (a0 ≥ (-1)))) rfl (V_move rfl) ?_)
  obtain ⟨q1, hq1, H⟩ := g_lt H
  refine RA_cut 3 (fun e ds As => St [(8, .bool q1)] [] e ds As) ?_ ?_
  · by_cases h2 : a0 ≥ (-1)
    · refine RA_yesB rfl rfl rfl rfl (dec_t h2) (OA_v (v := .int .i64 a0) rfl (V_move rfl) ?_)
      refine RA_yesB rfl rfl rfl rfl (dec_t h2) (OA_v (v := .bool (decide (a0 ≤ 255))) rfl (V_leq rfl rfl) ?_)
      refine RA_step rfl (OA_v rfl (V_pickT rfl (dec_t h2) rfl) ?_)
      refine RA_nil ?_
      exact at_normal (St.mk1 (aeq (congrArg Value.bool (and_t hq1 (dec_t h2))) aeq0) (Gh.sel [] rfl rfl))
    · refine RA_noB rfl rfl rfl rfl (dec_f h2) rfl ?_
      refine RA_noB rfl rfl rfl rfl (dec_f h2) rfl ?_
      refine RA_step rfl (OA_v rfl (V_pickF rfl (dec_f h2) rfl) ?_)
      refine RA_nil ?_
      exact at_normal (St.mk1 (aeq (congrArg Value.bool (and_f hq1 (dec_f h2))) aeq0) (Gh.sel [] rfl rfl))
  · rintro e ds As hst3
    refine RA.of_St rfl hst3 fun junk => ?_
    refine RA_step rfl (OA_v (v := .bool q1) rfl (V_assign rfl) ?_)
    refine RA_nil ?_
    refine at_normal ?_
    refine SA_ret ?_
    have hr_ := Option.some.inj H
    subst hr_
    exact BQ_R1 [] rfl rfl (Gh.sel [] rfl rfl) ⟨rfl, rfl⟩

/-! ### function 71: wayfarer/cell.MayStyle -/
def F71.f (a0 : S70) : Option (Bool) := (F103.f a0.f0).bind (fun r3 => (if r3 = true then ((F103.f a0.f1).bind (fun r6 => some r6)) else (some false) : Option Bool).bind (fun q4 => some (q4)))
set_option maxHeartbeats 2000000 in
set_option maxRecDepth 100000 in
theorem F71.ok {a0 : S70} {r : Bool} (H : F71.f a0 = some r) : SCA Try.prog 71 #[.agg #[.int .i64 a0.f0, .int .i64 a0.f1, .bool a0.f2, .bool a0.f3, .bool a0.f4, .bool a0.f5, .bool a0.f6, .bool a0.f7, .bool a0.f8, .bool a0.f9]] [] (fun v B => v = .bool r ∧ B = []) := by
  refine SCA_of_body Try.func71 rfl rfl ?_
  unfold F71.f at H
  refine SA_seq ?_
  refine SA_region ?_
  refine RA_step rfl (OA_box rfl rfl fun b1 => ?_)
  refine RA_step rfl (OA_v (v := .bool false) rfl (V_assign rfl) ?_)
  refine RA_nil ?_
  refine at_normal ?_
  refine SA_seq ?_
  refine SA_region ?_
  refine RA_step rfl (OA_v (v := .pointer (some ⟨b1, 0, none⟩)) rfl (V_fieldAddrN (B := ⟨b1, 0, none⟩) (m := 0) (o := 0) Try.underlying70 rfl nz3 rfl rfl) ?_)
  refine RA_step rfl (OA_r rfl (VR_load_blk (b := b1) (m := 0) (k := 0) Try.underlying3 rfl rfl rfl rfl) ?_)
  obtain ⟨r3, C9, H⟩ := g_bind H
  refine RA_step rfl (OA_callA [] [0] rfl (X_fn (vs := [.int .i64 a0.f0]) Try.func103 nm103 rfl rfl) rfl (F103.ok (a0 := a0.f0) C9) rfl ?_)
  rintro _ _ ⟨rfl, rfl⟩
  refine RA_step rfl (OA_v (v := .bool r3) rfl (V_move rfl) ?_)
  obtain ⟨q4, H, Bq4⟩ := g_bind H
  refine RA_cut 4 (fun e ds As => St [(10, .bool q4)] [] e ds As) ?_ ?_
  · by_cases h5 : r3 = true
    · replace H := g_ift h5 H
      refine RA_yesB rfl rfl rfl rfl (h5) (OA_v (v := .pointer (some ((⟨b1, 0, none⟩ : Addr).add 1))) rfl (V_fieldAddrN (B := ⟨b1, 0, none⟩) (m := 0) (o := 1) Try.underlying70 rfl nz3 rfl rfl) ?_)
      refine RA_yesB rfl rfl rfl rfl (h5) (OA_r rfl (VR_load_blk (b := b1) (m := 1) (k := 0) Try.underlying3 rfl rfl rfl rfl) ?_)
      obtain ⟨r6, C7, H⟩ := g_bind H
      refine RA_yesB rfl rfl rfl rfl (h5) (OA_callA [] [0] rfl (X_fn (vs := [.int .i64 a0.f1]) Try.func103 nm103 rfl rfl) rfl (F103.ok (a0 := a0.f1) C7) rfl ?_)
      rintro _ _ ⟨rfl, rfl⟩
      refine RA_step rfl (OA_v rfl (V_pickT rfl (h5) rfl) ?_)
      have hr_ := Option.some.inj H
      subst hr_
      refine RA_nil ?_
      exact at_normal (St.mk1 (aeq rfl aeq0) (Gh.sel [] rfl rfl))
    · replace H := g_iff h5 H
      refine RA_noB rfl rfl rfl rfl (bno h5) rfl ?_
      refine RA_noB rfl rfl rfl rfl (bno h5) rfl ?_
      refine RA_noB rfl rfl rfl rfl (bno h5) rfl ?_
      refine RA_step rfl (OA_v rfl (V_pickF rfl (bno h5) rfl) ?_)
      have hr_ := Option.some.inj H
      subst hr_
      refine RA_nil ?_
      exact at_normal (St.mk1 (aeq rfl aeq0) (Gh.sel [] rfl rfl))
  · rintro e ds As hst8
    clear H
    have H := Bq4
    clear Bq4
    refine RA.of_St rfl hst8 fun junk => ?_
    refine RA_step rfl (OA_v (v := .bool q4) rfl (V_assign rfl) ?_)
    refine RA_nil ?_
    refine at_normal ?_
    refine SA_ret ?_
    have hr_ := Option.some.inj H
    subst hr_
    exact BQ_R1 [] rfl rfl (Gh.sel [] rfl rfl) ⟨rfl, rfl⟩

/-! ### function 121: wayfarer/width.wides -/
def F121.f  : Option ((List S190)) := some ((((S190.mk 4352 4447) :: (S190.mk 8986 8987) :: (S190.mk 9001 9002) :: (S190.mk 9193 9196) :: (S190.mk 9725 9726) :: (S190.mk 9748 9749) :: (S190.mk 9800 9811) :: (S190.mk 9889 9889) :: (S190.mk 9917 9918) :: (S190.mk 9989 9989) :: (S190.mk 10024 10024) :: (S190.mk 10060 10060) :: (S190.mk 10067 10069) :: (S190.mk 10133 10135) :: (S190.mk 11035 11036) :: (S190.mk 11088 11088) :: (S190.mk 11904 12350) :: (S190.mk 12353 13311) :: (S190.mk 13312 19903) :: (S190.mk 19968 40959) :: (S190.mk 40960 42191) :: (S190.mk 44032 55203) :: (S190.mk 63744 64255) :: (S190.mk 65072 65135) :: (S190.mk 65281 65376) :: (S190.mk 65504 65510) :: (S190.mk 127744 127776) :: (S190.mk 127789 127797) :: (S190.mk 127799 127868) :: (S190.mk 128000 128062) :: (S190.mk 128064 128064) :: (S190.mk 128066 128252) :: (S190.mk 128512 128591) :: (S190.mk 128640 128709) :: (S190.mk 129280 129535) :: (S190.mk 131072 196605) :: (S190.mk 196608 262141) :: []) : (List S190)))
set_option maxHeartbeats 2000000 in
set_option maxRecDepth 100000 in
theorem F121.ok  {r : (List S190)} (H : F121.f  = some r) : SCA Try.prog 121 #[] [] (fun v B => v = .agg (List.flatMap enc190 ((rd r 0) :: (rd r 1) :: (rd r 2) :: (rd r 3) :: (rd r 4) :: (rd r 5) :: (rd r 6) :: (rd r 7) :: (rd r 8) :: (rd r 9) :: (rd r 10) :: (rd r 11) :: (rd r 12) :: (rd r 13) :: (rd r 14) :: (rd r 15) :: (rd r 16) :: (rd r 17) :: (rd r 18) :: (rd r 19) :: (rd r 20) :: (rd r 21) :: (rd r 22) :: (rd r 23) :: (rd r 24) :: (rd r 25) :: (rd r 26) :: (rd r 27) :: (rd r 28) :: (rd r 29) :: (rd r 30) :: (rd r 31) :: (rd r 32) :: (rd r 33) :: (rd r 34) :: (rd r 35) :: (rd r 36) :: [])).toArray ∧ B = []) := by
  refine SCA_of_body Try.func121 rfl rfl ?_
  unfold F121.f at H
  refine SA_seq ?_
  refine SA_region ?_
  refine RA_step rfl (OA_alloc rfl zero191 fun b1 => ?_)
  refine RA_nil ?_
  refine at_normal ?_
  refine SA_seq ?_
  refine SA_region ?_
  refine RA_step rfl (OA_v (v := .agg #[.int .i32 4352, .int .i32 4447]) rfl (V_buildA (cells := [.int .i32 4352, .int .i32 4447]) (sz := 1) zero190 Try.underlying190 sz21 (by kernel_rfl)) ?_)
  refine RA_step rfl (OA_v (v := .agg #[.int .i32 8986, .int .i32 8987]) rfl (V_buildA (cells := [.int .i32 8986, .int .i32 8987]) (sz := 1) zero190 Try.underlying190 sz21 (by kernel_rfl)) ?_)
  refine RA_step rfl (OA_v (v := .agg #[.int .i32 9001, .int .i32 9002]) rfl (V_buildA (cells := [.int .i32 9001, .int .i32 9002]) (sz := 1) zero190 Try.underlying190 sz21 (by kernel_rfl)) ?_)
  refine RA_step rfl (OA_v (v := .agg #[.int .i32 9193, .int .i32 9196]) rfl (V_buildA (cells := [.int .i32 9193, .int .i32 9196]) (sz := 1) zero190 Try.underlying190 sz21 (by kernel_rfl)) ?_)
  refine RA_step rfl (OA_v (v := .agg #[.int .i32 9725, .int .i32 9726]) rfl (V_buildA (cells := [.int .i32 9725, .int .i32 9726]) (sz := 1) zero190 Try.underlying190 sz21 (by kernel_rfl)) ?_)
  refine RA_step rfl (OA_v (v := .agg #[.int .i32 9748, .int .i32 9749]) rfl (V_buildA (cells := [.int .i32 9748, .int .i32 9749]) (sz := 1) zero190 Try.underlying190 sz21 (by kernel_rfl)) ?_)
  refine RA_step rfl (OA_v (v := .agg #[.int .i32 9800, .int .i32 9811]) rfl (V_buildA (cells := [.int .i32 9800, .int .i32 9811]) (sz := 1) zero190 Try.underlying190 sz21 (by kernel_rfl)) ?_)
  refine RA_step rfl (OA_v (v := .agg #[.int .i32 9889, .int .i32 9889]) rfl (V_buildA (cells := [.int .i32 9889, .int .i32 9889]) (sz := 1) zero190 Try.underlying190 sz21 (by kernel_rfl)) ?_)
  refine RA_step rfl (OA_v (v := .agg #[.int .i32 9917, .int .i32 9918]) rfl (V_buildA (cells := [.int .i32 9917, .int .i32 9918]) (sz := 1) zero190 Try.underlying190 sz21 (by kernel_rfl)) ?_)
  refine RA_step rfl (OA_v (v := .agg #[.int .i32 9989, .int .i32 9989]) rfl (V_buildA (cells := [.int .i32 9989, .int .i32 9989]) (sz := 1) zero190 Try.underlying190 sz21 (by kernel_rfl)) ?_)
  refine RA_step rfl (OA_v (v := .agg #[.int .i32 10024, .int .i32 10024]) rfl (V_buildA (cells := [.int .i32 10024, .int .i32 10024]) (sz := 1) zero190 Try.underlying190 sz21 (by kernel_rfl)) ?_)
  refine RA_step rfl (OA_v (v := .agg #[.int .i32 10060, .int .i32 10060]) rfl (V_buildA (cells := [.int .i32 10060, .int .i32 10060]) (sz := 1) zero190 Try.underlying190 sz21 (by kernel_rfl)) ?_)
  refine RA_step rfl (OA_v (v := .agg #[.int .i32 10067, .int .i32 10069]) rfl (V_buildA (cells := [.int .i32 10067, .int .i32 10069]) (sz := 1) zero190 Try.underlying190 sz21 (by kernel_rfl)) ?_)
  refine RA_step rfl (OA_v (v := .agg #[.int .i32 10133, .int .i32 10135]) rfl (V_buildA (cells := [.int .i32 10133, .int .i32 10135]) (sz := 1) zero190 Try.underlying190 sz21 (by kernel_rfl)) ?_)
  refine RA_step rfl (OA_v (v := .agg #[.int .i32 11035, .int .i32 11036]) rfl (V_buildA (cells := [.int .i32 11035, .int .i32 11036]) (sz := 1) zero190 Try.underlying190 sz21 (by kernel_rfl)) ?_)
  refine RA_step rfl (OA_v (v := .agg #[.int .i32 11088, .int .i32 11088]) rfl (V_buildA (cells := [.int .i32 11088, .int .i32 11088]) (sz := 1) zero190 Try.underlying190 sz21 (by kernel_rfl)) ?_)
  refine RA_step rfl (OA_v (v := .agg #[.int .i32 11904, .int .i32 12350]) rfl (V_buildA (cells := [.int .i32 11904, .int .i32 12350]) (sz := 1) zero190 Try.underlying190 sz21 (by kernel_rfl)) ?_)
  refine RA_step rfl (OA_v (v := .agg #[.int .i32 12353, .int .i32 13311]) rfl (V_buildA (cells := [.int .i32 12353, .int .i32 13311]) (sz := 1) zero190 Try.underlying190 sz21 (by kernel_rfl)) ?_)
  refine RA_step rfl (OA_v (v := .agg #[.int .i32 13312, .int .i32 19903]) rfl (V_buildA (cells := [.int .i32 13312, .int .i32 19903]) (sz := 1) zero190 Try.underlying190 sz21 (by kernel_rfl)) ?_)
  refine RA_step rfl (OA_v (v := .agg #[.int .i32 19968, .int .i32 40959]) rfl (V_buildA (cells := [.int .i32 19968, .int .i32 40959]) (sz := 1) zero190 Try.underlying190 sz21 (by kernel_rfl)) ?_)
  refine RA_step rfl (OA_v (v := .agg #[.int .i32 40960, .int .i32 42191]) rfl (V_buildA (cells := [.int .i32 40960, .int .i32 42191]) (sz := 1) zero190 Try.underlying190 sz21 (by kernel_rfl)) ?_)
  refine RA_step rfl (OA_v (v := .agg #[.int .i32 44032, .int .i32 55203]) rfl (V_buildA (cells := [.int .i32 44032, .int .i32 55203]) (sz := 1) zero190 Try.underlying190 sz21 (by kernel_rfl)) ?_)
  refine RA_step rfl (OA_v (v := .agg #[.int .i32 63744, .int .i32 64255]) rfl (V_buildA (cells := [.int .i32 63744, .int .i32 64255]) (sz := 1) zero190 Try.underlying190 sz21 (by kernel_rfl)) ?_)
  refine RA_step rfl (OA_v (v := .agg #[.int .i32 65072, .int .i32 65135]) rfl (V_buildA (cells := [.int .i32 65072, .int .i32 65135]) (sz := 1) zero190 Try.underlying190 sz21 (by kernel_rfl)) ?_)
  refine RA_step rfl (OA_v (v := .agg #[.int .i32 65281, .int .i32 65376]) rfl (V_buildA (cells := [.int .i32 65281, .int .i32 65376]) (sz := 1) zero190 Try.underlying190 sz21 (by kernel_rfl)) ?_)
  refine RA_step rfl (OA_v (v := .agg #[.int .i32 65504, .int .i32 65510]) rfl (V_buildA (cells := [.int .i32 65504, .int .i32 65510]) (sz := 1) zero190 Try.underlying190 sz21 (by kernel_rfl)) ?_)
  refine RA_step rfl (OA_v (v := .agg #[.int .i32 127744, .int .i32 127776]) rfl (V_buildA (cells := [.int .i32 127744, .int .i32 127776]) (sz := 1) zero190 Try.underlying190 sz21 (by kernel_rfl)) ?_)
  refine RA_step rfl (OA_v (v := .agg #[.int .i32 127789, .int .i32 127797]) rfl (V_buildA (cells := [.int .i32 127789, .int .i32 127797]) (sz := 1) zero190 Try.underlying190 sz21 (by kernel_rfl)) ?_)
  refine RA_step rfl (OA_v (v := .agg #[.int .i32 127799, .int .i32 127868]) rfl (V_buildA (cells := [.int .i32 127799, .int .i32 127868]) (sz := 1) zero190 Try.underlying190 sz21 (by kernel_rfl)) ?_)
  refine RA_step rfl (OA_v (v := .agg #[.int .i32 128000, .int .i32 128062]) rfl (V_buildA (cells := [.int .i32 128000, .int .i32 128062]) (sz := 1) zero190 Try.underlying190 sz21 (by kernel_rfl)) ?_)
  refine RA_step rfl (OA_v (v := .agg #[.int .i32 128064, .int .i32 128064]) rfl (V_buildA (cells := [.int .i32 128064, .int .i32 128064]) (sz := 1) zero190 Try.underlying190 sz21 (by kernel_rfl)) ?_)
  refine RA_step rfl (OA_v (v := .agg #[.int .i32 128066, .int .i32 128252]) rfl (V_buildA (cells := [.int .i32 128066, .int .i32 128252]) (sz := 1) zero190 Try.underlying190 sz21 (by kernel_rfl)) ?_)
  refine RA_step rfl (OA_v (v := .agg #[.int .i32 128512, .int .i32 128591]) rfl (V_buildA (cells := [.int .i32 128512, .int .i32 128591]) (sz := 1) zero190 Try.underlying190 sz21 (by kernel_rfl)) ?_)
  refine RA_step rfl (OA_v (v := .agg #[.int .i32 128640, .int .i32 128709]) rfl (V_buildA (cells := [.int .i32 128640, .int .i32 128709]) (sz := 1) zero190 Try.underlying190 sz21 (by kernel_rfl)) ?_)
  refine RA_step rfl (OA_v (v := .agg #[.int .i32 129280, .int .i32 129535]) rfl (V_buildA (cells := [.int .i32 129280, .int .i32 129535]) (sz := 1) zero190 Try.underlying190 sz21 (by kernel_rfl)) ?_)
  refine RA_step rfl (OA_v (v := .agg #[.int .i32 131072, .int .i32 196605]) rfl (V_buildA (cells := [.int .i32 131072, .int .i32 196605]) (sz := 1) zero190 Try.underlying190 sz21 (by kernel_rfl)) ?_)
  refine RA_step rfl (OA_v (v := .agg #[.int .i32 196608, .int .i32 262141]) rfl (V_buildA (cells := [.int .i32 196608, .int .i32 262141]) (sz := 1) zero190 Try.underlying190 sz21 (by kernel_rfl)) ?_)
  refine RA_step rfl (OA_v (v := .agg (List.toArray (.int .i32 4352 :: .int .i32 4447 :: .int .i32 8986 :: .int .i32 8987 :: .int .i32 9001 :: .int .i32 9002 :: .int .i32 9193 :: .int .i32 9196 :: .int .i32 9725 :: .int .i32 9726 :: .int .i32 9748 :: .int .i32 9749 :: .int .i32 9800 :: .int .i32 9811 :: .int .i32 9889 :: .int .i32 9889 :: .int .i32 9917 :: .int .i32 9918 :: .int .i32 9989 :: .int .i32 9989 :: .int .i32 10024 :: .int .i32 10024 :: .int .i32 10060 :: .int .i32 10060 :: .int .i32 10067 :: .int .i32 10069 :: .int .i32 10133 :: .int .i32 10135 :: .int .i32 11035 :: .int .i32 11036 :: .int .i32 11088 :: .int .i32 11088 :: .int .i32 11904 :: .int .i32 12350 :: .int .i32 12353 :: .int .i32 13311 :: .int .i32 13312 :: .int .i32 19903 :: .int .i32 19968 :: .int .i32 40959 :: .int .i32 40960 :: .int .i32 42191 :: .int .i32 44032 :: .int .i32 55203 :: .int .i32 63744 :: .int .i32 64255 :: .int .i32 65072 :: .int .i32 65135 :: .int .i32 65281 :: .int .i32 65376 :: .int .i32 65504 :: .int .i32 65510 :: .int .i32 127744 :: .int .i32 127776 :: .int .i32 127789 :: .int .i32 127797 :: .int .i32 127799 :: .int .i32 127868 :: .int .i32 128000 :: .int .i32 128062 :: .int .i32 128064 :: .int .i32 128064 :: .int .i32 128066 :: .int .i32 128252 :: .int .i32 128512 :: .int .i32 128591 :: .int .i32 128640 :: .int .i32 128709 :: .int .i32 129280 :: .int .i32 129535 :: .int .i32 131072 :: .int .i32 196605 :: .int .i32 196608 :: .int .i32 262141 :: []))) rfl (V_buildA (cells := (List.flatMap enc190 ((S190.mk 4352 4447) :: (S190.mk 8986 8987) :: (S190.mk 9001 9002) :: (S190.mk 9193 9196) :: (S190.mk 9725 9726) :: (S190.mk 9748 9749) :: (S190.mk 9800 9811) :: (S190.mk 9889 9889) :: (S190.mk 9917 9918) :: (S190.mk 9989 9989) :: (S190.mk 10024 10024) :: (S190.mk 10060 10060) :: (S190.mk 10067 10069) :: (S190.mk 10133 10135) :: (S190.mk 11035 11036) :: (S190.mk 11088 11088) :: (S190.mk 11904 12350) :: (S190.mk 12353 13311) :: (S190.mk 13312 19903) :: (S190.mk 19968 40959) :: (S190.mk 40960 42191) :: (S190.mk 44032 55203) :: (S190.mk 63744 64255) :: (S190.mk 65072 65135) :: (S190.mk 65281 65376) :: (S190.mk 65504 65510) :: (S190.mk 127744 127776) :: (S190.mk 127789 127797) :: (S190.mk 127799 127868) :: (S190.mk 128000 128062) :: (S190.mk 128064 128064) :: (S190.mk 128066 128252) :: (S190.mk 128512 128591) :: (S190.mk 128640 128709) :: (S190.mk 129280 129535) :: (S190.mk 131072 196605) :: (S190.mk 196608 262141) :: []))) (sz := 2) zero191 Try.underlying191 sz190 (by kernel_rfl)) ?_)
  refine RA_step rfl (OA_st (b := b1) (m := 0) (k := 0) (vs := (List.flatMap enc190 ((S190.mk 4352 4447) :: (S190.mk 8986 8987) :: (S190.mk 9001 9002) :: (S190.mk 9193 9196) :: (S190.mk 9725 9726) :: (S190.mk 9748 9749) :: (S190.mk 9800 9811) :: (S190.mk 9889 9889) :: (S190.mk 9917 9918) :: (S190.mk 9989 9989) :: (S190.mk 10024 10024) :: (S190.mk 10060 10060) :: (S190.mk 10067 10069) :: (S190.mk 10133 10135) :: (S190.mk 11035 11036) :: (S190.mk 11088 11088) :: (S190.mk 11904 12350) :: (S190.mk 12353 13311) :: (S190.mk 13312 19903) :: (S190.mk 19968 40959) :: (S190.mk 40960 42191) :: (S190.mk 44032 55203) :: (S190.mk 63744 64255) :: (S190.mk 65072 65135) :: (S190.mk 65281 65376) :: (S190.mk 65504 65510) :: (S190.mk 127744 127776) :: (S190.mk 127789 127797) :: (S190.mk 127799 127868) :: (S190.mk 128000 128062) :: (S190.mk 128064 128064) :: (S190.mk 128066 128252) :: (S190.mk 128512 128591) :: (S190.mk 128640 128709) :: (S190.mk 129280 129535) :: (S190.mk 131072 196605) :: (S190.mk 196608 262141) :: []))) (cs' := (List.flatMap enc190 ((S190.mk 4352 4447) :: (S190.mk 8986 8987) :: (S190.mk 9001 9002) :: (S190.mk 9193 9196) :: (S190.mk 9725 9726) :: (S190.mk 9748 9749) :: (S190.mk 9800 9811) :: (S190.mk 9889 9889) :: (S190.mk 9917 9918) :: (S190.mk 9989 9989) :: (S190.mk 10024 10024) :: (S190.mk 10060 10060) :: (S190.mk 10067 10069) :: (S190.mk 10133 10135) :: (S190.mk 11035 11036) :: (S190.mk 11088 11088) :: (S190.mk 11904 12350) :: (S190.mk 12353 13311) :: (S190.mk 13312 19903) :: (S190.mk 19968 40959) :: (S190.mk 40960 42191) :: (S190.mk 44032 55203) :: (S190.mk 63744 64255) :: (S190.mk 65072 65135) :: (S190.mk 65281 65376) :: (S190.mk 65504 65510) :: (S190.mk 127744 127776) :: (S190.mk 127789 127797) :: (S190.mk 127799 127868) :: (S190.mk 128000 128062) :: (S190.mk 128064 128064) :: (S190.mk 128066 128252) :: (S190.mk 128512 128591) :: (S190.mk 128640 128709) :: (S190.mk 129280 129535) :: (S190.mk 131072 196605) :: (S190.mk 196608 262141) :: []))) rfl rfl rfl rfl rfl (by kernel_rfl) sz191 rfl (by kernel_rfl) ?_)
  refine RA_nil ?_
  refine at_normal ?_
  refine SA_ret ?_
  have hr_ := Option.some.inj H
  subst hr_
  exact BQ_RL (rs := [.cell 0 191]) (vs := [.agg (List.toArray (.int .i32 4352 :: .int .i32 4447 :: .int .i32 8986 :: .int .i32 8987 :: .int .i32 9001 :: .int .i32 9002 :: .int .i32 9193 :: .int .i32 9196 :: .int .i32 9725 :: .int .i32 9726 :: .int .i32 9748 :: .int .i32 9749 :: .int .i32 9800 :: .int .i32 9811 :: .int .i32 9889 :: .int .i32 9889 :: .int .i32 9917 :: .int .i32 9918 :: .int .i32 9989 :: .int .i32 9989 :: .int .i32 10024 :: .int .i32 10024 :: .int .i32 10060 :: .int .i32 10060 :: .int .i32 10067 :: .int .i32 10069 :: .int .i32 10133 :: .int .i32 10135 :: .int .i32 11035 :: .int .i32 11036 :: .int .i32 11088 :: .int .i32 11088 :: .int .i32 11904 :: .int .i32 12350 :: .int .i32 12353 :: .int .i32 13311 :: .int .i32 13312 :: .int .i32 19903 :: .int .i32 19968 :: .int .i32 40959 :: .int .i32 40960 :: .int .i32 42191 :: .int .i32 44032 :: .int .i32 55203 :: .int .i32 63744 :: .int .i32 64255 :: .int .i32 65072 :: .int .i32 65135 :: .int .i32 65281 :: .int .i32 65376 :: .int .i32 65504 :: .int .i32 65510 :: .int .i32 127744 :: .int .i32 127776 :: .int .i32 127789 :: .int .i32 127797 :: .int .i32 127799 :: .int .i32 127868 :: .int .i32 128000 :: .int .i32 128062 :: .int .i32 128064 :: .int .i32 128064 :: .int .i32 128066 :: .int .i32 128252 :: .int .i32 128512 :: .int .i32 128591 :: .int .i32 128640 :: .int .i32 128709 :: .int .i32 129280 :: .int .i32 129535 :: .int .i32 131072 :: .int .i32 196605 :: .int .i32 196608 :: .int .i32 262141 :: []))]) [] rfl ⟨RV.cell (k := 0) rfl rfl Try.underlying191 rfl sz191, trivial⟩ rfl (Gh.sel [] rfl rfl) ⟨(by kernel_rfl), rfl⟩
end Go.Proofs.Ytodkeoibebimgaa.Kb

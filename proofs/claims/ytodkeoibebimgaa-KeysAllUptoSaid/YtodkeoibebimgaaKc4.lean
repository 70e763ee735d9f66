/- What functions compute, and that they do: 14, 17, 34, 57, 58, 67, 89, 113, 117. -/
import Derived.Test.YtodkeoibebimgaaKc0
import Derived.Test.YtodkeoibebimgaaKc3
namespace Go.Proofs.Ytodkeoibebimgaa.Kc
open Go Go.RowKit Go.Proofs.Ytodkeoibebimgaa.SL
set_option linter.unusedVariables false
set_option linter.unusedSimpArgs false
attribute [local irreducible] IntKind.wrap minI maxI shrI shlI andI orI xorI andNotI cplI rd sub bytesOf strOf slA
/-! ### function 57: wayfarer/wire.May -/
def F57.f (a0 : S25) : Option (Bool) := lt ((decide (a0.f2 = 0)) && (decide (a0.f3 = 0))) fun q4 => if a0.f0 = 1 then (lt (q4 && (decide (a0.f4 = 0))) fun q8 => lt (q8 && (decide ((a0.f1.length : Int) ≥ 1))) fun q11 => lt (q11 && (decide ((a0.f1.length : Int) ≤ 4096))) fun q14 => some (q14)) else (if a0.f0 = 3 then (lt (q4 && (decide (a0.f4 = 0))) fun q18 => lt (q18 && (decide ((a0.f1.length : Int) ≤ 4096))) fun q21 => some (q21)) else (if a0.f0 = 2 then (lt ((decide (a0.f4 = 0)) && (decide ((a0.f1.length : Int) = 0))) fun q25 => lt (q25 && (decide (a0.f2 ≥ 1))) fun q28 => lt (q28 && (decide (a0.f2 ≤ 512))) fun q31 => lt (q31 && (decide (a0.f3 ≥ 1))) fun q34 => lt (q34 && (decide (a0.f3 ≤ 512))) fun q37 => some (q37)) else (if a0.f0 = 4 then (lt (q4 && (decide ((a0.f1.length : Int) = 0))) fun q41 => lt (q41 && (decide (a0.f4 ≥ 65))) fun q44 => lt (q44 && (decide (a0.f4 ≤ 68))) fun q47 => some (q47)) else (some (false)))))
set_option maxHeartbeats 2000000 in
set_option maxRecDepth 100000 in
theorem F57.ok {a0 : S25} {A0_0 : Option Addr} {c0_0 : Nat} {r : Bool} (H : F57.f a0 = some r) : SCA Try.prog 57 #[.agg #[.int .u8 a0.f0, .slice A0_0 a0.f1.length c0_0, .int .i64 a0.f2, .int .i64 a0.f3, .int .u8 a0.f4]] [Ro (Kd.int .u8) A0_0 c0_0 a0.f1] (fun v B => v = .bool r ∧ B = []) := by
  refine SCA_of_body Try.func57 rfl rfl ?_
  unfold F57.f at H
  refine SA_seq ?_
  refine SA_region ?_
  refine RA_step rfl (OA_box rfl rfl fun b2 => ?_)
  refine RA_step rfl (OA_v (v := .bool false) rfl (V_assign rfl) ?_)
  refine RA_nil ?_
  refine at_normal ?_
  refine SA_seq ?_
  refine SA_region ?_
  refine RA_step rfl (OA_v (v := .pointer (some ((⟨b2, 0, none⟩ : Addr).add 2))) rfl (V_fieldAddrN (B := ⟨b2, 0, none⟩) (m := 0) (o := 2) Try.underlying25 rfl nz3 rfl rfl) ?_)
  refine RA_step rfl (OA_r rfl (VR_load_blk (b := b2) (m := 2) (k := 1) Try.underlying3 rfl rfl rfl rfl) ?_)
  refine RA_step rfl (OA_v (v := .bool (decide (a0.f2 = 0))) rfl (V_eql rfl rfl) ?_)
  refine RA_step rfl (OA_v (v := .bool (decide (a0.f2 = 0))) rfl (V_move rfl) ?_)
  obtain ⟨q4, hq4, H⟩ := g_lt H
  refine RA_cut 4 (fun e ds As => St [(1, .pointer (some ⟨b2, 0, none⟩)), (11, .bool q4)] [Blk b2 25 [.int .u8 a0.f0, .slice A0_0 a0.f1.length c0_0, .int .i64 a0.f2, .int .i64 a0.f3, .int .u8 a0.f4], Ro (Kd.int .u8) A0_0 c0_0 a0.f1] e ds As) ?_ ?_
  · by_cases h5 : a0.f2 = 0
    · refine RA_yesB rfl rfl rfl rfl (dec_t h5) (OA_v (v := .pointer (some ((⟨b2, 0, none⟩ : Addr).add 3))) rfl (V_fieldAddrN (B := ⟨b2, 0, none⟩) (m := 0) (o := 3) Try.underlying25 rfl nz3 rfl rfl) ?_)
      refine RA_yesB rfl rfl rfl rfl (dec_t h5) (OA_r rfl (VR_load_blk (b := b2) (m := 3) (k := 1) Try.underlying3 rfl rfl rfl rfl) ?_)
      refine RA_yesB rfl rfl rfl rfl (dec_t h5) (OA_v (v := .bool (decide (a0.f3 = 0))) rfl (V_eql rfl rfl) ?_)
      refine RA_step rfl (OA_v rfl (V_pickT rfl (dec_t h5) rfl) ?_)
      refine RA_nil ?_
      exact at_normal (St.mk1 (aeq rfl (aeq (congrArg Value.bool (and_t hq4 (dec_t h5))) aeq0)) (Gh.sel [1, 0] rfl rfl))
    · refine RA_noB rfl rfl rfl rfl (dec_f h5) rfl ?_
      refine RA_noB rfl rfl rfl rfl (dec_f h5) rfl ?_
      refine RA_noB rfl rfl rfl rfl (dec_f h5) rfl ?_
      refine RA_step rfl (OA_v rfl (V_pickF rfl (dec_f h5) rfl) ?_)
      refine RA_nil ?_
      exact at_normal (St.mk1 (aeq rfl (aeq (congrArg Value.bool (and_f hq4 (dec_f h5))) aeq0)) (Gh.sel [1, 0] rfl rfl))
  · rintro e ds As hst6
    refine RA.of_St rfl hst6 fun junk => ?_
    refine RA_step rfl (OA_v (v := .bool q4) rfl (V_assign rfl) ?_)
    refine RA_nil ?_
    refine at_normal ?_
    refine SA_seq ?_
    refine SA_seq ?_
    refine SA_region ?_
    refine RA_step rfl (OA_v (v := .pointer (some ⟨b2, 0, none⟩)) rfl (V_fieldAddrN (B := ⟨b2, 0, none⟩) (m := 0) (o := 0) Try.underlying25 rfl nz22 rfl rfl) ?_)
    refine RA_step rfl (OA_r rfl (VR_load_blk (b := b2) (m := 0) (k := 0) Try.underlying22 rfl rfl rfl rfl) ?_)
    refine RA_nil ?_
    refine at_normal ?_
    refine SA_block ?_
    refine SA_seq ?_
    refine SA_region ?_
    refine RA_step rfl (OA_v (v := .bool (decide (a0.f0 = 1))) rfl (V_eql rfl rfl) ?_)
    refine RA_step rfl (OA_v (v := .bool (decide (a0.f0 = 1))) rfl (V_assign rfl) ?_)
    refine RA_nil ?_
    refine at_normal ?_
    by_cases h7 : a0.f0 = 1
    · replace H := g_ift h7 H
      refine SA_condT rfl h7 ?_
      refine SA_seq ?_
      refine SA_region ?_
      refine RA_step rfl (OA_v (v := .bool q4) rfl (V_move rfl) ?_)
      refine RA_step rfl (OA_v (v := .bool q4) rfl (V_move rfl) ?_)
      obtain ⟨q8, hq8, H⟩ := g_lt H
      refine RA_cut 4 (fun e ds As => St [(1, .pointer (some ⟨b2, 0, none⟩)), (21, .bool q8)] [Blk b2 25 [.int .u8 a0.f0, .slice A0_0 a0.f1.length c0_0, .int .i64 a0.f2, .int .i64 a0.f3, .int .u8 a0.f4], Ro (Kd.int .u8) A0_0 c0_0 a0.f1] e ds As) ?_ ?_
      · by_cases h9 : q4 = true
        · refine RA_yesB rfl rfl rfl rfl (h9) (OA_v (v := .pointer (some ((⟨b2, 0, none⟩ : Addr).add 4))) rfl (V_fieldAddrN (B := ⟨b2, 0, none⟩) (m := 0) (o := 4) Try.underlying25 rfl nz5 rfl rfl) ?_)
          refine RA_yesB rfl rfl rfl rfl (h9) (OA_r rfl (VR_load_blk (b := b2) (m := 4) (k := 0) Try.underlying5 rfl rfl rfl rfl) ?_)
          refine RA_yesB rfl rfl rfl rfl (h9) (OA_v (v := .bool (decide (a0.f4 = 0))) rfl (V_eql rfl rfl) ?_)
          refine RA_step rfl (OA_v rfl (V_pickT rfl (h9) rfl) ?_)
          refine RA_nil ?_
          exact at_normal (St.mk1 (aeq rfl (aeq (congrArg Value.bool (and_t hq8 (h9))) aeq0)) (Gh.sel [0, 1] rfl rfl))
        · refine RA_noB rfl rfl rfl rfl (bno h9) rfl ?_
          refine RA_noB rfl rfl rfl rfl (bno h9) rfl ?_
          refine RA_noB rfl rfl rfl rfl (bno h9) rfl ?_
          refine RA_step rfl (OA_v rfl (V_pickF rfl (bno h9) rfl) ?_)
          refine RA_nil ?_
          exact at_normal (St.mk1 (aeq rfl (aeq (congrArg Value.bool (and_f hq8 (bno h9))) aeq0)) (Gh.sel [0, 1] rfl rfl))
      · rintro e ds As hst10
        refine RA.of_St rfl hst10 fun junk => ?_
        refine RA_step rfl (OA_v (v := .bool q8) rfl (V_move rfl) ?_)
        obtain ⟨q11, hq11, H⟩ := g_lt H
        refine RA_cut 5 (fun e ds As => St [(1, .pointer (some ⟨b2, 0, none⟩)), (27, .bool q11)] [Blk b2 25 [.int .u8 a0.f0, .slice A0_0 a0.f1.length c0_0, .int .i64 a0.f2, .int .i64 a0.f3, .int .u8 a0.f4], Ro (Kd.int .u8) A0_0 c0_0 a0.f1] e ds As) ?_ ?_
        · by_cases h12 : q8 = true
          · refine RA_yesB rfl rfl rfl rfl (h12) (OA_v (v := .pointer (some ((⟨b2, 0, none⟩ : Addr).add 1))) rfl (V_fieldAddrN (B := ⟨b2, 0, none⟩) (m := 0) (o := 1) Try.underlying25 rfl nz23 rfl rfl) ?_)
            refine RA_yesB rfl rfl rfl rfl (h12) (OA_r rfl (VR_load_blk (b := b2) (m := 1) (k := 0) Try.underlying23 rfl rfl rfl rfl) ?_)
            refine RA_yesB rfl rfl rfl rfl (h12) (OA_v (v := .int .i64 (a0.f1.length : Int)) rfl (V_len Try.underlying23 rfl) ?_)
            refine RA_yesB rfl rfl rfl rfl (h12) (OA_v (v := .bool (decide ((a0.f1.length : Int) ≥ 1))) rfl (V_geq rfl rfl) ?_)
            refine RA_step rfl (OA_v rfl (V_pickT rfl (h12) rfl) ?_)
            refine RA_nil ?_
            exact at_normal (St.mk1 (aeq rfl (aeq (congrArg Value.bool (and_t hq11 (h12))) aeq0)) (Gh.sel [0, 1] rfl rfl))
          · refine RA_noB rfl rfl rfl rfl (bno h12) rfl ?_
            refine RA_noB rfl rfl rfl rfl (bno h12) rfl ?_
            refine RA_noB rfl rfl rfl rfl (bno h12) rfl ?_
            refine RA_noB rfl rfl rfl rfl (bno h12) rfl ?_
            refine RA_step rfl (OA_v rfl (V_pickF rfl (bno h12) rfl) ?_)
            refine RA_nil ?_
            exact at_normal (St.mk1 (aeq rfl (aeq (congrArg Value.bool (and_f hq11 (bno h12))) aeq0)) (Gh.sel [0, 1] rfl rfl))
        · rintro e ds As hst13
          refine RA.of_St rfl hst13 fun junk => ?_
          refine RA_step rfl (OA_v (v := .bool q11) rfl (V_move rfl) ?_)
          obtain ⟨q14, hq14, H⟩ := g_lt H
          refine RA_cut 5 (fun e ds As => St [(33, .bool q14)] [] e ds As) ?_ ?_
          · by_cases h15 : q11 = true
            · refine RA_yesB rfl rfl rfl rfl (h15) (OA_v (v := .pointer (some ((⟨b2, 0, none⟩ : Addr).add 1))) rfl (V_fieldAddrN (B := ⟨b2, 0, none⟩) (m := 0) (o := 1) Try.underlying25 rfl nz23 rfl rfl) ?_)
              refine RA_yesB rfl rfl rfl rfl (h15) (OA_r rfl (VR_load_blk (b := b2) (m := 1) (k := 0) Try.underlying23 rfl rfl rfl rfl) ?_)
              refine RA_yesB rfl rfl rfl rfl (h15) (OA_v (v := .int .i64 (a0.f1.length : Int)) rfl (V_len Try.underlying23 rfl) ?_)
              refine RA_yesB rfl rfl rfl rfl (h15) (OA_v (v := .bool (decide ((a0.f1.length : Int) ≤ 4096))) rfl (V_leq rfl rfl) ?_)
              refine RA_step rfl (OA_v rfl (V_pickT rfl (h15) rfl) ?_)
              refine RA_nil ?_
              exact at_normal (St.mk1 (aeq (congrArg Value.bool (and_t hq14 (h15))) aeq0) (Gh.sel [] rfl rfl))
            · refine RA_noB rfl rfl rfl rfl (bno h15) rfl ?_
              refine RA_noB rfl rfl rfl rfl (bno h15) rfl ?_
              refine RA_noB rfl rfl rfl rfl (bno h15) rfl ?_
              refine RA_noB rfl rfl rfl rfl (bno h15) rfl ?_
              refine RA_step rfl (OA_v rfl (V_pickF rfl (bno h15) rfl) ?_)
              refine RA_nil ?_
              exact at_normal (St.mk1 (aeq (congrArg Value.bool (and_f hq14 (bno h15))) aeq0) (Gh.sel [] rfl rfl))
          · rintro e ds As hst16
            refine RA.of_St rfl hst16 fun junk => ?_
            refine RA_step rfl (OA_v (v := .bool q14) rfl (V_assign rfl) ?_)
            refine RA_nil ?_
            refine at_normal ?_
            refine SA_ret ?_
            refine inb_ret ?_
            refine thn_ret ?_
            have hr_ := Option.some.inj H
            subst hr_
            exact BQ_R1 [] rfl rfl (Gh.sel [] rfl rfl) ⟨rfl, rfl⟩
    · replace H := g_iff h7 H
      refine SA_condF rfl h7 ?_
      refine SA_seq ?_
      refine SA_region ?_
      refine RA_step rfl (OA_v (v := .bool (decide (a0.f0 = 3))) rfl (V_eql rfl rfl) ?_)
      refine RA_step rfl (OA_v (v := .bool (decide (a0.f0 = 3))) rfl (V_assign rfl) ?_)
      refine RA_nil ?_
      refine at_normal ?_
      by_cases h17 : a0.f0 = 3
      · replace H := g_ift h17 H
        refine SA_condT rfl h17 ?_
        refine SA_seq ?_
        refine SA_region ?_
        refine RA_step rfl (OA_v (v := .bool q4) rfl (V_move rfl) ?_)
        refine RA_step rfl (OA_v (v := .bool q4) rfl (V_move rfl) ?_)
        obtain ⟨q18, hq18, H⟩ := g_lt H
        refine RA_cut 4 (fun e ds As => St [(1, .pointer (some ⟨b2, 0, none⟩)), (41, .bool q18)] [Blk b2 25 [.int .u8 a0.f0, .slice A0_0 a0.f1.length c0_0, .int .i64 a0.f2, .int .i64 a0.f3, .int .u8 a0.f4], Ro (Kd.int .u8) A0_0 c0_0 a0.f1] e ds As) ?_ ?_
        · by_cases h19 : q4 = true
          · refine RA_yesB rfl rfl rfl rfl (h19) (OA_v (v := .pointer (some ((⟨b2, 0, none⟩ : Addr).add 4))) rfl (V_fieldAddrN (B := ⟨b2, 0, none⟩) (m := 0) (o := 4) Try.underlying25 rfl nz5 rfl rfl) ?_)
            refine RA_yesB rfl rfl rfl rfl (h19) (OA_r rfl (VR_load_blk (b := b2) (m := 4) (k := 0) Try.underlying5 rfl rfl rfl rfl) ?_)
            refine RA_yesB rfl rfl rfl rfl (h19) (OA_v (v := .bool (decide (a0.f4 = 0))) rfl (V_eql rfl rfl) ?_)
            refine RA_step rfl (OA_v rfl (V_pickT rfl (h19) rfl) ?_)
            refine RA_nil ?_
            exact at_normal (St.mk1 (aeq rfl (aeq (congrArg Value.bool (and_t hq18 (h19))) aeq0)) (Gh.sel [0, 1] rfl rfl))
          · refine RA_noB rfl rfl rfl rfl (bno h19) rfl ?_
            refine RA_noB rfl rfl rfl rfl (bno h19) rfl ?_
            refine RA_noB rfl rfl rfl rfl (bno h19) rfl ?_
            refine RA_step rfl (OA_v rfl (V_pickF rfl (bno h19) rfl) ?_)
            refine RA_nil ?_
            exact at_normal (St.mk1 (aeq rfl (aeq (congrArg Value.bool (and_f hq18 (bno h19))) aeq0)) (Gh.sel [0, 1] rfl rfl))
        · rintro e ds As hst20
          refine RA.of_St rfl hst20 fun junk => ?_
          refine RA_step rfl (OA_v (v := .bool q18) rfl (V_move rfl) ?_)
          obtain ⟨q21, hq21, H⟩ := g_lt H
          refine RA_cut 5 (fun e ds As => St [(47, .bool q21)] [] e ds As) ?_ ?_
          · by_cases h22 : q18 = true
            · refine RA_yesB rfl rfl rfl rfl (h22) (OA_v (v := .pointer (some ((⟨b2, 0, none⟩ : Addr).add 1))) rfl (V_fieldAddrN (B := ⟨b2, 0, none⟩) (m := 0) (o := 1) Try.underlying25 rfl nz23 rfl rfl) ?_)
              refine RA_yesB rfl rfl rfl rfl (h22) (OA_r rfl (VR_load_blk (b := b2) (m := 1) (k := 0) Try.underlying23 rfl rfl rfl rfl) ?_)
              refine RA_yesB rfl rfl rfl rfl (h22) (OA_v (v := .int .i64 (a0.f1.length : Int)) rfl (V_len Try.underlying23 rfl) ?_)
              refine RA_yesB rfl rfl rfl rfl (h22) (OA_v (v := .bool (decide ((a0.f1.length : Int) ≤ 4096))) rfl (V_leq rfl rfl) ?_)
              refine RA_step rfl (OA_v rfl (V_pickT rfl (h22) rfl) ?_)
              refine RA_nil ?_
              exact at_normal (St.mk1 (aeq (congrArg Value.bool (and_t hq21 (h22))) aeq0) (Gh.sel [] rfl rfl))
            · refine RA_noB rfl rfl rfl rfl (bno h22) rfl ?_
              refine RA_noB rfl rfl rfl rfl (bno h22) rfl ?_
              refine RA_noB rfl rfl rfl rfl (bno h22) rfl ?_
              refine RA_noB rfl rfl rfl rfl (bno h22) rfl ?_
              refine RA_step rfl (OA_v rfl (V_pickF rfl (bno h22) rfl) ?_)
              refine RA_nil ?_
              exact at_normal (St.mk1 (aeq (congrArg Value.bool (and_f hq21 (bno h22))) aeq0) (Gh.sel [] rfl rfl))
          · rintro e ds As hst23
            refine RA.of_St rfl hst23 fun junk => ?_
            refine RA_step rfl (OA_v (v := .bool q21) rfl (V_assign rfl) ?_)
            refine RA_nil ?_
            refine at_normal ?_
            refine SA_ret ?_
            refine inb_ret ?_
            refine thn_ret ?_
            have hr_ := Option.some.inj H
            subst hr_
            exact BQ_R1 [] rfl rfl (Gh.sel [] rfl rfl) ⟨rfl, rfl⟩
      · replace H := g_iff h17 H
        refine SA_condF rfl h17 ?_
        refine SA_seq ?_
        refine SA_region ?_
        refine RA_step rfl (OA_v (v := .bool (decide (a0.f0 = 2))) rfl (V_eql rfl rfl) ?_)
        refine RA_step rfl (OA_v (v := .bool (decide (a0.f0 = 2))) rfl (V_assign rfl) ?_)
        refine RA_nil ?_
        refine at_normal ?_
        by_cases h24 : a0.f0 = 2
        · replace H := g_ift h24 H
          refine SA_condT rfl h24 ?_
          refine SA_seq ?_
          refine SA_region ?_
          refine RA_step rfl (OA_v (v := .pointer (some ((⟨b2, 0, none⟩ : Addr).add 4))) rfl (V_fieldAddrN (B := ⟨b2, 0, none⟩) (m := 0) (o := 4) Try.underlying25 rfl nz5 rfl rfl) ?_)
          refine RA_step rfl (OA_r rfl (VR_load_blk (b := b2) (m := 4) (k := 0) Try.underlying5 rfl rfl rfl rfl) ?_)
          refine RA_step rfl (OA_v (v := .bool (decide (a0.f4 = 0))) rfl (V_eql rfl rfl) ?_)
          refine RA_step rfl (OA_v (v := .bool (decide (a0.f4 = 0))) rfl (V_move rfl) ?_)
          obtain ⟨q25, hq25, H⟩ := g_lt H
          refine RA_cut 5 (fun e ds As => St [(1, .pointer (some ⟨b2, 0, none⟩)), (58, .bool q25)] [Blk b2 25 [.int .u8 a0.f0, .slice A0_0 a0.f1.length c0_0, .int .i64 a0.f2, .int .i64 a0.f3, .int .u8 a0.f4], Ro (Kd.int .u8) A0_0 c0_0 a0.f1] e ds As) ?_ ?_
          · by_cases h26 : a0.f4 = 0
            · refine RA_yesB rfl rfl rfl rfl (dec_t h26) (OA_v (v := .pointer (some ((⟨b2, 0, none⟩ : Addr).add 1))) rfl (V_fieldAddrN (B := ⟨b2, 0, none⟩) (m := 0) (o := 1) Try.underlying25 rfl nz23 rfl rfl) ?_)
              refine RA_yesB rfl rfl rfl rfl (dec_t h26) (OA_r rfl (VR_load_blk (b := b2) (m := 1) (k := 0) Try.underlying23 rfl rfl rfl rfl) ?_)
              refine RA_yesB rfl rfl rfl rfl (dec_t h26) (OA_v (v := .int .i64 (a0.f1.length : Int)) rfl (V_len Try.underlying23 rfl) ?_)
              refine RA_yesB rfl rfl rfl rfl (dec_t h26) (OA_v (v := .bool (decide ((a0.f1.length : Int) = 0))) rfl (V_eql rfl rfl) ?_)
              refine RA_step rfl (OA_v rfl (V_pickT rfl (dec_t h26) rfl) ?_)
              refine RA_nil ?_
              exact at_normal (St.mk1 (aeq rfl (aeq (congrArg Value.bool (and_t hq25 (dec_t h26))) aeq0)) (Gh.sel [0, 1] rfl rfl))
            · refine RA_noB rfl rfl rfl rfl (dec_f h26) rfl ?_
              refine RA_noB rfl rfl rfl rfl (dec_f h26) rfl ?_
              refine RA_noB rfl rfl rfl rfl (dec_f h26) rfl ?_
              refine RA_noB rfl rfl rfl rfl (dec_f h26) rfl ?_
              refine RA_step rfl (OA_v rfl (V_pickF rfl (dec_f h26) rfl) ?_)
              refine RA_nil ?_
              exact at_normal (St.mk1 (aeq rfl (aeq (congrArg Value.bool (and_f hq25 (dec_f h26))) aeq0)) (Gh.sel [0, 1] rfl rfl))
          · rintro e ds As hst27
            refine RA.of_St rfl hst27 fun junk => ?_
            refine RA_step rfl (OA_v (v := .bool q25) rfl (V_move rfl) ?_)
            obtain ⟨q28, hq28, H⟩ := g_lt H
            refine RA_cut 4 (fun e ds As => St [(1, .pointer (some ⟨b2, 0, none⟩)), (63, .bool q28)] [Blk b2 25 [.int .u8 a0.f0, .slice A0_0 a0.f1.length c0_0, .int .i64 a0.f2, .int .i64 a0.f3, .int .u8 a0.f4], Ro (Kd.int .u8) A0_0 c0_0 a0.f1] e ds As) ?_ ?_
            · by_cases h29 : q25 = true
              · refine RA_yesB rfl rfl rfl rfl (h29) (OA_v (v := .pointer (some ((⟨b2, 0, none⟩ : Addr).add 2))) rfl (V_fieldAddrN (B := ⟨b2, 0, none⟩) (m := 0) (o := 2) Try.underlying25 rfl nz3 rfl rfl) ?_)
                refine RA_yesB rfl rfl rfl rfl (h29) (OA_r rfl (VR_load_blk (b := b2) (m := 2) (k := 0) Try.underlying3 rfl rfl rfl rfl) ?_)
                refine RA_yesB rfl rfl rfl rfl (h29) (OA_v (v := .bool (decide (a0.f2 ≥ 1))) rfl (V_geq rfl rfl) ?_)
                refine RA_step rfl (OA_v rfl (V_pickT rfl (h29) rfl) ?_)
                refine RA_nil ?_
                exact at_normal (St.mk1 (aeq rfl (aeq (congrArg Value.bool (and_t hq28 (h29))) aeq0)) (Gh.sel [0, 1] rfl rfl))
              · refine RA_noB rfl rfl rfl rfl (bno h29) rfl ?_
                refine RA_noB rfl rfl rfl rfl (bno h29) rfl ?_
                refine RA_noB rfl rfl rfl rfl (bno h29) rfl ?_
                refine RA_step rfl (OA_v rfl (V_pickF rfl (bno h29) rfl) ?_)
                refine RA_nil ?_
                exact at_normal (St.mk1 (aeq rfl (aeq (congrArg Value.bool (and_f hq28 (bno h29))) aeq0)) (Gh.sel [0, 1] rfl rfl))
            · rintro e ds As hst30
              refine RA.of_St rfl hst30 fun junk => ?_
              refine RA_step rfl (OA_v (v := .bool q28) rfl (V_move rfl) ?_)
              obtain ⟨q31, hq31, H⟩ := g_lt H
              refine RA_cut 4 (fun e ds As => St [(1, .pointer (some ⟨b2, 0, none⟩)), (68, .bool q31)] [Blk b2 25 [.int .u8 a0.f0, .slice A0_0 a0.f1.length c0_0, .int .i64 a0.f2, .int .i64 a0.f3, .int .u8 a0.f4], Ro (Kd.int .u8) A0_0 c0_0 a0.f1] e ds As) ?_ ?_
              · by_cases h32 : q28 = true
                · refine RA_yesB rfl rfl rfl rfl (h32) (OA_v (v := .pointer (some ((⟨b2, 0, none⟩ : Addr).add 2))) rfl (V_fieldAddrN (B := ⟨b2, 0, none⟩) (m := 0) (o := 2) Try.underlying25 rfl nz3 rfl rfl) ?_)
                  refine RA_yesB rfl rfl rfl rfl (h32) (OA_r rfl (VR_load_blk (b := b2) (m := 2) (k := 0) Try.underlying3 rfl rfl rfl rfl) ?_)
                  refine RA_yesB rfl rfl rfl rfl (h32) (OA_v (v := .bool (decide (a0.f2 ≤ 512))) rfl (V_leq rfl rfl) ?_)
                  refine RA_step rfl (OA_v rfl (V_pickT rfl (h32) rfl) ?_)
                  refine RA_nil ?_
                  exact at_normal (St.mk1 (aeq rfl (aeq (congrArg Value.bool (and_t hq31 (h32))) aeq0)) (Gh.sel [0, 1] rfl rfl))
                · refine RA_noB rfl rfl rfl rfl (bno h32) rfl ?_
                  refine RA_noB rfl rfl rfl rfl (bno h32) rfl ?_
                  refine RA_noB rfl rfl rfl rfl (bno h32) rfl ?_
                  refine RA_step rfl (OA_v rfl (V_pickF rfl (bno h32) rfl) ?_)
                  refine RA_nil ?_
                  exact at_normal (St.mk1 (aeq rfl (aeq (congrArg Value.bool (and_f hq31 (bno h32))) aeq0)) (Gh.sel [0, 1] rfl rfl))
              · rintro e ds As hst33
                refine RA.of_St rfl hst33 fun junk => ?_
                refine RA_step rfl (OA_v (v := .bool q31) rfl (V_move rfl) ?_)
                obtain ⟨q34, hq34, H⟩ := g_lt H
                refine RA_cut 4 (fun e ds As => St [(1, .pointer (some ⟨b2, 0, none⟩)), (73, .bool q34)] [Blk b2 25 [.int .u8 a0.f0, .slice A0_0 a0.f1.length c0_0, .int .i64 a0.f2, .int .i64 a0.f3, .int .u8 a0.f4], Ro (Kd.int .u8) A0_0 c0_0 a0.f1] e ds As) ?_ ?_
                · by_cases h35 : q31 = true
                  · refine RA_yesB rfl rfl rfl rfl (h35) (OA_v (v := .pointer (some ((⟨b2, 0, none⟩ : Addr).add 3))) rfl (V_fieldAddrN (B := ⟨b2, 0, none⟩) (m := 0) (o := 3) Try.underlying25 rfl nz3 rfl rfl) ?_)
                    refine RA_yesB rfl rfl rfl rfl (h35) (OA_r rfl (VR_load_blk (b := b2) (m := 3) (k := 0) Try.underlying3 rfl rfl rfl rfl) ?_)
                    refine RA_yesB rfl rfl rfl rfl (h35) (OA_v (v := .bool (decide (a0.f3 ≥ 1))) rfl (V_geq rfl rfl) ?_)
                    refine RA_step rfl (OA_v rfl (V_pickT rfl (h35) rfl) ?_)
                    refine RA_nil ?_
                    exact at_normal (St.mk1 (aeq rfl (aeq (congrArg Value.bool (and_t hq34 (h35))) aeq0)) (Gh.sel [0, 1] rfl rfl))
                  · refine RA_noB rfl rfl rfl rfl (bno h35) rfl ?_
                    refine RA_noB rfl rfl rfl rfl (bno h35) rfl ?_
                    refine RA_noB rfl rfl rfl rfl (bno h35) rfl ?_
                    refine RA_step rfl (OA_v rfl (V_pickF rfl (bno h35) rfl) ?_)
                    refine RA_nil ?_
                    exact at_normal (St.mk1 (aeq rfl (aeq (congrArg Value.bool (and_f hq34 (bno h35))) aeq0)) (Gh.sel [0, 1] rfl rfl))
                · rintro e ds As hst36
                  refine RA.of_St rfl hst36 fun junk => ?_
                  refine RA_step rfl (OA_v (v := .bool q34) rfl (V_move rfl) ?_)
                  obtain ⟨q37, hq37, H⟩ := g_lt H
                  refine RA_cut 4 (fun e ds As => St [(78, .bool q37)] [] e ds As) ?_ ?_
                  · by_cases h38 : q34 = true
                    · refine RA_yesB rfl rfl rfl rfl (h38) (OA_v (v := .pointer (some ((⟨b2, 0, none⟩ : Addr).add 3))) rfl (V_fieldAddrN (B := ⟨b2, 0, none⟩) (m := 0) (o := 3) Try.underlying25 rfl nz3 rfl rfl) ?_)
                      refine RA_yesB rfl rfl rfl rfl (h38) (OA_r rfl (VR_load_blk (b := b2) (m := 3) (k := 0) Try.underlying3 rfl rfl rfl rfl) ?_)
                      refine RA_yesB rfl rfl rfl rfl (h38) (OA_v (v := .bool (decide (a0.f3 ≤ 512))) rfl (V_leq rfl rfl) ?_)
                      refine RA_step rfl (OA_v rfl (V_pickT rfl (h38) rfl) ?_)
                      refine RA_nil ?_
                      exact at_normal (St.mk1 (aeq (congrArg Value.bool (and_t hq37 (h38))) aeq0) (Gh.sel [] rfl rfl))
                    · refine RA_noB rfl rfl rfl rfl (bno h38) rfl ?_
                      refine RA_noB rfl rfl rfl rfl (bno h38) rfl ?_
                      refine RA_noB rfl rfl rfl rfl (bno h38) rfl ?_
                      refine RA_step rfl (OA_v rfl (V_pickF rfl (bno h38) rfl) ?_)
                      refine RA_nil ?_
                      exact at_normal (St.mk1 (aeq (congrArg Value.bool (and_f hq37 (bno h38))) aeq0) (Gh.sel [] rfl rfl))
                  · rintro e ds As hst39
                    refine RA.of_St rfl hst39 fun junk => ?_
                    refine RA_step rfl (OA_v (v := .bool q37) rfl (V_assign rfl) ?_)
                    refine RA_nil ?_
                    refine at_normal ?_
                    refine SA_ret ?_
                    refine inb_ret ?_
                    refine thn_ret ?_
                    have hr_ := Option.some.inj H
                    subst hr_
                    exact BQ_R1 [] rfl rfl (Gh.sel [] rfl rfl) ⟨rfl, rfl⟩
        · replace H := g_iff h24 H
          refine SA_condF rfl h24 ?_
          refine SA_seq ?_
          refine SA_region ?_
          refine RA_step rfl (OA_v (v := .bool (decide (a0.f0 = 4))) rfl (V_eql rfl rfl) ?_)
          refine RA_step rfl (OA_v (v := .bool (decide (a0.f0 = 4))) rfl (V_assign rfl) ?_)
          refine RA_nil ?_
          refine at_normal ?_
          by_cases h40 : a0.f0 = 4
          · replace H := g_ift h40 H
            refine SA_condT rfl h40 ?_
            refine SA_seq ?_
            refine SA_region ?_
            refine RA_step rfl (OA_v (v := .bool q4) rfl (V_move rfl) ?_)
            refine RA_step rfl (OA_v (v := .bool q4) rfl (V_move rfl) ?_)
            obtain ⟨q41, hq41, H⟩ := g_lt H
            refine RA_cut 5 (fun e ds As => St [(1, .pointer (some ⟨b2, 0, none⟩)), (87, .bool q41)] [Blk b2 25 [.int .u8 a0.f0, .slice A0_0 a0.f1.length c0_0, .int .i64 a0.f2, .int .i64 a0.f3, .int .u8 a0.f4], Ro (Kd.int .u8) A0_0 c0_0 a0.f1] e ds As) ?_ ?_
            · by_cases h42 : q4 = true
              · refine RA_yesB rfl rfl rfl rfl (h42) (OA_v (v := .pointer (some ((⟨b2, 0, none⟩ : Addr).add 1))) rfl (V_fieldAddrN (B := ⟨b2, 0, none⟩) (m := 0) (o := 1) Try.underlying25 rfl nz23 rfl rfl) ?_)
                refine RA_yesB rfl rfl rfl rfl (h42) (OA_r rfl (VR_load_blk (b := b2) (m := 1) (k := 0) Try.underlying23 rfl rfl rfl rfl) ?_)
                refine RA_yesB rfl rfl rfl rfl (h42) (OA_v (v := .int .i64 (a0.f1.length : Int)) rfl (V_len Try.underlying23 rfl) ?_)
                refine RA_yesB rfl rfl rfl rfl (h42) (OA_v (v := .bool (decide ((a0.f1.length : Int) = 0))) rfl (V_eql rfl rfl) ?_)
                refine RA_step rfl (OA_v rfl (V_pickT rfl (h42) rfl) ?_)
                refine RA_nil ?_
                exact at_normal (St.mk1 (aeq rfl (aeq (congrArg Value.bool (and_t hq41 (h42))) aeq0)) (Gh.sel [0, 1] rfl rfl))
              · refine RA_noB rfl rfl rfl rfl (bno h42) rfl ?_
                refine RA_noB rfl rfl rfl rfl (bno h42) rfl ?_
                refine RA_noB rfl rfl rfl rfl (bno h42) rfl ?_
                refine RA_noB rfl rfl rfl rfl (bno h42) rfl ?_
                refine RA_step rfl (OA_v rfl (V_pickF rfl (bno h42) rfl) ?_)
                refine RA_nil ?_
                exact at_normal (St.mk1 (aeq rfl (aeq (congrArg Value.bool (and_f hq41 (bno h42))) aeq0)) (Gh.sel [0, 1] rfl rfl))
            · rintro e ds As hst43
              refine RA.of_St rfl hst43 fun junk => ?_
              refine RA_step rfl (OA_v (v := .bool q41) rfl (V_move rfl) ?_)
              obtain ⟨q44, hq44, H⟩ := g_lt H
              refine RA_cut 4 (fun e ds As => St [(1, .pointer (some ⟨b2, 0, none⟩)), (92, .bool q44)] [Blk b2 25 [.int .u8 a0.f0, .slice A0_0 a0.f1.length c0_0, .int .i64 a0.f2, .int .i64 a0.f3, .int .u8 a0.f4], Ro (Kd.int .u8) A0_0 c0_0 a0.f1] e ds As) ?_ ?_
              · by_cases h45 : q41 = true
                · refine RA_yesB rfl rfl rfl rfl (h45) (OA_v (v := .pointer (some ((⟨b2, 0, none⟩ : Addr).add 4))) rfl (V_fieldAddrN (B := ⟨b2, 0, none⟩) (m := 0) (o := 4) Try.underlying25 rfl nz5 rfl rfl) ?_)
                  refine RA_yesB rfl rfl rfl rfl (h45) (OA_r rfl (VR_load_blk (b := b2) (m := 4) (k := 0) Try.underlying5 rfl rfl rfl rfl) ?_)
                  refine RA_yesB rfl rfl rfl rfl (h45) (OA_v (v := .bool (decide (a0.f4 ≥ 65))) rfl (V_geq rfl rfl) ?_)
                  refine RA_step rfl (OA_v rfl (V_pickT rfl (h45) rfl) ?_)
                  refine RA_nil ?_
                  exact at_normal (St.mk1 (aeq rfl (aeq (congrArg Value.bool (and_t hq44 (h45))) aeq0)) (Gh.sel [0, 1] rfl rfl))
                · refine RA_noB rfl rfl rfl rfl (bno h45) rfl ?_
                  refine RA_noB rfl rfl rfl rfl (bno h45) rfl ?_
                  refine RA_noB rfl rfl rfl rfl (bno h45) rfl ?_
                  refine RA_step rfl (OA_v rfl (V_pickF rfl (bno h45) rfl) ?_)
                  refine RA_nil ?_
                  exact at_normal (St.mk1 (aeq rfl (aeq (congrArg Value.bool (and_f hq44 (bno h45))) aeq0)) (Gh.sel [0, 1] rfl rfl))
              · rintro e ds As hst46
                refine RA.of_St rfl hst46 fun junk => ?_
                refine RA_step rfl (OA_v (v := .bool q44) rfl (V_move rfl) ?_)
                obtain ⟨q47, hq47, H⟩ := g_lt H
                refine RA_cut 4 (fun e ds As => St [(97, .bool q47)] [] e ds As) ?_ ?_
                · by_cases h48 : q44 = true
                  · refine RA_yesB rfl rfl rfl rfl (h48) (OA_v (v := .pointer (some ((⟨b2, 0, none⟩ : Addr).add 4))) rfl (V_fieldAddrN (B := ⟨b2, 0, none⟩) (m := 0) (o := 4) Try.underlying25 rfl nz5 rfl rfl) ?_)
                    refine RA_yesB rfl rfl rfl rfl (h48) (OA_r rfl (VR_load_blk (b := b2) (m := 4) (k := 0) Try.underlying5 rfl rfl rfl rfl) ?_)
                    refine RA_yesB rfl rfl rfl rfl (h48) (OA_v (v := .bool (decide (a0.f4 ≤ 68))) rfl (V_leq rfl rfl) ?_)
                    refine RA_step rfl (OA_v rfl (V_pickT rfl (h48) rfl) ?_)
                    refine RA_nil ?_
                    exact at_normal (St.mk1 (aeq (congrArg Value.bool (and_t hq47 (h48))) aeq0) (Gh.sel [] rfl rfl))
                  · refine RA_noB rfl rfl rfl rfl (bno h48) rfl ?_
                    refine RA_noB rfl rfl rfl rfl (bno h48) rfl ?_
                    refine RA_noB rfl rfl rfl rfl (bno h48) rfl ?_
                    refine RA_step rfl (OA_v rfl (V_pickF rfl (bno h48) rfl) ?_)
                    refine RA_nil ?_
                    exact at_normal (St.mk1 (aeq (congrArg Value.bool (and_f hq47 (bno h48))) aeq0) (Gh.sel [] rfl rfl))
                · rintro e ds As hst49
                  refine RA.of_St rfl hst49 fun junk => ?_
                  refine RA_step rfl (OA_v (v := .bool q47) rfl (V_assign rfl) ?_)
                  refine RA_nil ?_
                  refine at_normal ?_
                  refine SA_ret ?_
                  refine inb_ret ?_
                  refine thn_ret ?_
                  have hr_ := Option.some.inj H
                  subst hr_
                  exact BQ_R1 [] rfl rfl (Gh.sel [] rfl rfl) ⟨rfl, rfl⟩
          · replace H := g_iff h40 H
            refine SA_condF rfl h40 ?_
            refine SA_skip ?_
            refine inb_normal ?_
            refine at_normal ?_
            refine SA_seq ?_
            refine SA_region ?_
            refine RA_step rfl (OA_v (v := .bool false) rfl (V_assign rfl) ?_)
            refine RA_nil ?_
            refine at_normal ?_
            refine SA_ret ?_
            have hr_ := Option.some.inj H
            subst hr_
            exact BQ_R1 [] rfl rfl (Gh.sel [] rfl rfl) ⟨rfl, rfl⟩

/-! ### function 58: wayfarer/keys.put -/
def F58.f (l0 : (List Int)) (l1 : (List Int)) : Option ((List Int)) := if 0 ≤ (IntKind.i64.wrap ((l0.length : Int) + (l1.length : Int))) ∧ (IntKind.i64.wrap ((l0.length : Int) + (l1.length : Int))) ≤ 140737488355328 then lt (List.replicate (IntKind.i64.wrap ((l0.length : Int) + (l1.length : Int))).toNat 0) fun n7 => (lt (over n7 0 (l0.take n7.length)) fun n8 => (lt (minI (l0.length : Int) (n8.length : Int)) fun n9 => if 0 ≤ n9 ∧ n9 ≤ (n8.length : Int) ∧ (n8.length : Int) ≤ (n8.length : Int) ∧ (n8.length : Int) ≤ (n8.length : Int) ∧ (n8.length : Int) ≤ (n8.length : Int) then (lt (over n8 n9.toNat (l1.take ((n8.length : Int).toNat - n9.toNat))) fun n15 => (some (n15))) else none)) else none
set_option maxHeartbeats 2000000 in
set_option maxRecDepth 100000 in
theorem F58.ok {l0 : (List Int)} {l1 : (List Int)} {A0 : Option Addr} {c0 : Nat} {A1 : Option Addr} {c1 : Nat} {r : (List Int)} (H : F58.f l0 l1 = some r) : SCA Try.prog 58 #[.slice A0 l0.length c0, .slice A1 l1.length c1] [Ro (Kd.int .u8) A0 c0 l0, Ro (Kd.int .u8) A1 c1 l1] (fun v B => ∃ (A0_0_ : Option Addr) (c0_0_ : Nat), v = .slice A0_0_ r.length c0_0_ ∧ B = [Buf (Kd.int .u8) 5 A0_0_ c0_0_ r]) := by
  refine SCA_of_body Try.func58 rfl rfl ?_
  unfold F58.f at H
  refine SA_seq ?_
  refine SA_region ?_
  refine RA_step rfl (OA_v (v := .slice none 0 0) rfl (V_assign rfl) ?_)
  refine RA_nil ?_
  refine at_normal ?_
  refine SA_seq ?_
  refine SA_region ?_
  refine RA_step rfl (OA_v (v := .slice A0 l0.length c0) rfl (V_move rfl) ?_)
  refine RA_step rfl (OA_v (v := .int .i64 (l0.length : Int)) rfl (V_len Try.underlying23 rfl) ?_)
  refine RA_step rfl (OA_v (v := .slice A1 l1.length c1) rfl (V_move rfl) ?_)
  refine RA_step rfl (OA_v (v := .int .i64 (l1.length : Int)) rfl (V_len Try.underlying23 rfl) ?_)
  refine RA_step rfl (OA_v (v := .int .i64 (IntKind.i64.wrap ((l0.length : Int) + (l1.length : Int)))) rfl (V_add rfl rfl) ?_)
  obtain ⟨⟨g5, g6⟩, H⟩ := g_pos H
  obtain ⟨n7, hn7, H⟩ := g_lt H
  refine RA_step rfl (OA_mk (kd := (Kd.int .u8)) (sz := 1) (l := IntKind.i64.wrap ((l0.length : Int) + (l1.length : Int))) 0 n7 hn7 rfl Try.underlying23 inf5 rfl rfl g5 (by omega) (by omega) rfl rfl (fun _ => rfl) fun b3 => ?_)
  refine RA_step rfl (OA_v (v := .slice (some ⟨b3, 0, none⟩) n7.length ((IntKind.i64.wrap ((l0.length : Int) + (l1.length : Int))).toNat)) rfl (V_assign rfl) ?_)
  refine RA_nil ?_
  refine at_normal ?_
  refine SA_seq ?_
  refine SA_region ?_
  refine RA_step rfl (OA_v (v := .slice (some ⟨b3, 0, none⟩) n7.length ((IntKind.i64.wrap ((l0.length : Int) + (l1.length : Int))).toNat)) rfl (V_move rfl) ?_)
  refine RA_step rfl (OA_v (v := .slice A0 l0.length c0) rfl (V_move rfl) ?_)
  obtain ⟨n8, hn8, H⟩ := g_lt H
  have hl_n8 : n8.length = n7.length := by rw [hn8]; exact over_len (by rw [List.length_take]; omega)
  refine RA_step rfl (OA_copyF (k := 2) (xs := n7) (ys := l0) n8 hn8 rfl Try.underlying23 sz5 rfl rfl rfl rfl (Cpy.slice (Src.ro (k := 0) rfl)) ?_)
  try rewrite [← hl_n8]
  obtain ⟨n9, hn9, H⟩ := g_lt H
  refine RA_step rfl (OA_v (v := .int .i64 n9) rfl (V_assign (v := .int .i64 n9) (congrArg (Value.int .i64) hn9.symm)) ?_)
  refine RA_nil ?_
  refine at_normal ?_
  refine SA_seq ?_
  refine SA_region ?_
  refine RA_step rfl (OA_v (v := .slice (some ⟨b3, 0, none⟩) n8.length ((IntKind.i64.wrap ((l0.length : Int) + (l1.length : Int))).toNat)) rfl (V_move rfl) ?_)
  refine RA_step rfl (OA_v (v := .int .i64 n9) rfl (V_move rfl) ?_)
  refine RA_step rfl (OA_v (v := .slice (some ⟨b3, 0, none⟩) n8.length ((IntKind.i64.wrap ((l0.length : Int) + (l1.length : Int))).toNat)) rfl (V_move rfl) ?_)
  refine RA_step rfl (OA_v (v := .int .i64 (n8.length : Int)) rfl (V_len Try.underlying23 rfl) ?_)
  refine RA_step rfl (OA_v (v := .slice (some ⟨b3, 0, none⟩) n8.length ((IntKind.i64.wrap ((l0.length : Int) + (l1.length : Int))).toNat)) rfl (V_move rfl) ?_)
  refine RA_step rfl (OA_v (v := .int .i64 (n8.length : Int)) rfl (V_len Try.underlying23 rfl) ?_)
  obtain ⟨⟨g10, g11, g12, g13, g14⟩, H⟩ := g_pos H
  refine RA_step rfl (OA_r rfl (VR_win (k := 2) (l := n9) (h := (n8.length : Int)) (m := (n8.length : Int)) rfl Try.underlying23 sz5 rfl rfl rfl rfl (.inr ⟨_, rfl⟩) (.inr ⟨_, rfl⟩) (.inr ⟨⟨_, rfl⟩, ⟨_, rfl⟩, g13, g14⟩) g10 g11 g12) ?_)
  refine RA_step rfl (OA_v (v := .slice A1 l1.length c1) rfl (V_move rfl) ?_)
  obtain ⟨n15, hn15, H⟩ := g_lt H
  have hl_n15 : n15.length = n8.length := by rw [hn15]; exact over_len (by rw [List.length_take]; omega)
  refine RA_step rfl (OA_copyW (k := 2) (l := n9) (h := (n8.length : Int)) (m := (n8.length : Int)) (xs := n8) (ys := l1) n15 hn15 rfl Try.underlying23 sz5 rfl rfl rfl g10 g11 g12 (.inr g13) rfl (Cpy.slice (Src.ro (k := 1) rfl)) ?_)
  try rewrite [← hl_n15]
  refine RA_nil ?_
  refine at_normal ?_
  refine SA_seq ?_
  refine SA_region ?_
  refine RA_step rfl (OA_v (v := .slice (some ⟨b3, 0, none⟩) n15.length ((IntKind.i64.wrap ((l0.length : Int) + (l1.length : Int))).toNat)) rfl (V_move rfl) ?_)
  refine RA_step rfl (OA_v (v := .slice (some ⟨b3, 0, none⟩) n15.length ((IntKind.i64.wrap ((l0.length : Int) + (l1.length : Int))).toNat)) rfl (V_assign rfl) ?_)
  refine RA_nil ?_
  refine at_normal ?_
  refine SA_ret ?_
  have hr_ := Option.some.inj H
  subst hr_
  exact BQ_R1 [Buf (Kd.int .u8) 5 (some ⟨b3, 0, none⟩) ((IntKind.i64.wrap ((l0.length : Int) + (l1.length : Int))).toNat) n15] rfl rfl (Gh.sel [2] rfl rfl) ⟨some ⟨b3, 0, none⟩, (IntKind.i64.wrap ((l0.length : Int) + (l1.length : Int))).toNat, rfl, rfl⟩

/-! ### function 17: wayfarer/keys.Clean -/
def F17.l0 (l0 : (List Int)) : Nat → (List Int) → Int → Option ((List Int))
  | 0, _, _ => none
  | k + 1, x3_5, x8_5 => if x8_5 < (l0.length : Int) then (if 0 ≤ x8_5 ∧ x8_5 < (l0.length : Int) then (lt (rd l0 x8_5) fun n15 => (if n15 = 27 then (some (decide (n15 = 27))) else (some (decide (n15 = 155))) : Option (Bool)).bind (fun t16 => if t16 = true then (F17.l0 l0 k x3_5 (IntKind.i64.wrap (x8_5 + 1))) else (if n15 = 10 then (if x3_5.length + ([13] : (List Int)).length ≤ 140737488355328 then lt (x3_5 ++ ([13] : (List Int))) fun n27 => (F17.l0 l0 k n27 (IntKind.i64.wrap (x8_5 + 1))) else none) else (if x3_5.length + ([n15] : (List Int)).length ≤ 140737488355328 then lt (x3_5 ++ ([n15] : (List Int))) fun n34 => (F17.l0 l0 k n34 (IntKind.i64.wrap (x8_5 + 1))) else none)))) else none) else (some x3_5)
def F17.f (k : Nat) (l0 : (List Int)) : Option ((List Int)) := (F17.l0 l0 k ([]) 0 : Option ((List Int))).bind (fun t2 => some (t2))
set_option maxHeartbeats 2000000 in
set_option maxRecDepth 100000 in
theorem F17.ok {k : Nat} {l0 : (List Int)} {A0 : Option Addr} {c0 : Nat} {r : (List Int)} (H : F17.f k l0 = some r) : SCA Try.prog 17 #[.slice A0 l0.length c0] [Ro (Kd.int .u8) A0 c0 l0] (fun v B => ∃ (A0_0_ : Option Addr) (c0_0_ : Nat), v = .slice A0_0_ r.length c0_0_ ∧ B = [Buf (Kd.int .u8) 5 A0_0_ c0_0_ r]) := by
  refine SCA_of_body Try.func17 rfl rfl ?_
  unfold F17.f at H
  refine SA_seq ?_
  refine SA_region ?_
  refine RA_step rfl (OA_v (v := .slice none 0 0) rfl (V_assign rfl) ?_)
  refine RA_nil ?_
  refine at_normal ?_
  refine SA_seq ?_
  refine SA_region ?_
  refine RA_step rfl (OA_v (v := .slice none 0 0) rfl (V_assign rfl) ?_)
  refine RA_nil ?_
  refine at_normal ?_
  refine SA_seq ?_
  refine SA_seq ?_
  refine SA_region ?_
  refine RA_step rfl (OA_v (v := .slice A0 l0.length c0) rfl (V_move rfl) ?_)
  refine RA_step rfl (OA_v (v := .int .i64 (l0.length : Int)) rfl (V_len Try.underlying23 rfl) ?_)
  refine RA_step rfl (OA_v (v := .int .i64 0) rfl (V_move rfl) ?_)
  refine RA_nil ?_
  refine at_normal ?_
  obtain ⟨t2, H, Bt2⟩ := g_bind H
  refine SA_mid (fun e ds As => ∃ (A3 : Option Addr) (c4 : Nat), St [(3, .slice A3 t2.length c4)] [Buf (Kd.int .u8) 5 A3 c4 t2] e ds As) ?_ ?_
  · refine SA_block ?_
    refine SA_loop (fun k_ e ds As => ∃ (x3_5 : (List Int)) (x8_5 : Int), ∃ (A6 : Option Addr) (c7 : Nat), F17.l0 l0 k_ x3_5 x8_5 = some t2 ∧ St [(3, .slice A6 x3_5.length c7), (6, .slice A0 l0.length c0), (7, .int .i64 (l0.length : Int)), (8, .int .i64 x8_5)] [Buf (Kd.int .u8) 5 A6 c7 x3_5, Ro (Kd.int .u8) A0 c0 l0] e ds As) (k := k) ⟨_, _, none, 0, H, St.mk1 (aeq rfl (aeq rfl (aeq rfl (aeq rfl aeq0)))) ((Gh.nilBuf (Kd.int .u8) 5).trans (Gh.sel [1, 0] rfl rfl))⟩ ?_
    clear H
    rintro k10 e ds As ⟨x3_5, x8_5, A6, c7, H, hst11⟩
    obtain _ | k10 := k10
    · cases H
    rw [F17.l0] at H
    refine SA.of_St hst11 fun junk => ?_
    refine SA_seq ?_
    refine SA_region ?_
    refine RA_step rfl (OA_v (v := .bool (decide (x8_5 < (l0.length : Int)))) rfl (V_lss rfl rfl) ?_)
    refine RA_nil ?_
    refine at_normal ?_
    refine SA_seq ?_
    by_cases h12 : x8_5 < (l0.length : Int)
    · replace H := g_ift h12 H
      refine SA_condT rfl h12 ?_
      refine SA_skip ?_
      refine at_normal ?_
      refine SA_seq ?_
      refine SA_block ?_
      refine SA_seq ?_
      refine SA_region ?_
      obtain ⟨⟨g13, g14⟩, H⟩ := g_pos H
      refine RA_step rfl (OA_r rfl (VR_index (i := x8_5) Try.underlying23 sz5 rfl rfl (Src.ro (k := 1) rfl) g13 g14) ?_)
      refine RA_step rfl (OA_r rfl (VR_load_el (enc := (fun x_ : Int => [Value.int .u8 x_])) (i := x8_5) (j := x8_5.toNat * 1) (m := 0) (sz := 1) Try.underlying5 rfl rfl rfl rfl (Src.ro (k := 1) rfl) g13 g14 (fun _ _ h => h) rfl) ?_)
      obtain ⟨n15, hn15, H⟩ := g_lt H
      refine RA_step rfl (OA_v (v := .int .u8 n15) rfl (V_assign (v := .int .u8 n15) (congrArg (Value.int .u8) hn15.symm)) ?_)
      refine RA_nil ?_
      refine at_normal ?_
      refine SA_seq ?_
      refine SA_region ?_
      refine RA_step rfl (OA_v (v := .int .u8 n15) rfl (V_move rfl) ?_)
      refine RA_nil ?_
      refine at_normal ?_
      refine SA_block ?_
      refine SA_seq ?_
      refine SA_seq ?_
      refine SA_region ?_
      refine RA_step rfl (OA_v (v := .bool (decide (n15 = 27))) rfl (V_eql rfl rfl) ?_)
      refine RA_step rfl (OA_v (v := .bool (decide (n15 = 27))) rfl (V_assign rfl) ?_)
      refine RA_nil ?_
      refine at_normal ?_
      obtain ⟨t16, H, Bt16⟩ := g_bind H
      refine SA_mid (fun e ds As => St [(3, .slice A6 x3_5.length c7), (5, .int .u8 n15), (6, .slice A0 l0.length c0), (7, .int .i64 (l0.length : Int)), (8, .int .i64 x8_5), (12, .int .u8 n15), (17, .bool t16)] [Buf (Kd.int .u8) 5 A6 c7 x3_5, Ro (Kd.int .u8) A0 c0 l0] e ds As) ?_ ?_
      · by_cases h17 : n15 = 27
        · replace H := g_ift h17 H
          refine SA_condT rfl h17 ?_
          refine SA_skip ?_
          have hr_ := Option.some.inj H
          subst hr_
          exact at_normal (St.mk1 (aeq rfl (aeq rfl (aeq rfl (aeq rfl (aeq rfl (aeq rfl (aeq rfl aeq0))))))) (Gh.sel [0, 1] rfl rfl))
        · replace H := g_iff h17 H
          refine SA_condF rfl h17 ?_
          refine SA_region ?_
          refine RA_step rfl (OA_v (v := .bool (decide (n15 = 155))) rfl (V_eql rfl rfl) ?_)
          refine RA_step rfl (OA_v (v := .bool (decide (n15 = 155))) rfl (V_assign rfl) ?_)
          refine RA_nil ?_
          have hr_ := Option.some.inj H
          subst hr_
          exact at_normal (St.mk1 (aeq rfl (aeq rfl (aeq rfl (aeq rfl (aeq rfl (aeq rfl (aeq rfl aeq0))))))) (Gh.sel [0, 1] rfl rfl))
      · rintro e ds As hst18
        clear H
        have H := Bt16
        clear Bt16
        refine at_normal ?_
        refine SA.of_St hst18 fun junk => ?_
        by_cases h19 : t16 = true
        · replace H := g_ift h19 H
          refine SA_condTb rfl h19 ?_
          refine SA_skip ?_
          refine inb_normal ?_
          refine inb_normal ?_
          refine at_normal ?_
          refine SA_region ?_
          refine RA_step rfl (OA_v (v := .int .i64 (IntKind.i64.wrap (x8_5 + 1))) rfl (V_add rfl rfl) ?_)
          refine RA_step rfl (OA_v (v := .int .i64 (IntKind.i64.wrap (x8_5 + 1))) rfl (V_move rfl) ?_)
          refine RA_nil ?_
          exact at_normal ⟨k10, Nat.lt_succ_self _, _, _, A6, c7, H, St.mk1 (aeq rfl (aeq rfl (aeq rfl (aeq rfl aeq0)))) (Gh.sel [0, 1] rfl rfl)⟩
        · replace H := g_iff h19 H
          refine SA_condFb rfl h19 ?_
          refine SA_seq ?_
          refine SA_region ?_
          refine RA_step rfl (OA_v (v := .bool (decide (n15 = 10))) rfl (V_eql rfl rfl) ?_)
          refine RA_step rfl (OA_v (v := .bool (decide (n15 = 10))) rfl (V_assign rfl) ?_)
          refine RA_nil ?_
          refine at_normal ?_
          by_cases h20 : n15 = 10
          · replace H := g_ift h20 H
            refine SA_condT rfl h20 ?_
            refine SA_region ?_
            refine RA_step rfl (OA_v (v := .slice A6 x3_5.length c7) rfl (V_move rfl) ?_)
            refine RA_step rfl (OA_bs (kd := (Kd.int .u8)) (zv := (.int .u8 0)) (sz := 1) (cells := [.int .u8 13]) (xs := ([13] : (List Int))) rfl Try.underlying23 zero5 sz5 rfl rfl rfl (by kernel_rfl) rfl rfl (RL_enc (fun x_ : Int => [Value.int .u8 x_]) (fun _ _ => rfl) (by kernel_rfl)) fun b21 => ?_)
            obtain ⟨g24, H⟩ := g_pos H
            obtain ⟨n27, hn27, H⟩ := g_lt H
            refine RA_step rfl (OA_app (k := 0) (A := A6) (c := c7) (xs := x3_5) (ys := ([13] : (List Int))) n27 hn27 rfl Try.underlying23 inf5 rfl rfl rfl rfl rfl (Yld.slice Try.underlying23 (Src.buf (k := 2) rfl)) (by omega) (by omega) fun A25 c26 => ?_)
            refine RA_step rfl (OA_v (v := .slice A25 n27.length c26) rfl (V_assign rfl) ?_)
            refine RA_nil ?_
            refine inb_normal ?_
            refine inb_normal ?_
            refine at_normal ?_
            refine SA_region ?_
            refine RA_step rfl (OA_v (v := .int .i64 (IntKind.i64.wrap (x8_5 + 1))) rfl (V_add rfl rfl) ?_)
            refine RA_step rfl (OA_v (v := .int .i64 (IntKind.i64.wrap (x8_5 + 1))) rfl (V_move rfl) ?_)
            refine RA_nil ?_
            exact at_normal ⟨k10, Nat.lt_succ_self _, _, _, A25, c26, H, St.mk1 (aeq rfl (aeq rfl (aeq rfl (aeq rfl aeq0)))) (Gh.sel [0, 1] rfl rfl)⟩
          · replace H := g_iff h20 H
            refine SA_condF rfl h20 ?_
            refine SA_region ?_
            refine RA_step rfl (OA_v (v := .slice A6 x3_5.length c7) rfl (V_move rfl) ?_)
            refine RA_step rfl (OA_v (v := .int .u8 n15) rfl (V_move rfl) ?_)
            refine RA_step rfl (OA_bs (kd := (Kd.int .u8)) (zv := (.int .u8 0)) (sz := 1) (cells := [.int .u8 n15]) (xs := ([n15] : (List Int))) rfl Try.underlying23 zero5 sz5 rfl rfl rfl (by kernel_rfl) rfl rfl (RL_enc (fun x_ : Int => [Value.int .u8 x_]) (fun _ _ => rfl) (by kernel_rfl)) fun b28 => ?_)
            obtain ⟨g31, H⟩ := g_pos H
            obtain ⟨n34, hn34, H⟩ := g_lt H
            refine RA_step rfl (OA_app (k := 0) (A := A6) (c := c7) (xs := x3_5) (ys := ([n15] : (List Int))) n34 hn34 rfl Try.underlying23 inf5 rfl rfl rfl rfl rfl (Yld.slice Try.underlying23 (Src.buf (k := 2) rfl)) (by omega) (by omega) fun A32 c33 => ?_)
            refine RA_step rfl (OA_v (v := .slice A32 n34.length c33) rfl (V_assign rfl) ?_)
            refine RA_nil ?_
            refine inb_normal ?_
            refine inb_normal ?_
            refine at_normal ?_
            refine SA_region ?_
            refine RA_step rfl (OA_v (v := .int .i64 (IntKind.i64.wrap (x8_5 + 1))) rfl (V_add rfl rfl) ?_)
            refine RA_step rfl (OA_v (v := .int .i64 (IntKind.i64.wrap (x8_5 + 1))) rfl (V_move rfl) ?_)
            refine RA_nil ?_
            exact at_normal ⟨k10, Nat.lt_succ_self _, _, _, A32, c33, H, St.mk1 (aeq rfl (aeq rfl (aeq rfl (aeq rfl aeq0)))) (Gh.sel [0, 1] rfl rfl)⟩
    · replace H := g_iff h12 H
      refine SA_condF rfl h12 ?_
      refine SA_exit ?_
      refine thn_exit ?_
      refine thn_exit ?_
      refine inb_hit ?_
      have hr_ := Option.some.inj H
      subst hr_
      exact at_normal ⟨A6, c7, St.mk1 (aeq rfl aeq0) (Gh.sel [0] rfl rfl)⟩
  · rintro e ds As ⟨A3, c4, hst35⟩
    clear H
    have H := Bt2
    clear Bt2
    refine at_normal ?_
    refine SA.of_St hst35 fun junk => ?_
    refine SA_seq ?_
    refine SA_region ?_
    refine RA_step rfl (OA_v (v := .slice A3 t2.length c4) rfl (V_move rfl) ?_)
    refine RA_step rfl (OA_v (v := .slice A3 t2.length c4) rfl (V_assign rfl) ?_)
    refine RA_nil ?_
    refine at_normal ?_
    refine SA_ret ?_
    have hr_ := Option.some.inj H
    subst hr_
    exact BQ_R1 [Buf (Kd.int .u8) 5 A3 c4 t2] rfl rfl (Gh.sel [0] rfl rfl) ⟨A3, c4, rfl, rfl⟩

/-! ### function 14: wayfarer/keys.Encode -/
def F14.f (k : Nat) (a0 : S25) (a1 : Bool) (a2 : Bool) : Option ((List Int) × Int) := (F57.f a0).bind (fun r4 => if (!r4) = true then (some ((([] : (List Int)), 2))) else (if a0.f0 = 1 then ((F58.f ([] : (List Int)) a0.f1).bind (fun r9 => some ((r9, 0)))) else (lt ((decide (a0.f0 = 4)) && a1) fun q14 => if q14 = true then (some ((([27, 79, a0.f4] : (List Int)), 0))) else (if a0.f0 = 4 then (some ((([27, 91, a0.f4] : (List Int)), 0))) else (lt ((decide (a0.f0 = 3)) && a2) fun q23 => if q23 = true then ((F17.f k a0.f1).bind (fun r29 => (F58.f ([27, 91, 50, 48, 48, 126] : (List Int)) r29).bind (fun r33 => (F58.f r33 ([27, 91, 50, 48, 49, 126] : (List Int))).bind (fun r39 => some ((r39, 0)))))) else (if a0.f0 = 3 then ((F17.f k a0.f1).bind (fun r47 => some ((r47, 0)))) else (some ((([] : (List Int)), 0)))))))))
set_option maxHeartbeats 2000000 in
set_option maxRecDepth 100000 in
theorem F14.ok {k : Nat} {a0 : S25} {a1 : Bool} {a2 : Bool} {A0_0 : Option Addr} {c0_0 : Nat} {r : (List Int) × Int} (H : F14.f k a0 a1 a2 = some r) : SCA Try.prog 14 #[.agg #[.int .u8 a0.f0, .slice A0_0 a0.f1.length c0_0, .int .i64 a0.f2, .int .i64 a0.f3, .int .u8 a0.f4], .bool a1, .bool a2] [Ro (Kd.int .u8) A0_0 c0_0 a0.f1] (fun v B => ∃ (A0_0_ : Option Addr) (c0_0_ : Nat), v = .tuple #[.slice A0_0_ r.1.length c0_0_, .int .i64 r.2] ∧ B = [Buf (Kd.int .u8) 5 A0_0_ c0_0_ r.1]) := by
  refine SCA_of_body Try.func14 rfl rfl ?_
  unfold F14.f at H
  refine SA_seq ?_
  refine SA_region ?_
  refine RA_step rfl (OA_box rfl rfl fun b2 => ?_)
  refine RA_step rfl (OA_v (v := .slice none 0 0) rfl (V_assign rfl) ?_)
  refine RA_step rfl (OA_v (v := .int .i64 0) rfl (V_assign rfl) ?_)
  refine RA_nil ?_
  refine at_normal ?_
  refine SA_seq ?_
  refine SA_seq ?_
  refine SA_region ?_
  refine RA_step rfl (OA_r rfl (VR_loadA_blk (b := b2) (m := 0) (k := 1) (vs := [.int .u8 a0.f0, .slice A0_0 a0.f1.length c0_0, .int .i64 a0.f2, .int .i64 a0.f3, .int .u8 a0.f4]) Try.underlying25 rfl sz25 rfl rfl rfl) ?_)
  obtain ⟨r4, C53, H⟩ := g_bind H
  refine RA_step rfl (OA_callA [0] [0, 1] rfl (X_fn (vs := [.agg #[.int .u8 a0.f0, .slice A0_0 a0.f1.length c0_0, .int .i64 a0.f2, .int .i64 a0.f3, .int .u8 a0.f4]]) Try.func57 nm57 rfl rfl) rfl (F57.ok (a0 := a0) (A0_0 := A0_0) (c0_0 := c0_0) C53) rfl ?_)
  rintro _ _ ⟨rfl, rfl⟩
  refine RA_step rfl (OA_v (v := .bool (!r4)) rfl (V_not rfl) ?_)
  refine RA_nil ?_
  refine at_normal ?_
  by_cases h5 : (!r4) = true
  · replace H := g_ift h5 H
    refine SA_condTb rfl h5 ?_
    refine SA_seq ?_
    refine SA_region ?_
    refine RA_step rfl (OA_v (v := .slice none 0 0) rfl (V_assign rfl) ?_)
    refine RA_step rfl (OA_v (v := .int .i64 2) rfl (V_assign rfl) ?_)
    refine RA_nil ?_
    refine at_normal ?_
    refine SA_ret ?_
    refine thn_ret ?_
    have hr_ := Option.some.inj H
    subst hr_
    exact BQ_R2 [Buf (Kd.int .u8) 5 none 0 ([] : (List Int))] rfl rfl rfl ((Gh.nilBuf (Kd.int .u8) 5).trans (Gh.sel [2] rfl rfl)) ⟨none, 0, rfl, rfl⟩
  · replace H := g_iff h5 H
    refine SA_condFb rfl h5 ?_
    refine SA_skip ?_
    refine at_normal ?_
    refine SA_seq ?_
    refine SA_block ?_
    refine SA_seq ?_
    refine SA_region ?_
    refine RA_step rfl (OA_v (v := .pointer (some ⟨b2, 0, none⟩)) rfl (V_fieldAddrN (B := ⟨b2, 0, none⟩) (m := 0) (o := 0) Try.underlying25 rfl nz22 rfl rfl) ?_)
    refine RA_step rfl (OA_r rfl (VR_load_blk (b := b2) (m := 0) (k := 1) Try.underlying22 rfl rfl rfl rfl) ?_)
    refine RA_step rfl (OA_v (v := .bool (decide (a0.f0 = 1))) rfl (V_eql rfl rfl) ?_)
    refine RA_step rfl (OA_v (v := .bool (decide (a0.f0 = 1))) rfl (V_assign rfl) ?_)
    refine RA_nil ?_
    refine at_normal ?_
    by_cases h7 : a0.f0 = 1
    · replace H := g_ift h7 H
      refine SA_condT rfl h7 ?_
      refine SA_seq ?_
      refine SA_region ?_
      refine RA_step rfl (OA_v (v := .pointer (some ((⟨b2, 0, none⟩ : Addr).add 1))) rfl (V_fieldAddrN (B := ⟨b2, 0, none⟩) (m := 0) (o := 1) Try.underlying25 rfl nz23 rfl rfl) ?_)
      refine RA_step rfl (OA_r rfl (VR_load_blk (b := b2) (m := 1) (k := 1) Try.underlying23 rfl rfl rfl rfl) ?_)
      obtain ⟨r9, C13, H⟩ := g_bind H
      refine RA_step rfl (OA.ghost (Gh.nilRo (Kd.int .u8) none 0) (OA_callA [2, 0] [0, 1, 2] rfl (X_fn (vs := [.slice none 0 0, .slice A0_0 a0.f1.length c0_0]) Try.func58 nm58 rfl rfl) rfl (F58.ok (l0 := ([] : (List Int))) (A0 := none) (c0 := 0) (l1 := a0.f1) (A1 := A0_0) (c1 := c0_0) C13) rfl ?_))
      rintro _ _ ⟨A10, c11, rfl, rfl⟩
      refine RA_step rfl (OA_v (v := .slice A10 r9.length c11) rfl (V_assign rfl) ?_)
      refine RA_step rfl (OA_v (v := .int .i64 0) rfl (V_assign rfl) ?_)
      refine RA_nil ?_
      refine at_normal ?_
      refine SA_ret ?_
      refine inb_ret ?_
      refine thn_ret ?_
      have hr_ := Option.some.inj H
      subst hr_
      exact BQ_R2 [Buf (Kd.int .u8) 5 A10 c11 r9] rfl rfl rfl (Gh.sel [0] rfl rfl) ⟨A10, c11, rfl, rfl⟩
    · replace H := g_iff h7 H
      refine SA_condF rfl h7 ?_
      refine SA_seq ?_
      refine SA_region ?_
      refine RA_step rfl (OA_v (v := .pointer (some ⟨b2, 0, none⟩)) rfl (V_fieldAddrN (B := ⟨b2, 0, none⟩) (m := 0) (o := 0) Try.underlying25 rfl nz22 rfl rfl) ?_)
      refine RA_step rfl (OA_r rfl (VR_load_blk (b := b2) (m := 0) (k := 1) Try.underlying22 rfl rfl rfl rfl) ?_)
      refine RA_step rfl (OA_v (v := .bool (decide (a0.f0 = 4))) rfl (V_eql rfl rfl) ?_)
      refine RA_step rfl (OA_v (v := .bool (decide (a0.f0 = 4))) rfl (V_move rfl) ?_)
      obtain ⟨q14, hq14, H⟩ := g_lt H
      refine RA_cut 2 (fun e ds As => St [(2, .bool a2), (3, .pointer (some ⟨b2, 0, none⟩)), (24, .bool q14)] [Blk b2 25 [.int .u8 a0.f0, .slice A0_0 a0.f1.length c0_0, .int .i64 a0.f2, .int .i64 a0.f3, .int .u8 a0.f4], Ro (Kd.int .u8) A0_0 c0_0 a0.f1] e ds As) ?_ ?_
      · by_cases h15 : a0.f0 = 4
        · refine RA_yesB rfl rfl rfl rfl (dec_t h15) (OA_v (v := .bool a1) rfl (V_move rfl) ?_)
          refine RA_step rfl (OA_v rfl (V_pickT rfl (dec_t h15) rfl) ?_)
          refine RA_nil ?_
          exact at_normal (St.mk1 (aeq rfl (aeq rfl (aeq (congrArg Value.bool (and_t hq14 (dec_t h15))) aeq0))) (Gh.sel [1, 0] rfl rfl))
        · refine RA_noB rfl rfl rfl rfl (dec_f h15) rfl ?_
          refine RA_step rfl (OA_v rfl (V_pickF rfl (dec_f h15) rfl) ?_)
          refine RA_nil ?_
          exact at_normal (St.mk1 (aeq rfl (aeq rfl (aeq (congrArg Value.bool (and_f hq14 (dec_f h15))) aeq0))) (Gh.sel [1, 0] rfl rfl))
      · rintro e ds As hst16
        refine RA.of_St rfl hst16 fun junk => ?_
        refine RA_step rfl (OA_v (v := .bool q14) rfl (V_assign rfl) ?_)
        refine RA_nil ?_
        refine at_normal ?_
        by_cases h17 : q14 = true
        · replace H := g_ift h17 H
          refine SA_condTb rfl h17 ?_
          refine SA_seq ?_
          refine SA_region ?_
          refine RA_step rfl (OA_v (v := .pointer (some ((⟨b2, 0, none⟩ : Addr).add 4))) rfl (V_fieldAddrN (B := ⟨b2, 0, none⟩) (m := 0) (o := 4) Try.underlying25 rfl nz5 rfl rfl) ?_)
          refine RA_step rfl (OA_r rfl (VR_load_blk (b := b2) (m := 4) (k := 0) Try.underlying5 rfl rfl rfl rfl) ?_)
          refine RA_step rfl (OA_bs (kd := (Kd.int .u8)) (zv := (.int .u8 0)) (sz := 1) (cells := [.int .u8 27, .int .u8 79, .int .u8 a0.f4]) (xs := ([27, 79, a0.f4] : (List Int))) rfl Try.underlying23 zero5 sz5 rfl rfl rfl (by kernel_rfl) rfl rfl (RL_enc (fun x_ : Int => [Value.int .u8 x_]) (fun _ _ => rfl) (by kernel_rfl)) fun b18 => ?_)
          refine RA_step rfl (OA_v (v := .slice (some ⟨b18, 0, none⟩) ([27, 79, a0.f4] : (List Int)).length 3) rfl (V_assign rfl) ?_)
          refine RA_step rfl (OA_v (v := .int .i64 0) rfl (V_assign rfl) ?_)
          refine RA_nil ?_
          refine at_normal ?_
          refine SA_ret ?_
          refine inb_ret ?_
          refine thn_ret ?_
          have hr_ := Option.some.inj H
          subst hr_
          exact BQ_R2 [Buf (Kd.int .u8) 5 (some ⟨b18, 0, none⟩) 3 ([27, 79, a0.f4] : (List Int))] rfl rfl rfl (Gh.sel [2] rfl rfl) ⟨some ⟨b18, 0, none⟩, 3, rfl, rfl⟩
        · replace H := g_iff h17 H
          refine SA_condFb rfl h17 ?_
          refine SA_seq ?_
          refine SA_region ?_
          refine RA_step rfl (OA_v (v := .pointer (some ⟨b2, 0, none⟩)) rfl (V_fieldAddrN (B := ⟨b2, 0, none⟩) (m := 0) (o := 0) Try.underlying25 rfl nz22 rfl rfl) ?_)
          refine RA_step rfl (OA_r rfl (VR_load_blk (b := b2) (m := 0) (k := 0) Try.underlying22 rfl rfl rfl rfl) ?_)
          refine RA_step rfl (OA_v (v := .bool (decide (a0.f0 = 4))) rfl (V_eql rfl rfl) ?_)
          refine RA_step rfl (OA_v (v := .bool (decide (a0.f0 = 4))) rfl (V_assign rfl) ?_)
          refine RA_nil ?_
          refine at_normal ?_
          by_cases h20 : a0.f0 = 4
          · replace H := g_ift h20 H
            refine SA_condT rfl h20 ?_
            refine SA_seq ?_
            refine SA_region ?_
            refine RA_step rfl (OA_v (v := .pointer (some ((⟨b2, 0, none⟩ : Addr).add 4))) rfl (V_fieldAddrN (B := ⟨b2, 0, none⟩) (m := 0) (o := 4) Try.underlying25 rfl nz5 rfl rfl) ?_)
            refine RA_step rfl (OA_r rfl (VR_load_blk (b := b2) (m := 4) (k := 0) Try.underlying5 rfl rfl rfl rfl) ?_)
            refine RA_step rfl (OA_bs (kd := (Kd.int .u8)) (zv := (.int .u8 0)) (sz := 1) (cells := [.int .u8 27, .int .u8 91, .int .u8 a0.f4]) (xs := ([27, 91, a0.f4] : (List Int))) rfl Try.underlying23 zero5 sz5 rfl rfl rfl (by kernel_rfl) rfl rfl (RL_enc (fun x_ : Int => [Value.int .u8 x_]) (fun _ _ => rfl) (by kernel_rfl)) fun b21 => ?_)
            refine RA_step rfl (OA_v (v := .slice (some ⟨b21, 0, none⟩) ([27, 91, a0.f4] : (List Int)).length 3) rfl (V_assign rfl) ?_)
            refine RA_step rfl (OA_v (v := .int .i64 0) rfl (V_assign rfl) ?_)
            refine RA_nil ?_
            refine at_normal ?_
            refine SA_ret ?_
            refine inb_ret ?_
            refine thn_ret ?_
            have hr_ := Option.some.inj H
            subst hr_
            exact BQ_R2 [Buf (Kd.int .u8) 5 (some ⟨b21, 0, none⟩) 3 ([27, 91, a0.f4] : (List Int))] rfl rfl rfl (Gh.sel [2] rfl rfl) ⟨some ⟨b21, 0, none⟩, 3, rfl, rfl⟩
          · replace H := g_iff h20 H
            refine SA_condF rfl h20 ?_
            refine SA_seq ?_
            refine SA_region ?_
            refine RA_step rfl (OA_v (v := .pointer (some ⟨b2, 0, none⟩)) rfl (V_fieldAddrN (B := ⟨b2, 0, none⟩) (m := 0) (o := 0) Try.underlying25 rfl nz22 rfl rfl) ?_)
            refine RA_step rfl (OA_r rfl (VR_load_blk (b := b2) (m := 0) (k := 0) Try.underlying22 rfl rfl rfl rfl) ?_)
            refine RA_step rfl (OA_v (v := .bool (decide (a0.f0 = 3))) rfl (V_eql rfl rfl) ?_)
            refine RA_step rfl (OA_v (v := .bool (decide (a0.f0 = 3))) rfl (V_move rfl) ?_)
            obtain ⟨q23, hq23, H⟩ := g_lt H
            refine RA_cut 2 (fun e ds As => St [(3, .pointer (some ⟨b2, 0, none⟩)), (41, .bool q23)] [Blk b2 25 [.int .u8 a0.f0, .slice A0_0 a0.f1.length c0_0, .int .i64 a0.f2, .int .i64 a0.f3, .int .u8 a0.f4], Ro (Kd.int .u8) A0_0 c0_0 a0.f1] e ds As) ?_ ?_
            · by_cases h24 : a0.f0 = 3
              · refine RA_yesB rfl rfl rfl rfl (dec_t h24) (OA_v (v := .bool a2) rfl (V_move rfl) ?_)
                refine RA_step rfl (OA_v rfl (V_pickT rfl (dec_t h24) rfl) ?_)
                refine RA_nil ?_
                exact at_normal (St.mk1 (aeq rfl (aeq (congrArg Value.bool (and_t hq23 (dec_t h24))) aeq0)) (Gh.sel [0, 1] rfl rfl))
              · refine RA_noB rfl rfl rfl rfl (dec_f h24) rfl ?_
                refine RA_step rfl (OA_v rfl (V_pickF rfl (dec_f h24) rfl) ?_)
                refine RA_nil ?_
                exact at_normal (St.mk1 (aeq rfl (aeq (congrArg Value.bool (and_f hq23 (dec_f h24))) aeq0)) (Gh.sel [0, 1] rfl rfl))
            · rintro e ds As hst25
              refine RA.of_St rfl hst25 fun junk => ?_
              refine RA_step rfl (OA_v (v := .bool q23) rfl (V_assign rfl) ?_)
              refine RA_nil ?_
              refine at_normal ?_
              by_cases h26 : q23 = true
              · replace H := g_ift h26 H
                refine SA_condTb rfl h26 ?_
                refine SA_seq ?_
                refine SA_region ?_
                refine RA_step rfl (OA_bs (kd := (Kd.int .u8)) (zv := (.int .u8 0)) (sz := 1) (cells := [.int .u8 27, .int .u8 91, .int .u8 50, .int .u8 48, .int .u8 48, .int .u8 126]) (xs := ([27, 91, 50, 48, 48, 126] : (List Int))) rfl Try.underlying23 zero5 sz5 rfl rfl rfl (by kernel_rfl) rfl rfl (RL_enc (fun x_ : Int => [Value.int .u8 x_]) (fun _ _ => rfl) (by kernel_rfl)) fun b27 => ?_)
                refine RA_step rfl (OA_bytesConst (k := 2) rfl Try.underlying23 Try.underlying5 rfl (by simp) rfl ?_)
                refine RA_step rfl (OA_v (v := .pointer (some ((⟨b2, 0, none⟩ : Addr).add 1))) rfl (V_fieldAddrN (B := ⟨b2, 0, none⟩) (m := 0) (o := 1) Try.underlying25 rfl nz23 rfl rfl) ?_)
                refine RA_step rfl (OA_r rfl (VR_load_blk (b := b2) (m := 1) (k := 0) Try.underlying23 rfl rfl rfl rfl) ?_)
                obtain ⟨r29, C45, H⟩ := g_bind H
                refine RA_step rfl (OA_callA [1] [0, 1, 2] rfl (X_fn (vs := [.slice A0_0 a0.f1.length c0_0]) Try.func17 nm17 rfl rfl) rfl (F17.ok (l0 := a0.f1) (A0 := A0_0) (c0 := c0_0) C45) rfl ?_)
                rintro _ _ ⟨A30, c31, rfl, rfl⟩
                obtain ⟨r33, C44, H⟩ := g_bind H
                refine RA_step rfl (OA.ghost (Gh.freeze (k := 3) rfl) (OA.ghost (Gh.freeze (k := 0) rfl) (OA_callA [3, 0] [0, 1, 2, 3] rfl (X_fn (vs := [.slice (some ⟨b27, 0, none⟩) ([27, 91, 50, 48, 48, 126] : (List Int)).length 6, .slice A30 r29.length c31]) Try.func58 nm58 rfl rfl) rfl (F58.ok (l0 := ([27, 91, 50, 48, 48, 126] : (List Int))) (A0 := some ⟨b27, 0, none⟩) (c0 := 6) (l1 := r29) (A1 := A30) (c1 := c31) C44) rfl ?_)))
                rintro _ _ ⟨A34, c35, rfl, rfl⟩
                refine RA_step rfl (OA_bs (kd := (Kd.int .u8)) (zv := (.int .u8 0)) (sz := 1) (cells := [.int .u8 27, .int .u8 91, .int .u8 50, .int .u8 48, .int .u8 49, .int .u8 126]) (xs := ([27, 91, 50, 48, 49, 126] : (List Int))) rfl Try.underlying23 zero5 sz5 rfl rfl rfl (by kernel_rfl) rfl rfl (RL_enc (fun x_ : Int => [Value.int .u8 x_]) (fun _ _ => rfl) (by kernel_rfl)) fun b37 => ?_)
                refine RA_step rfl (OA_bytesConst (k := 5) rfl Try.underlying23 Try.underlying5 rfl (by simp) rfl ?_)
                obtain ⟨r39, C43, H⟩ := g_bind H
                refine RA_step rfl (OA.ghost (Gh.freeze (k := 0) rfl) (OA.ghost (Gh.freeze (k := 5) rfl) (OA_callA [0, 5] [0, 1, 2, 3, 4, 5] rfl (X_fn (vs := [.slice A34 r33.length c35, .slice (some ⟨b37, 0, none⟩) ([27, 91, 50, 48, 49, 126] : (List Int)).length 6]) Try.func58 nm58 rfl rfl) rfl (F58.ok (l0 := r33) (A0 := A34) (c0 := c35) (l1 := ([27, 91, 50, 48, 49, 126] : (List Int))) (A1 := some ⟨b37, 0, none⟩) (c1 := 6) C43) rfl ?_)))
                rintro _ _ ⟨A40, c41, rfl, rfl⟩
                refine RA_step rfl (OA_v (v := .slice A40 r39.length c41) rfl (V_assign rfl) ?_)
                refine RA_step rfl (OA_v (v := .int .i64 0) rfl (V_assign rfl) ?_)
                refine RA_nil ?_
                refine at_normal ?_
                refine SA_ret ?_
                refine inb_ret ?_
                refine thn_ret ?_
                have hr_ := Option.some.inj H
                subst hr_
                exact BQ_R2 [Buf (Kd.int .u8) 5 A40 c41 r39] rfl rfl rfl (Gh.sel [0] rfl rfl) ⟨A40, c41, rfl, rfl⟩
              · replace H := g_iff h26 H
                refine SA_condFb rfl h26 ?_
                refine SA_seq ?_
                refine SA_region ?_
                refine RA_step rfl (OA_v (v := .pointer (some ⟨b2, 0, none⟩)) rfl (V_fieldAddrN (B := ⟨b2, 0, none⟩) (m := 0) (o := 0) Try.underlying25 rfl nz22 rfl rfl) ?_)
                refine RA_step rfl (OA_r rfl (VR_load_blk (b := b2) (m := 0) (k := 0) Try.underlying22 rfl rfl rfl rfl) ?_)
                refine RA_step rfl (OA_v (v := .bool (decide (a0.f0 = 3))) rfl (V_eql rfl rfl) ?_)
                refine RA_step rfl (OA_v (v := .bool (decide (a0.f0 = 3))) rfl (V_assign rfl) ?_)
                refine RA_nil ?_
                refine at_normal ?_
                by_cases h46 : a0.f0 = 3
                · replace H := g_ift h46 H
                  refine SA_condT rfl h46 ?_
                  refine SA_seq ?_
                  refine SA_region ?_
                  refine RA_step rfl (OA_v (v := .pointer (some ((⟨b2, 0, none⟩ : Addr).add 1))) rfl (V_fieldAddrN (B := ⟨b2, 0, none⟩) (m := 0) (o := 1) Try.underlying25 rfl nz23 rfl rfl) ?_)
                  refine RA_step rfl (OA_r rfl (VR_load_blk (b := b2) (m := 1) (k := 0) Try.underlying23 rfl rfl rfl rfl) ?_)
                  obtain ⟨r47, C51, H⟩ := g_bind H
                  refine RA_step rfl (OA_callA [1] [0, 1] rfl (X_fn (vs := [.slice A0_0 a0.f1.length c0_0]) Try.func17 nm17 rfl rfl) rfl (F17.ok (l0 := a0.f1) (A0 := A0_0) (c0 := c0_0) C51) rfl ?_)
                  rintro _ _ ⟨A48, c49, rfl, rfl⟩
                  refine RA_step rfl (OA_v (v := .slice A48 r47.length c49) rfl (V_assign rfl) ?_)
                  refine RA_step rfl (OA_v (v := .int .i64 0) rfl (V_assign rfl) ?_)
                  refine RA_nil ?_
                  refine at_normal ?_
                  refine SA_ret ?_
                  refine inb_ret ?_
                  refine thn_ret ?_
                  have hr_ := Option.some.inj H
                  subst hr_
                  exact BQ_R2 [Buf (Kd.int .u8) 5 A48 c49 r47] rfl rfl rfl (Gh.sel [0] rfl rfl) ⟨A48, c49, rfl, rfl⟩
                · replace H := g_iff h46 H
                  refine SA_condF rfl h46 ?_
                  refine SA_skip ?_
                  refine inb_normal ?_
                  refine at_normal ?_
                  refine SA_seq ?_
                  refine SA_region ?_
                  refine RA_step rfl (OA_v (v := .slice none 0 0) rfl (V_assign rfl) ?_)
                  refine RA_step rfl (OA_v (v := .int .i64 0) rfl (V_assign rfl) ?_)
                  refine RA_nil ?_
                  refine at_normal ?_
                  refine SA_ret ?_
                  have hr_ := Option.some.inj H
                  subst hr_
                  exact BQ_R2 [Buf (Kd.int .u8) 5 none 0 ([] : (List Int))] rfl rfl rfl ((Gh.nilBuf (Kd.int .u8) 5).trans (Gh.sel [2] rfl rfl)) ⟨none, 0, rfl, rfl⟩

/-! ### function 34: wayfarer/keys.All -/
def F34.l0 (a0 : S83) (l1 : (List S25)) : Nat → (List Int) → Int → Option (Out ((List Int) × Int) ((List Int)))
  | 0, _, _ => none
  | k + 1, x6_15, x16_15 => if x16_15 < (l1.length : Int) then (if 0 ≤ x16_15 ∧ x16_15 < (l1.length : Int) then ((F14.f k (rd l1 x16_15) a0.f11 a0.f12).bind (fun r30 => if r30.2 ≠ 0 then (some (Out.ret ((([] : (List Int)), r30.2)))) else ((F58.f x6_15 r30.1).bind (fun r36 => F34.l0 a0 l1 k r36 (IntKind.i64.wrap (x16_15 + 1)))))) else none) else (some (Out.go x6_15))
def F34.f (k : Nat) (a0 : S83) (l1 : (List S25)) : Option ((List Int) × Int) := (F74.f k a0).bind (fun r8 => if (!r8) = true then (some ((([] : (List Int)), 2))) else ((F34.l0 a0 l1 k ([]) 0 : Option (Out ((List Int) × Int) ((List Int)))).bind (fun t11 => Out.el t11 (fun r_ => some r_) (fun s12 => some ((s12, 0))))))
set_option maxHeartbeats 2000000 in
set_option maxRecDepth 100000 in
theorem F34.ok {k : Nat} {a0 : S83} {l1 : (List S25)} {A0_0 : Option Addr} {c0_0 : Nat} {A0_1 : Option Addr} {c0_1 : Nat} {A0_2 : Option Addr} {c0_2 : Nat} {A0_3 : Option Addr} {c0_3 : Nat} {A1 : Option Addr} {c1 : Nat} {r : (List Int) × Int} (H : F34.f k a0 l1 = some r) : SCA Try.prog 34 #[.agg (List.toArray (.int .i64 a0.f0.f0 :: .int .i64 a0.f0.f1 :: .slice A0_0 a0.f0.f2.length c0_0 :: .int .i64 a0.f1 :: .int .i64 a0.f2 :: .bool a0.f3 :: .int .i64 a0.f4.f0 :: .int .i64 a0.f4.f1 :: .bool a0.f4.f2 :: .bool a0.f4.f3 :: .bool a0.f4.f4 :: .bool a0.f4.f5 :: .bool a0.f4.f6 :: .bool a0.f4.f7 :: .bool a0.f4.f8 :: .bool a0.f4.f9 :: .int .i64 a0.f5 :: .int .i64 a0.f6 :: .slice A0_1 a0.f7.length c0_1 :: .bool a0.f8 :: .bool a0.f9 :: .bool a0.f10 :: .bool a0.f11 :: .bool a0.f12 :: .bool a0.f13 :: .int .i64 a0.f14.f0 :: .int .i64 a0.f14.f1 :: .bool a0.f14.f2 :: .bool a0.f14.f3 :: .int .i64 a0.f14.f4.f0 :: .int .i64 a0.f14.f4.f1 :: .bool a0.f14.f4.f2 :: .bool a0.f14.f4.f3 :: .bool a0.f14.f4.f4 :: .bool a0.f14.f4.f5 :: .bool a0.f14.f4.f6 :: .bool a0.f14.f4.f7 :: .bool a0.f14.f4.f8 :: .bool a0.f14.f4.f9 :: .bool a0.f15 :: .int .i64 a0.f16.f0 :: .int .i64 a0.f16.f1 :: .slice A0_2 a0.f16.f2.length c0_2 :: .slice A0_3 a0.f17.length c0_3 :: [])), .slice A1 l1.length c1] [Ro k76 A0_0 c0_0 a0.f0.f2, Ro (Kd.int .i64) A0_1 c0_1 a0.f7, Ro k76 A0_2 c0_2 a0.f16.f2, Ro (Kd.int .i32) A0_3 c0_3 a0.f17, Ro k25 A1 c1 l1] (fun v B => ∃ (A0_0_ : Option Addr) (c0_0_ : Nat), v = .tuple #[.slice A0_0_ r.1.length c0_0_, .int .i64 r.2] ∧ B = [Buf (Kd.int .u8) 5 A0_0_ c0_0_ r.1]) := by
  refine SCA_of_body Try.func34 rfl rfl ?_
  unfold F34.f at H
  refine SA_seq ?_
  refine SA_region ?_
  refine RA_step rfl (OA_box rfl rfl fun b6 => ?_)
  refine RA_step rfl (OA_v (v := .slice none 0 0) rfl (V_assign rfl) ?_)
  refine RA_step rfl (OA_v (v := .int .i64 0) rfl (V_assign rfl) ?_)
  refine RA_nil ?_
  refine at_normal ?_
  refine SA_seq ?_
  refine SA_seq ?_
  refine SA_region ?_
  refine RA_step rfl (OA_r rfl (VR_loadA_blk (b := b6) (m := 0) (k := 5) (vs := (.int .i64 a0.f0.f0 :: .int .i64 a0.f0.f1 :: .slice A0_0 a0.f0.f2.length c0_0 :: .int .i64 a0.f1 :: .int .i64 a0.f2 :: .bool a0.f3 :: .int .i64 a0.f4.f0 :: .int .i64 a0.f4.f1 :: .bool a0.f4.f2 :: .bool a0.f4.f3 :: .bool a0.f4.f4 :: .bool a0.f4.f5 :: .bool a0.f4.f6 :: .bool a0.f4.f7 :: .bool a0.f4.f8 :: .bool a0.f4.f9 :: .int .i64 a0.f5 :: .int .i64 a0.f6 :: .slice A0_1 a0.f7.length c0_1 :: .bool a0.f8 :: .bool a0.f9 :: .bool a0.f10 :: .bool a0.f11 :: .bool a0.f12 :: .bool a0.f13 :: .int .i64 a0.f14.f0 :: .int .i64 a0.f14.f1 :: .bool a0.f14.f2 :: .bool a0.f14.f3 :: .int .i64 a0.f14.f4.f0 :: .int .i64 a0.f14.f4.f1 :: .bool a0.f14.f4.f2 :: .bool a0.f14.f4.f3 :: .bool a0.f14.f4.f4 :: .bool a0.f14.f4.f5 :: .bool a0.f14.f4.f6 :: .bool a0.f14.f4.f7 :: .bool a0.f14.f4.f8 :: .bool a0.f14.f4.f9 :: .bool a0.f15 :: .int .i64 a0.f16.f0 :: .int .i64 a0.f16.f1 :: .slice A0_2 a0.f16.f2.length c0_2 :: .slice A0_3 a0.f17.length c0_3 :: [])) Try.underlying83 rfl sz83 rfl rfl rfl) ?_)
  obtain ⟨r8, C43, H⟩ := g_bind H
  refine RA_step rfl (OA_callA [0, 1, 2, 3] [0, 1, 2, 3, 4, 5] rfl (X_fn (vs := [.agg (List.toArray (.int .i64 a0.f0.f0 :: .int .i64 a0.f0.f1 :: .slice A0_0 a0.f0.f2.length c0_0 :: .int .i64 a0.f1 :: .int .i64 a0.f2 :: .bool a0.f3 :: .int .i64 a0.f4.f0 :: .int .i64 a0.f4.f1 :: .bool a0.f4.f2 :: .bool a0.f4.f3 :: .bool a0.f4.f4 :: .bool a0.f4.f5 :: .bool a0.f4.f6 :: .bool a0.f4.f7 :: .bool a0.f4.f8 :: .bool a0.f4.f9 :: .int .i64 a0.f5 :: .int .i64 a0.f6 :: .slice A0_1 a0.f7.length c0_1 :: .bool a0.f8 :: .bool a0.f9 :: .bool a0.f10 :: .bool a0.f11 :: .bool a0.f12 :: .bool a0.f13 :: .int .i64 a0.f14.f0 :: .int .i64 a0.f14.f1 :: .bool a0.f14.f2 :: .bool a0.f14.f3 :: .int .i64 a0.f14.f4.f0 :: .int .i64 a0.f14.f4.f1 :: .bool a0.f14.f4.f2 :: .bool a0.f14.f4.f3 :: .bool a0.f14.f4.f4 :: .bool a0.f14.f4.f5 :: .bool a0.f14.f4.f6 :: .bool a0.f14.f4.f7 :: .bool a0.f14.f4.f8 :: .bool a0.f14.f4.f9 :: .bool a0.f15 :: .int .i64 a0.f16.f0 :: .int .i64 a0.f16.f1 :: .slice A0_2 a0.f16.f2.length c0_2 :: .slice A0_3 a0.f17.length c0_3 :: []))]) Try.func74 nm74 rfl rfl) rfl (F74.ok (a0 := a0) (A0_0 := A0_0) (c0_0 := c0_0) (A0_1 := A0_1) (c0_1 := c0_1) (A0_2 := A0_2) (c0_2 := c0_2) (A0_3 := A0_3) (c0_3 := c0_3) C43) rfl ?_)
  rintro _ _ ⟨rfl, rfl⟩
  refine RA_step rfl (OA_v (v := .bool (!r8)) rfl (V_not rfl) ?_)
  refine RA_nil ?_
  refine at_normal ?_
  by_cases h9 : (!r8) = true
  · replace H := g_ift h9 H
    refine SA_condTb rfl h9 ?_
    refine SA_seq ?_
    refine SA_region ?_
    refine RA_step rfl (OA_v (v := .slice none 0 0) rfl (V_assign rfl) ?_)
    refine RA_step rfl (OA_v (v := .int .i64 2) rfl (V_assign rfl) ?_)
    refine RA_nil ?_
    refine at_normal ?_
    refine SA_ret ?_
    refine thn_ret ?_
    have hr_ := Option.some.inj H
    subst hr_
    exact BQ_R2 [Buf (Kd.int .u8) 5 none 0 ([] : (List Int))] rfl rfl rfl ((Gh.nilBuf (Kd.int .u8) 5).trans (Gh.sel [6] rfl rfl)) ⟨none, 0, rfl, rfl⟩
  · replace H := g_iff h9 H
    refine SA_condFb rfl h9 ?_
    refine SA_skip ?_
    refine at_normal ?_
    refine SA_seq ?_
    refine SA_region ?_
    refine RA_step rfl (OA_v (v := .slice none 0 0) rfl (V_assign rfl) ?_)
    refine RA_nil ?_
    refine at_normal ?_
    refine SA_seq ?_
    refine SA_seq ?_
    refine SA_region ?_
    refine RA_step rfl (OA_v (v := .slice A1 l1.length c1) rfl (V_move rfl) ?_)
    refine RA_step rfl (OA_v (v := .int .i64 (l1.length : Int)) rfl (V_len Try.underlying84 rfl) ?_)
    refine RA_step rfl (OA_v (v := .int .i64 0) rfl (V_move rfl) ?_)
    refine RA_nil ?_
    refine at_normal ?_
    obtain ⟨t11, H, Bt11⟩ := g_bind H
    refine SA_mid (fun e ds As => ∃ (s12 : (List Int)), t11 = Out.go s12 ∧ ∃ (A13 : Option Addr) (c14 : Nat), St [(6, .slice A13 s12.length c14)] [Buf (Kd.int .u8) 5 A13 c14 s12] e ds As) ?_ ?_
    · refine SA_block ?_
      refine SA_loop (fun k_ e ds As => ∃ (x6_15 : (List Int)) (x16_15 : Int), ∃ (A16 : Option Addr) (c17 : Nat), F34.l0 a0 l1 k_ x6_15 x16_15 = some t11 ∧ St [(2, .pointer (some ⟨b6, 0, none⟩)), (6, .slice A16 x6_15.length c17), (14, .slice A1 l1.length c1), (15, .int .i64 (l1.length : Int)), (16, .int .i64 x16_15)] [Blk b6 83 (.int .i64 a0.f0.f0 :: .int .i64 a0.f0.f1 :: .slice A0_0 a0.f0.f2.length c0_0 :: .int .i64 a0.f1 :: .int .i64 a0.f2 :: .bool a0.f3 :: .int .i64 a0.f4.f0 :: .int .i64 a0.f4.f1 :: .bool a0.f4.f2 :: .bool a0.f4.f3 :: .bool a0.f4.f4 :: .bool a0.f4.f5 :: .bool a0.f4.f6 :: .bool a0.f4.f7 :: .bool a0.f4.f8 :: .bool a0.f4.f9 :: .int .i64 a0.f5 :: .int .i64 a0.f6 :: .slice A0_1 a0.f7.length c0_1 :: .bool a0.f8 :: .bool a0.f9 :: .bool a0.f10 :: .bool a0.f11 :: .bool a0.f12 :: .bool a0.f13 :: .int .i64 a0.f14.f0 :: .int .i64 a0.f14.f1 :: .bool a0.f14.f2 :: .bool a0.f14.f3 :: .int .i64 a0.f14.f4.f0 :: .int .i64 a0.f14.f4.f1 :: .bool a0.f14.f4.f2 :: .bool a0.f14.f4.f3 :: .bool a0.f14.f4.f4 :: .bool a0.f14.f4.f5 :: .bool a0.f14.f4.f6 :: .bool a0.f14.f4.f7 :: .bool a0.f14.f4.f8 :: .bool a0.f14.f4.f9 :: .bool a0.f15 :: .int .i64 a0.f16.f0 :: .int .i64 a0.f16.f1 :: .slice A0_2 a0.f16.f2.length c0_2 :: .slice A0_3 a0.f17.length c0_3 :: []), Ro k76 A0_0 c0_0 a0.f0.f2, Ro (Kd.int .i64) A0_1 c0_1 a0.f7, Ro k76 A0_2 c0_2 a0.f16.f2, Ro (Kd.int .i32) A0_3 c0_3 a0.f17, Buf (Kd.int .u8) 5 A16 c17 x6_15, Ro k25 A1 c1 l1] e ds As) (k := k) ⟨_, _, none, 0, H, St.mk1 (aeq rfl (aeq rfl (aeq rfl (aeq rfl (aeq rfl aeq0))))) ((Gh.nilBuf (Kd.int .u8) 5).trans (Gh.sel [5, 0, 1, 2, 3, 6, 4] rfl rfl))⟩ ?_
      clear H
      rintro k20 e ds As ⟨x6_15, x16_15, A16, c17, H, hst21⟩
      obtain _ | k20 := k20
      · cases H
      rw [F34.l0] at H
      refine SA.of_St hst21 fun junk => ?_
      refine SA_seq ?_
      refine SA_region ?_
      refine RA_step rfl (OA_v (v := .bool (decide (x16_15 < (l1.length : Int)))) rfl (V_lss rfl rfl) ?_)
      refine RA_nil ?_
      refine at_normal ?_
      refine SA_seq ?_
      by_cases h22 : x16_15 < (l1.length : Int)
      · replace H := g_ift h22 H
        refine SA_condT rfl h22 ?_
        refine SA_skip ?_
        refine at_normal ?_
        refine SA_seq ?_
        refine SA_block ?_
        refine SA_seq ?_
        refine SA_region ?_
        obtain ⟨⟨g23, g24⟩, H⟩ := g_pos H
        refine RA_step rfl (OA_r rfl (VR_index (i := x16_15) Try.underlying84 sz25 rfl rfl (Src.ro (k := 6) rfl) g23 g24) ?_)
        refine RA_step rfl (OA_loadSlA (i := x16_15) (j := x16_15.toNat * 5) (m := 0) (sz := 5) (k := 5) (fun vs_ Bs_ => ∃ (A25 : Option Addr) (c26 : Nat), vs_ = [.int .u8 ((rd l1 x16_15).f0), .slice A25 ((rd l1 x16_15).f1).length c26, .int .i64 ((rd l1 x16_15).f2), .int .i64 ((rd l1 x16_15).f3), .int .u8 ((rd l1 x16_15).f4)] ∧ Bs_ = [Ro (Kd.int .u8) A25 c26 ((rd l1 x16_15).f1)]) rfl Try.underlying25 rfl sz25 rfl rfl rfl (Src.ro (k := 6) rfl) g23 g24 (fun _ _ ⟨_, ⟨A25, c26, e_, eb_⟩, hp_⟩ => ⟨_, ⟨A25, c26, by subst e_; rfl, rfl⟩, fun B_ hB_ => hp_ B_ (by subst eb_; first | exact hB_ | (simp only [List.mem_cons, List.not_mem_nil, or_false] at hB_ ⊢; first | exact hB_ | simp [hB_]))⟩) (fun _ _ ⟨_, _, e_, _⟩ => by subst e_; rfl) ?_)
        rintro _ _ ⟨A25, c26, rfl, rfl⟩
        refine RA_step rfl (OA_alloc rfl zero25 fun b28 => ?_)
        refine RA_step rfl (OA_st (b := b28) (m := 0) (k := 8) (vs := [.int .u8 ((rd l1 x16_15).f0), .slice A25 ((rd l1 x16_15).f1).length c26, .int .i64 ((rd l1 x16_15).f2), .int .i64 ((rd l1 x16_15).f3), .int .u8 ((rd l1 x16_15).f4)]) (cs' := [.int .u8 ((rd l1 x16_15).f0), .slice A25 ((rd l1 x16_15).f1).length c26, .int .i64 ((rd l1 x16_15).f2), .int .i64 ((rd l1 x16_15).f3), .int .u8 ((rd l1 x16_15).f4)]) rfl rfl rfl rfl rfl rfl sz25 rfl rfl ?_)
        refine RA_nil ?_
        refine at_normal ?_
        refine SA_seq ?_
        refine SA_region ?_
        refine RA_step rfl (OA_r rfl (VR_loadA_blk (b := b28) (m := 0) (k := 8) (vs := [.int .u8 ((rd l1 x16_15).f0), .slice A25 ((rd l1 x16_15).f1).length c26, .int .i64 ((rd l1 x16_15).f2), .int .i64 ((rd l1 x16_15).f3), .int .u8 ((rd l1 x16_15).f4)]) Try.underlying25 rfl sz25 rfl rfl rfl) ?_)
        refine RA_step rfl (OA_v (v := .pointer (some ((⟨b6, 0, none⟩ : Addr).add 22))) rfl (V_fieldAddrN (B := ⟨b6, 0, none⟩) (m := 0) (o := 22) Try.underlying83 rfl nz4 rfl rfl) ?_)
        refine RA_step rfl (OA_r rfl (VR_load_blk (b := b6) (m := 22) (k := 0) Try.underlying4 rfl rfl rfl rfl) ?_)
        refine RA_step rfl (OA_v (v := .pointer (some ((⟨b6, 0, none⟩ : Addr).add 23))) rfl (V_fieldAddrN (B := ⟨b6, 0, none⟩) (m := 0) (o := 23) Try.underlying83 rfl nz4 rfl rfl) ?_)
        refine RA_step rfl (OA_r rfl (VR_load_blk (b := b6) (m := 23) (k := 0) Try.underlying4 rfl rfl rfl rfl) ?_)
        obtain ⟨r30, C41, H⟩ := g_bind H
        refine RA_step rfl (OA_callA [7] [0, 1, 2, 3, 4, 5, 6, 7, 8] rfl (X_fn (vs := [.agg #[.int .u8 ((rd l1 x16_15).f0), .slice A25 ((rd l1 x16_15).f1).length c26, .int .i64 ((rd l1 x16_15).f2), .int .i64 ((rd l1 x16_15).f3), .int .u8 ((rd l1 x16_15).f4)], .bool a0.f11, .bool a0.f12]) Try.func14 nm14 rfl rfl) rfl (F14.ok (a0 := (rd l1 x16_15)) (A0_0 := A25) (c0_0 := c26) (a1 := a0.f11) (a2 := a0.f12) C41) rfl ?_)
        rintro _ _ ⟨A31, c32, rfl, rfl⟩
        refine RA_step rfl (OA_v (v := .tuple #[.slice A31 r30.1.length c32, .int .i64 r30.2]) rfl (V_move rfl) ?_)
        refine RA_step rfl (OA_v (v := .slice A31 r30.1.length c32) rfl (V_extract rfl rfl) ?_)
        refine RA_step rfl (OA_v (v := .int .i64 r30.2) rfl (V_extract rfl rfl) ?_)
        refine RA_step rfl (OA_v (v := .slice A31 r30.1.length c32) rfl (V_assign rfl) ?_)
        refine RA_step rfl (OA_v (v := .int .i64 r30.2) rfl (V_assign rfl) ?_)
        refine RA_nil ?_
        refine at_normal ?_
        refine SA_seq ?_
        refine SA_seq ?_
        refine SA_region ?_
        refine RA_step rfl (OA_v (v := .int .i64 r30.2) rfl (V_move rfl) ?_)
        refine RA_step rfl (OA_v (v := .bool (decide (r30.2 ≠ 0))) rfl (V_neq rfl rfl) ?_)
        refine RA_nil ?_
        refine at_normal ?_
        by_cases h34 : r30.2 ≠ 0
        · replace H := g_ift h34 H
          refine SA_condT rfl h34 ?_
          refine SA_seq ?_
          refine SA_region ?_
          refine RA_step rfl (OA_v (v := .int .i64 r30.2) rfl (V_move rfl) ?_)
          refine RA_step rfl (OA_v (v := .slice none 0 0) rfl (V_assign rfl) ?_)
          refine RA_step rfl (OA_v (v := .int .i64 r30.2) rfl (V_assign rfl) ?_)
          refine RA_nil ?_
          refine at_normal ?_
          refine SA_ret ?_
          refine thn_ret ?_
          refine inb_ret ?_
          refine thn_ret ?_
          refine thn_ret ?_
          refine inb_ret ?_
          refine thn_ret ?_
          refine thn_ret ?_
          have hr_ := Option.some.inj H
          subst hr_
          have hb_ := el_ret Bt11
          have hr_ := Option.some.inj hb_
          clear hb_
          subst hr_
          exact BQ_R2 [Buf (Kd.int .u8) 5 none 0 ([] : (List Int))] rfl rfl rfl ((Gh.nilBuf (Kd.int .u8) 5).trans (Gh.sel [10] rfl rfl)) ⟨none, 0, rfl, rfl⟩
        · replace H := g_iff h34 H
          refine SA_condF rfl h34 ?_
          refine SA_skip ?_
          refine at_normal ?_
          refine SA_region ?_
          refine RA_step rfl (OA_v (v := .slice A16 x6_15.length c17) rfl (V_move rfl) ?_)
          refine RA_step rfl (OA_v (v := .slice A31 r30.1.length c32) rfl (V_move rfl) ?_)
          obtain ⟨r36, C40, H⟩ := g_bind H
          refine RA_step rfl (OA.ghost (Gh.freeze (k := 6) rfl) (OA.ghost (Gh.freeze (k := 0) rfl) (OA_callA [6, 0] [0, 1, 2, 3, 4, 5, 6, 7, 8, 9] rfl (X_fn (vs := [.slice A16 x6_15.length c17, .slice A31 r30.1.length c32]) Try.func58 nm58 rfl rfl) rfl (F58.ok (l0 := x6_15) (A0 := A16) (c0 := c17) (l1 := r30.1) (A1 := A31) (c1 := c32) C40) rfl ?_)))
          rintro _ _ ⟨A37, c38, rfl, rfl⟩
          refine RA_step rfl (OA_v (v := .slice A37 r36.length c38) rfl (V_assign rfl) ?_)
          refine RA_nil ?_
          refine inb_normal ?_
          refine at_normal ?_
          refine SA_region ?_
          refine RA_step rfl (OA_v (v := .int .i64 (IntKind.i64.wrap (x16_15 + 1))) rfl (V_add rfl rfl) ?_)
          refine RA_step rfl (OA_v (v := .int .i64 (IntKind.i64.wrap (x16_15 + 1))) rfl (V_move rfl) ?_)
          refine RA_nil ?_
          exact at_normal ⟨k20, Nat.lt_succ_self _, _, _, A37, c38, H, St.mk1 (aeq rfl (aeq rfl (aeq rfl (aeq rfl (aeq rfl aeq0))))) (Gh.sel [2, 3, 4, 5, 6, 0, 8] rfl rfl)⟩
      · replace H := g_iff h22 H
        refine SA_condF rfl h22 ?_
        refine SA_exit ?_
        refine thn_exit ?_
        refine thn_exit ?_
        refine inb_hit ?_
        have hr_ := Option.some.inj H
        subst hr_
        exact at_normal ⟨x6_15, rfl, A16, c17, St.mk1 (aeq rfl aeq0) (Gh.sel [5] rfl rfl)⟩
    · rintro e ds As ⟨s12, ht, A13, c14, hst42⟩
      clear H
      subst ht
      replace Bt11 := el_go Bt11
      have H := Bt11
      clear Bt11
      refine at_normal ?_
      refine SA.of_St hst42 fun junk => ?_
      refine SA_seq ?_
      refine SA_region ?_
      refine RA_step rfl (OA_v (v := .slice A13 s12.length c14) rfl (V_move rfl) ?_)
      refine RA_step rfl (OA_v (v := .slice A13 s12.length c14) rfl (V_assign rfl) ?_)
      refine RA_step rfl (OA_v (v := .int .i64 0) rfl (V_assign rfl) ?_)
      refine RA_nil ?_
      refine at_normal ?_
      refine SA_ret ?_
      have hr_ := Option.some.inj H
      subst hr_
      exact BQ_R2 [Buf (Kd.int .u8) 5 A13 c14 s12] rfl rfl rfl (Gh.sel [0] rfl rfl) ⟨A13, c14, rfl, rfl⟩

/-! ### function 67: wayfarer/wayfarerref15.side -/
def F67.f (a0 : Int) : Option (Bool) := lt ((decide (a0 ≥ 1)) && (decide (a0 ≤ 512))) fun q1 => some (q1)
set_option maxHeartbeats 2000000 in
set_option maxRecDepth 100000 in
theorem F67.ok {a0 : Int} {r : Bool} (H : F67.f a0 = some r) : SCA Try.prog 67 #[.int .i64 a0] [] (fun v B => v = .bool r ∧ B = []) := by
  refine SCA_of_body Try.func67 rfl rfl ?_
  unfold F67.f at H
  refine SA_seq ?_
  refine SA_region ?_
  refine RA_step rfl (OA_v (v := .bool false) rfl (V_assign rfl) ?_)
  refine RA_nil ?_
  refine at_normal ?_
  refine SA_seq ?_
  refine SA_region ?_
  refine RA_step rfl (OA_v (v := .int .i64 a0) rfl (V_move rfl) ?_)
  refine RA_step rfl (OA_v (v := .bool (decide (a0 ≥ 1))) rfl (V_geq rfl rfl) ?_)
  refine RA_step rfl (OA_v (v := .bool (decide (a0 ≥ 1))) rfl (V_move rfl) ?_)
  obtain ⟨q1, hq1, H⟩ := g_lt H
  refine RA_cut 3 (fun e ds As => St [(8, .bool q1)] [] e ds As) ?_ ?_
  · by_cases h2 : a0 ≥ 1
    · refine RA_yesB rfl rfl rfl rfl (dec_t h2) (OA_v (v := .int .i64 a0) rfl (V_move rfl) ?_)
      refine RA_yesB rfl rfl rfl rfl (dec_t h2) (OA_v (v := .bool (decide (a0 ≤ 512))) rfl (V_leq rfl rfl) ?_)
      refine RA_step rfl (OA_v rfl (V_pickT rfl (dec_t h2) rfl) ?_)
      refine RA_nil ?_
      exact at_normal (St.mk1 (aeq (congrArg Value.bool (and_t hq1 (dec_t h2))) aeq0) (Gh.sel [] rfl rfl))
    · refine RA_noB rfl rfl rfl rfl (dec_f h2) rfl ?_
      refine RA_noB rfl rfl rfl rfl (dec_f h2) rfl ?_
      refine RA_step rfl (OA_v rfl (V_pickF rfl (dec_f h2) rfl) ?_)
      refine RA_nil ?_
      exact at_normal (St.mk1 (aeq (congrArg Value.bool (and_f hq1 (dec_f h2))) aeq0) (Gh.sel [] rfl rfl))
  · rintro e ds As hst3
    refine RA.of_St rfl hst3 fun junk => ?_
    refine RA_step rfl (OA_v (v := .bool q1) rfl (V_assign rfl) ?_)
    refine RA_nil ?_
    refine at_normal ?_
    refine SA_ret ?_
    have hr_ := Option.some.inj H
    subst hr_
    exact BQ_R1 [] rfl rfl (Gh.sel [] rfl rfl) ⟨rfl, rfl⟩

/-! ### function 113: wayfarer/wayfarerref14.colour -/
def F113.f (a0 : Int) : Option (Bool) := lt ((decide (a0 ≥ (-1))) && (decide (a0 ≤ 255))) fun q1 => some (q1)
set_option maxHeartbeats 2000000 in
set_option maxRecDepth 100000 in
theorem F113.ok {a0 : Int} {r : Bool} (H : F113.f a0 = some r) : SCA Try.prog 113 #[.int .i64 a0] [] (fun v B => v = .bool r ∧ B = []) := by
  refine SCA_of_body Try.func113 rfl rfl ?_
  unfold F113.f at H
  refine SA_seq ?_
  refine SA_region ?_
  refine RA_step rfl (OA_v (v := .bool false) rfl (V_assign rfl) ?_)
  refine RA_nil ?_
  refine at_normal ?_
  refine SA_seq ?_
  refine SA_region ?_
  refine RA_step rfl (OA_v (v := .int .i64 a0) rfl (V_move rfl) ?_)
  refine RA_step rfl (OA_v (v := .bool (decide (a0 ≥ (-1)))) rfl (V_geq rfl rfl) ?_)
  refine RA_step rfl (OA_v (v := .bool (decide (a0 ≥ (-1)))) rfl (V_move rfl) ?_)
  obtain ⟨q1, hq1, H⟩ := g_lt H
  refine RA_cut 3 (fun e ds As => St [(8, .bool q1)] [] e ds As) ?_ ?_
  · by_cases h2 : a0 ≥ (-1)
    · refine RA_yesB rfl rfl rfl rfl (dec_t h2) (OA_v (v := .int .i64 a0) rfl (V_move rfl) ?_)
      refine RA_yesB rfl rfl rfl rfl (dec_t h2) (OA_v (v := .bool (decide (a0 ≤ 255))) rfl (V_leq rfl rfl) ?_)
      refine RA_step rfl (OA_v rfl (V_pickT rfl (dec_t h2) rfl) ?_)
      refine RA_nil ?_
      exact at_normal (St.mk1 (aeq (congrArg Value.bool (and_t hq1 (dec_t h2))) aeq0) (Gh.sel [] rfl rfl))
    · refine RA_noB rfl rfl rfl rfl (dec_f h2) rfl ?_
      refine RA_noB rfl rfl rfl rfl (dec_f h2) rfl ?_
      refine RA_step rfl (OA_v rfl (V_pickF rfl (dec_f h2) rfl) ?_)
      refine RA_nil ?_
      exact at_normal (St.mk1 (aeq (congrArg Value.bool (and_f hq1 (dec_f h2))) aeq0) (Gh.sel [] rfl rfl))
  · rintro e ds As hst3
    refine RA.of_St rfl hst3 fun junk => ?_
    refine RA_step rfl (OA_v (v := .bool q1) rfl (V_assign rfl) ?_)
    refine RA_nil ?_
    refine at_normal ?_
    refine SA_ret ?_
    have hr_ := Option.some.inj H
    subst hr_
    exact BQ_R1 [] rfl rfl (Gh.sel [] rfl rfl) ⟨rfl, rfl⟩

/-! ### function 89: wayfarer/wayfarerref14.MayStyle -/
def F89.f (a0 : S70) : Option (Bool) := (F113.f a0.f0).bind (fun r3 => (if r3 = true then ((F113.f a0.f1).bind (fun r6 => some r6)) else (some false) : Option Bool).bind (fun q4 => some (q4)))
set_option maxHeartbeats 2000000 in
set_option maxRecDepth 100000 in
theorem F89.ok {a0 : S70} {r : Bool} (H : F89.f a0 = some r) : SCA Try.prog 89 #[.agg #[.int .i64 a0.f0, .int .i64 a0.f1, .bool a0.f2, .bool a0.f3, .bool a0.f4, .bool a0.f5, .bool a0.f6, .bool a0.f7, .bool a0.f8, .bool a0.f9]] [] (fun v B => v = .bool r ∧ B = []) := by
  refine SCA_of_body Try.func89 rfl rfl ?_
  unfold F89.f at H
  refine SA_seq ?_
  refine SA_region ?_
  refine RA_step rfl (OA_box rfl rfl fun b1 => ?_)
  refine RA_step rfl (OA_v (v := .bool false) rfl (V_assign rfl) ?_)
  refine RA_nil ?_
  refine at_normal ?_
  refine SA_seq ?_
  refine SA_region ?_
  refine RA_step rfl (OA_v (v := .pointer (some ⟨b1, 0, none⟩)) rfl (V_fieldAddrN (B := ⟨b1, 0, none⟩) (m := 0) (o := 0) Try.underlying70 rfl nz3 rfl rfl) ?_)
  refine RA_step rfl (OA_r rfl (VR_load_blk (b := b1) (m := 0) (k := 0) Try.underlying3 rfl rfl rfl rfl) ?_)
  obtain ⟨r3, C9, H⟩ := g_bind H
  refine RA_step rfl (OA_callA [] [0] rfl (X_fn (vs := [.int .i64 a0.f0]) Try.func113 nm113 rfl rfl) rfl (F113.ok (a0 := a0.f0) C9) rfl ?_)
  rintro _ _ ⟨rfl, rfl⟩
  refine RA_step rfl (OA_v (v := .bool r3) rfl (V_move rfl) ?_)
  obtain ⟨q4, H, Bq4⟩ := g_bind H
  refine RA_cut 4 (fun e ds As => St [(10, .bool q4)] [] e ds As) ?_ ?_
  · by_cases h5 : r3 = true
    · replace H := g_ift h5 H
      refine RA_yesB rfl rfl rfl rfl (h5) (OA_v (v := .pointer (some ((⟨b1, 0, none⟩ : Addr).add 1))) rfl (V_fieldAddrN (B := ⟨b1, 0, none⟩) (m := 0) (o := 1) Try.underlying70 rfl nz3 rfl rfl) ?_)
      refine RA_yesB rfl rfl rfl rfl (h5) (OA_r rfl (VR_load_blk (b := b1) (m := 1) (k := 0) Try.underlying3 rfl rfl rfl rfl) ?_)
      obtain ⟨r6, C7, H⟩ := g_bind H
      refine RA_yesB rfl rfl rfl rfl (h5) (OA_callA [] [0] rfl (X_fn (vs := [.int .i64 a0.f1]) Try.func113 nm113 rfl rfl) rfl (F113.ok (a0 := a0.f1) C7) rfl ?_)
      rintro _ _ ⟨rfl, rfl⟩
      refine RA_step rfl (OA_v rfl (V_pickT rfl (h5) rfl) ?_)
      have hr_ := Option.some.inj H
      subst hr_
      refine RA_nil ?_
      exact at_normal (St.mk1 (aeq rfl aeq0) (Gh.sel [] rfl rfl))
    · replace H := g_iff h5 H
      refine RA_noB rfl rfl rfl rfl (bno h5) rfl ?_
      refine RA_noB rfl rfl rfl rfl (bno h5) rfl ?_
      refine RA_noB rfl rfl rfl rfl (bno h5) rfl ?_
      refine RA_step rfl (OA_v rfl (V_pickF rfl (bno h5) rfl) ?_)
      have hr_ := Option.some.inj H
      subst hr_
      refine RA_nil ?_
      exact at_normal (St.mk1 (aeq rfl aeq0) (Gh.sel [] rfl rfl))
  · rintro e ds As hst8
    clear H
    have H := Bq4
    clear Bq4
    refine RA.of_St rfl hst8 fun junk => ?_
    refine RA_step rfl (OA_v (v := .bool q4) rfl (V_assign rfl) ?_)
    refine RA_nil ?_
    refine at_normal ?_
    refine SA_ret ?_
    have hr_ := Option.some.inj H
    subst hr_
    exact BQ_R1 [] rfl rfl (Gh.sel [] rfl rfl) ⟨rfl, rfl⟩

/-! ### function 117: wayfarer/wayfarerref12.zero -/
def F117.f  : Option ((List S198)) := some ((((S198.mk 768 879) :: (S198.mk 1155 1161) :: (S198.mk 1425 1469) :: (S198.mk 1471 1471) :: (S198.mk 1473 1474) :: (S198.mk 1552 1562) :: (S198.mk 1611 1631) :: (S198.mk 1750 1756) :: (S198.mk 2304 2306) :: (S198.mk 2364 2364) :: (S198.mk 2369 2376) :: (S198.mk 2381 2381) :: (S198.mk 3633 3633) :: (S198.mk 3636 3642) :: (S198.mk 6832 6911) :: (S198.mk 7616 7679) :: (S198.mk 8203 8207) :: (S198.mk 8234 8238) :: (S198.mk 8288 8292) :: (S198.mk 8400 8447) :: (S198.mk 12330 12333) :: (S198.mk 12441 12442) :: (S198.mk 65024 65039) :: (S198.mk 65056 65071) :: (S198.mk 65279 65279) :: (S198.mk 917760 917999) :: []) : (List S198)))
set_option maxHeartbeats 2000000 in
set_option maxRecDepth 100000 in
theorem F117.ok  {r : (List S198)} (H : F117.f  = some r) : SCA Try.prog 117 #[] [] (fun v B => ∃ (A0_0_ : Option Addr) (c0_0_ : Nat), v = .slice A0_0_ r.length c0_0_ ∧ B = [Buf k198 198 A0_0_ c0_0_ r]) := by
  refine SCA_of_body Try.func117 rfl rfl ?_
  unfold F117.f at H
  refine SA_seq ?_
  refine SA_region ?_
  refine RA_step rfl (OA_v (v := .slice none 0 0) rfl (V_assign rfl) ?_)
  refine RA_nil ?_
  refine at_normal ?_
  refine SA_seq ?_
  refine SA_region ?_
  refine RA_step rfl (OA_v (v := .agg #[.int .i32 768, .int .i32 879]) rfl (V_build (cells := [.int .i32 768, .int .i32 879]) zero198 Try.underlying198 plc198 (by kernel_rfl)) ?_)
  refine RA_step rfl (OA_v (v := .agg #[.int .i32 1155, .int .i32 1161]) rfl (V_build (cells := [.int .i32 1155, .int .i32 1161]) zero198 Try.underlying198 plc198 (by kernel_rfl)) ?_)
  refine RA_step rfl (OA_v (v := .agg #[.int .i32 1425, .int .i32 1469]) rfl (V_build (cells := [.int .i32 1425, .int .i32 1469]) zero198 Try.underlying198 plc198 (by kernel_rfl)) ?_)
  refine RA_step rfl (OA_v (v := .agg #[.int .i32 1471, .int .i32 1471]) rfl (V_build (cells := [.int .i32 1471, .int .i32 1471]) zero198 Try.underlying198 plc198 (by kernel_rfl)) ?_)
  refine RA_step rfl (OA_v (v := .agg #[.int .i32 1473, .int .i32 1474]) rfl (V_build (cells := [.int .i32 1473, .int .i32 1474]) zero198 Try.underlying198 plc198 (by kernel_rfl)) ?_)
  refine RA_step rfl (OA_v (v := .agg #[.int .i32 1552, .int .i32 1562]) rfl (V_build (cells := [.int .i32 1552, .int .i32 1562]) zero198 Try.underlying198 plc198 (by kernel_rfl)) ?_)
  refine RA_step rfl (OA_v (v := .agg #[.int .i32 1611, .int .i32 1631]) rfl (V_build (cells := [.int .i32 1611, .int .i32 1631]) zero198 Try.underlying198 plc198 (by kernel_rfl)) ?_)
  refine RA_step rfl (OA_v (v := .agg #[.int .i32 1750, .int .i32 1756]) rfl (V_build (cells := [.int .i32 1750, .int .i32 1756]) zero198 Try.underlying198 plc198 (by kernel_rfl)) ?_)
  refine RA_step rfl (OA_v (v := .agg #[.int .i32 2304, .int .i32 2306]) rfl (V_build (cells := [.int .i32 2304, .int .i32 2306]) zero198 Try.underlying198 plc198 (by kernel_rfl)) ?_)
  refine RA_step rfl (OA_v (v := .agg #[.int .i32 2364, .int .i32 2364]) rfl (V_build (cells := [.int .i32 2364, .int .i32 2364]) zero198 Try.underlying198 plc198 (by kernel_rfl)) ?_)
  refine RA_step rfl (OA_v (v := .agg #[.int .i32 2369, .int .i32 2376]) rfl (V_build (cells := [.int .i32 2369, .int .i32 2376]) zero198 Try.underlying198 plc198 (by kernel_rfl)) ?_)
  refine RA_step rfl (OA_v (v := .agg #[.int .i32 2381, .int .i32 2381]) rfl (V_build (cells := [.int .i32 2381, .int .i32 2381]) zero198 Try.underlying198 plc198 (by kernel_rfl)) ?_)
  refine RA_step rfl (OA_v (v := .agg #[.int .i32 3633, .int .i32 3633]) rfl (V_build (cells := [.int .i32 3633, .int .i32 3633]) zero198 Try.underlying198 plc198 (by kernel_rfl)) ?_)
  refine RA_step rfl (OA_v (v := .agg #[.int .i32 3636, .int .i32 3642]) rfl (V_build (cells := [.int .i32 3636, .int .i32 3642]) zero198 Try.underlying198 plc198 (by kernel_rfl)) ?_)
  refine RA_step rfl (OA_v (v := .agg #[.int .i32 6832, .int .i32 6911]) rfl (V_build (cells := [.int .i32 6832, .int .i32 6911]) zero198 Try.underlying198 plc198 (by kernel_rfl)) ?_)
  refine RA_step rfl (OA_v (v := .agg #[.int .i32 7616, .int .i32 7679]) rfl (V_build (cells := [.int .i32 7616, .int .i32 7679]) zero198 Try.underlying198 plc198 (by kernel_rfl)) ?_)
  refine RA_step rfl (OA_v (v := .agg #[.int .i32 8203, .int .i32 8207]) rfl (V_build (cells := [.int .i32 8203, .int .i32 8207]) zero198 Try.underlying198 plc198 (by kernel_rfl)) ?_)
  refine RA_step rfl (OA_v (v := .agg #[.int .i32 8234, .int .i32 8238]) rfl (V_build (cells := [.int .i32 8234, .int .i32 8238]) zero198 Try.underlying198 plc198 (by kernel_rfl)) ?_)
  refine RA_step rfl (OA_v (v := .agg #[.int .i32 8288, .int .i32 8292]) rfl (V_build (cells := [.int .i32 8288, .int .i32 8292]) zero198 Try.underlying198 plc198 (by kernel_rfl)) ?_)
  refine RA_step rfl (OA_v (v := .agg #[.int .i32 8400, .int .i32 8447]) rfl (V_build (cells := [.int .i32 8400, .int .i32 8447]) zero198 Try.underlying198 plc198 (by kernel_rfl)) ?_)
  refine RA_step rfl (OA_v (v := .agg #[.int .i32 12330, .int .i32 12333]) rfl (V_build (cells := [.int .i32 12330, .int .i32 12333]) zero198 Try.underlying198 plc198 (by kernel_rfl)) ?_)
  refine RA_step rfl (OA_v (v := .agg #[.int .i32 12441, .int .i32 12442]) rfl (V_build (cells := [.int .i32 12441, .int .i32 12442]) zero198 Try.underlying198 plc198 (by kernel_rfl)) ?_)
  refine RA_step rfl (OA_v (v := .agg #[.int .i32 65024, .int .i32 65039]) rfl (V_build (cells := [.int .i32 65024, .int .i32 65039]) zero198 Try.underlying198 plc198 (by kernel_rfl)) ?_)
  refine RA_step rfl (OA_v (v := .agg #[.int .i32 65056, .int .i32 65071]) rfl (V_build (cells := [.int .i32 65056, .int .i32 65071]) zero198 Try.underlying198 plc198 (by kernel_rfl)) ?_)
  refine RA_step rfl (OA_v (v := .agg #[.int .i32 65279, .int .i32 65279]) rfl (V_build (cells := [.int .i32 65279, .int .i32 65279]) zero198 Try.underlying198 plc198 (by kernel_rfl)) ?_)
  refine RA_step rfl (OA_v (v := .agg #[.int .i32 917760, .int .i32 917999]) rfl (V_build (cells := [.int .i32 917760, .int .i32 917999]) zero198 Try.underlying198 plc198 (by kernel_rfl)) ?_)
  refine RA_step rfl (OA_bs (kd := k198) (zv := (.agg #[.int .i32 0, .int .i32 0])) (sz := 2) (cells := (.int .i32 768 :: .int .i32 879 :: .int .i32 1155 :: .int .i32 1161 :: .int .i32 1425 :: .int .i32 1469 :: .int .i32 1471 :: .int .i32 1471 :: .int .i32 1473 :: .int .i32 1474 :: .int .i32 1552 :: .int .i32 1562 :: .int .i32 1611 :: .int .i32 1631 :: .int .i32 1750 :: .int .i32 1756 :: .int .i32 2304 :: .int .i32 2306 :: .int .i32 2364 :: .int .i32 2364 :: .int .i32 2369 :: .int .i32 2376 :: .int .i32 2381 :: .int .i32 2381 :: .int .i32 3633 :: .int .i32 3633 :: .int .i32 3636 :: .int .i32 3642 :: .int .i32 6832 :: .int .i32 6911 :: .int .i32 7616 :: .int .i32 7679 :: .int .i32 8203 :: .int .i32 8207 :: .int .i32 8234 :: .int .i32 8238 :: .int .i32 8288 :: .int .i32 8292 :: .int .i32 8400 :: .int .i32 8447 :: .int .i32 12330 :: .int .i32 12333 :: .int .i32 12441 :: .int .i32 12442 :: .int .i32 65024 :: .int .i32 65039 :: .int .i32 65056 :: .int .i32 65071 :: .int .i32 65279 :: .int .i32 65279 :: .int .i32 917760 :: .int .i32 917999 :: [])) (xs := (((S198.mk 768 879) :: (S198.mk 1155 1161) :: (S198.mk 1425 1469) :: (S198.mk 1471 1471) :: (S198.mk 1473 1474) :: (S198.mk 1552 1562) :: (S198.mk 1611 1631) :: (S198.mk 1750 1756) :: (S198.mk 2304 2306) :: (S198.mk 2364 2364) :: (S198.mk 2369 2376) :: (S198.mk 2381 2381) :: (S198.mk 3633 3633) :: (S198.mk 3636 3642) :: (S198.mk 6832 6911) :: (S198.mk 7616 7679) :: (S198.mk 8203 8207) :: (S198.mk 8234 8238) :: (S198.mk 8288 8292) :: (S198.mk 8400 8447) :: (S198.mk 12330 12333) :: (S198.mk 12441 12442) :: (S198.mk 65024 65039) :: (S198.mk 65056 65071) :: (S198.mk 65279 65279) :: (S198.mk 917760 917999) :: []) : (List S198))) rfl Try.underlying187 zero198 sz198 rfl rfl rfl (by kernel_rfl) rfl rfl (RL_enc enc198 (fun _ _ => rfl) (by kernel_rfl)) fun b1 => ?_)
  refine RA_step rfl (OA_v (v := .slice (some ⟨b1, 0, none⟩) (((S198.mk 768 879) :: (S198.mk 1155 1161) :: (S198.mk 1425 1469) :: (S198.mk 1471 1471) :: (S198.mk 1473 1474) :: (S198.mk 1552 1562) :: (S198.mk 1611 1631) :: (S198.mk 1750 1756) :: (S198.mk 2304 2306) :: (S198.mk 2364 2364) :: (S198.mk 2369 2376) :: (S198.mk 2381 2381) :: (S198.mk 3633 3633) :: (S198.mk 3636 3642) :: (S198.mk 6832 6911) :: (S198.mk 7616 7679) :: (S198.mk 8203 8207) :: (S198.mk 8234 8238) :: (S198.mk 8288 8292) :: (S198.mk 8400 8447) :: (S198.mk 12330 12333) :: (S198.mk 12441 12442) :: (S198.mk 65024 65039) :: (S198.mk 65056 65071) :: (S198.mk 65279 65279) :: (S198.mk 917760 917999) :: []) : (List S198)).length 26) rfl (V_assign rfl) ?_)
  refine RA_nil ?_
  refine at_normal ?_
  refine SA_ret ?_
  have hr_ := Option.some.inj H
  subst hr_
  exact BQ_R1 [Buf k198 198 (some ⟨b1, 0, none⟩) 26 (((S198.mk 768 879) :: (S198.mk 1155 1161) :: (S198.mk 1425 1469) :: (S198.mk 1471 1471) :: (S198.mk 1473 1474) :: (S198.mk 1552 1562) :: (S198.mk 1611 1631) :: (S198.mk 1750 1756) :: (S198.mk 2304 2306) :: (S198.mk 2364 2364) :: (S198.mk 2369 2376) :: (S198.mk 2381 2381) :: (S198.mk 3633 3633) :: (S198.mk 3636 3642) :: (S198.mk 6832 6911) :: (S198.mk 7616 7679) :: (S198.mk 8203 8207) :: (S198.mk 8234 8238) :: (S198.mk 8288 8292) :: (S198.mk 8400 8447) :: (S198.mk 12330 12333) :: (S198.mk 12441 12442) :: (S198.mk 65024 65039) :: (S198.mk 65056 65071) :: (S198.mk 65279 65279) :: (S198.mk 917760 917999) :: []) : (List S198))] rfl rfl (Gh.sel [0] rfl rfl) ⟨some ⟨b1, 0, none⟩, 26, rfl, rfl⟩
end Go.Proofs.Ytodkeoibebimgaa.Kc

/- What functions compute, and that they do: 103, 105w0, 110, 113, 120, 121, 32, 40, 44, 45, 67, 70, 71, 78, 79, 89. -/
import Derived.Test.YtodkeoibebimgaaGr0
namespace Go.Proofs.Ytodkeoibebimgaa.Gr
open Go Go.RowKit Go.Proofs.Ytodkeoibebimgaa.SL
set_option linter.unusedVariables false
set_option linter.unusedSimpArgs false
attribute [local irreducible] IntKind.wrap minI maxI shrI shlI andI orI xorI andNotI cplI rd sub bytesOf strOf slA
/-! ### function 78: wayfarer/grid.sized -/
def F78.f (a0 : Int) (a1 : Int) : Option (Bool) := lt ((decide (a0 ≥ 1)) && (decide (a0 ≤ 512))) fun q1 => lt (q1 && (decide (a1 ≥ 1))) fun q4 => lt (q4 && (decide (a1 ≤ 512))) fun q7 => some (q7)
set_option maxHeartbeats 2000000 in
set_option maxRecDepth 100000 in
theorem F78.ok {a0 : Int} {a1 : Int} {r : Bool} (H : F78.f a0 a1 = some r) : SCA Try.prog 78 #[.int .i64 a0, .int .i64 a1] [] (fun v B => v = .bool r ∧ B = []) := by
  refine SCA_of_body Try.func78 rfl rfl ?_
  unfold F78.f at H
  refine SA_seq ?_
  refine SA_region ?_
  refine RA_step rfl (OA_v (v := .bool false) rfl (V_assign rfl) ?_)
  refine RA_nil ?_
  refine at_normal ?_
  refine SA_seq ?_
  refine SA_region ?_
  refine RA_step rfl (OA_v (v := .int .i64 a0) rfl (V_move rfl) ?_)
  refine RA_step rfl (OA_v (v := .bool (decide (a0 ≥ 1))) rfl (V_geq rfl rfl) ?_)
  refine RA_step rfl (OA_v (v := .bool (decide (a0 ≥ 1))) rfl (V_move rfl) ?_)
  obtain ⟨q1, hq1, H⟩ := g_lt H
  refine RA_cut 3 (fun e ds As => St [(1, .int .i64 a1), (10, .bool q1)] [] e ds As) ?_ ?_
  · by_cases h2 : a0 ≥ 1
    · refine RA_yesB rfl rfl rfl rfl (dec_t h2) (OA_v (v := .int .i64 a0) rfl (V_move rfl) ?_)
      refine RA_yesB rfl rfl rfl rfl (dec_t h2) (OA_v (v := .bool (decide (a0 ≤ 512))) rfl (V_leq rfl rfl) ?_)
      refine RA_step rfl (OA_v rfl (V_pickT rfl (dec_t h2) rfl) ?_)
      refine RA_nil ?_
      exact at_normal (St.mk1 (aeq rfl (aeq (congrArg Value.bool (and_t hq1 (dec_t h2))) aeq0)) (Gh.sel [] rfl rfl))
    refine RA_noB rfl rfl rfl rfl (dec_f h2) rfl ?_
    refine RA_noB rfl rfl rfl rfl (dec_f h2) rfl ?_
    refine RA_step rfl (OA_v rfl (V_pickF rfl (dec_f h2) rfl) ?_)
    refine RA_nil ?_
    exact at_normal (St.mk1 (aeq rfl (aeq (congrArg Value.bool (and_f hq1 (dec_f h2))) aeq0)) (Gh.sel [] rfl rfl))
  rintro e ds As hst3
  refine RA.of_St rfl hst3 fun junk => ?_
  refine RA_step rfl (OA_v (v := .bool q1) rfl (V_move rfl) ?_)
  obtain ⟨q4, hq4, H⟩ := g_lt H
  refine RA_cut 3 (fun e ds As => St [(1, .int .i64 a1), (14, .bool q4)] [] e ds As) ?_ ?_
  · by_cases h5 : q1 = true
    · refine RA_yesB rfl rfl rfl rfl (h5) (OA_v (v := .int .i64 a1) rfl (V_move rfl) ?_)
      refine RA_yesB rfl rfl rfl rfl (h5) (OA_v (v := .bool (decide (a1 ≥ 1))) rfl (V_geq rfl rfl) ?_)
      refine RA_step rfl (OA_v rfl (V_pickT rfl (h5) rfl) ?_)
      refine RA_nil ?_
      exact at_normal (St.mk1 (aeq rfl (aeq (congrArg Value.bool (and_t hq4 (h5))) aeq0)) (Gh.sel [] rfl rfl))
    refine RA_noB rfl rfl rfl rfl (bno h5) rfl ?_
    refine RA_noB rfl rfl rfl rfl (bno h5) rfl ?_
    refine RA_step rfl (OA_v rfl (V_pickF rfl (bno h5) rfl) ?_)
    refine RA_nil ?_
    exact at_normal (St.mk1 (aeq rfl (aeq (congrArg Value.bool (and_f hq4 (bno h5))) aeq0)) (Gh.sel [] rfl rfl))
  rintro e ds As hst6
  refine RA.of_St rfl hst6 fun junk => ?_
  refine RA_step rfl (OA_v (v := .bool q4) rfl (V_move rfl) ?_)
  obtain ⟨q7, hq7, H⟩ := g_lt H
  refine RA_cut 3 (fun e ds As => St [(18, .bool q7)] [] e ds As) ?_ ?_
  · by_cases h8 : q4 = true
    · refine RA_yesB rfl rfl rfl rfl (h8) (OA_v (v := .int .i64 a1) rfl (V_move rfl) ?_)
      refine RA_yesB rfl rfl rfl rfl (h8) (OA_v (v := .bool (decide (a1 ≤ 512))) rfl (V_leq rfl rfl) ?_)
      refine RA_step rfl (OA_v rfl (V_pickT rfl (h8) rfl) ?_)
      refine RA_nil ?_
      exact at_normal (St.mk1 (aeq (congrArg Value.bool (and_t hq7 (h8))) aeq0) (Gh.sel [] rfl rfl))
    refine RA_noB rfl rfl rfl rfl (bno h8) rfl ?_
    refine RA_noB rfl rfl rfl rfl (bno h8) rfl ?_
    refine RA_step rfl (OA_v rfl (V_pickF rfl (bno h8) rfl) ?_)
    refine RA_nil ?_
    exact at_normal (St.mk1 (aeq (congrArg Value.bool (and_f hq7 (bno h8))) aeq0) (Gh.sel [] rfl rfl))
  rintro e ds As hst9
  refine RA.of_St rfl hst9 fun junk => ?_
  refine RA_step rfl (OA_v (v := .bool q7) rfl (V_assign rfl) ?_)
  refine RA_nil ?_
  refine at_normal ?_
  refine SA_ret ?_
  have hr_ := Option.some.inj H
  subst hr_
  exact BQ_R1 [] rfl rfl (Gh.sel [] rfl rfl) ⟨rfl, rfl⟩

/-! ### function 103: wayfarer/cell.color -/
def F103.f (a0 : Int) : Option (Bool) := lt ((decide (a0 ≥ (-1))) && (decide (a0 ≤ 255))) fun q1 => some (q1)
set_option maxHeartbeats 2000000 in
set_option maxRecDepth 100000 in
theorem F103.ok {a0 : Int} {r : Bool} (H : F103.f a0 = some r) : SCA Try.prog 103 #[.int .i64 a0] [] (fun v B => v = .bool r ∧ B = []) := by
  refine SCA_of_body Try.func103 rfl rfl ?_
  unfold F103.f at H
  refine SA_seq ?_
  refine SA_region ?_
  refine RA_step rfl (OA_v (v := .bool false) rfl (V_assign rfl) ?_)
  refine RA_nil ?_
  refine at_normal ?_
  refine SA_seq ?_
  refine SA_region ?_
  refine RA_step rfl (OA_v (v := .int .i64 a0) rfl (V_move rfl) ?_)
  refine RA_step rfl (OA_v (v := .bool (decide (a0 ≥ (-1)))) rfl (V_geq rfl rfl) ?_)
  refine RA_step rfl (OA_v (v := .bool (decide (a0 ≥ (-1)))) rfl (V_move rfl) ?_)
  obtain ⟨q1, hq1, H⟩ := g_lt H
  refine RA_cut 3 (fun e ds As => St [(8, .bool q1)] [] e ds As) ?_ ?_
  · by_cases h2 : a0 ≥ (-1)
    · refine RA_yesB rfl rfl rfl rfl (dec_t h2) (OA_v (v := .int .i64 a0) rfl (V_move rfl) ?_)
      refine RA_yesB rfl rfl rfl rfl (dec_t h2) (OA_v (v := .bool (decide (a0 ≤ 255))) rfl (V_leq rfl rfl) ?_)
      refine RA_step rfl (OA_v rfl (V_pickT rfl (dec_t h2) rfl) ?_)
      refine RA_nil ?_
      exact at_normal (St.mk1 (aeq (congrArg Value.bool (and_t hq1 (dec_t h2))) aeq0) (Gh.sel [] rfl rfl))
    refine RA_noB rfl rfl rfl rfl (dec_f h2) rfl ?_
    refine RA_noB rfl rfl rfl rfl (dec_f h2) rfl ?_
    refine RA_step rfl (OA_v rfl (V_pickF rfl (dec_f h2) rfl) ?_)
    refine RA_nil ?_
    exact at_normal (St.mk1 (aeq (congrArg Value.bool (and_f hq1 (dec_f h2))) aeq0) (Gh.sel [] rfl rfl))
  rintro e ds As hst3
  refine RA.of_St rfl hst3 fun junk => ?_
  refine RA_step rfl (OA_v (v := .bool q1) rfl (V_assign rfl) ?_)
  refine RA_nil ?_
  refine at_normal ?_
  refine SA_ret ?_
  have hr_ := Option.some.inj H
  subst hr_
  exact BQ_R1 [] rfl rfl (Gh.sel [] rfl rfl) ⟨rfl, rfl⟩

/-! ### function 71: wayfarer/cell.MayStyle -/
def F71.f (a0 : S70) : Option (Bool) := (F103.f a0.f0).bind (fun r3 => (if r3 = true then ((F103.f a0.f1).bind (fun r6 => some r6)) else (some false) : Option Bool).bind (fun q4 => some (q4)))
set_option maxHeartbeats 2000000 in
set_option maxRecDepth 100000 in
theorem F71.ok {a0 : S70} {r : Bool} (H : F71.f a0 = some r) : SCA Try.prog 71 #[.agg #[.int .i64 a0.f0, .int .i64 a0.f1, .bool a0.f2, .bool a0.f3, .bool a0.f4, .bool a0.f5, .bool a0.f6, .bool a0.f7, .bool a0.f8, .bool a0.f9]] [] (fun v B => v = .bool r ∧ B = []) := by
  refine SCA_of_body Try.func71 rfl rfl ?_
  unfold F71.f at H
  refine SA_seq ?_
  refine SA_region ?_
  refine RA_step rfl (OA_box rfl rfl fun b1 => ?_)
  refine RA_step rfl (OA_v (v := .bool false) rfl (V_assign rfl) ?_)
  refine RA_nil ?_
  refine at_normal ?_
  refine SA_seq ?_
  refine SA_region ?_
  refine RA_step rfl (OA_v (v := .pointer (some ⟨b1, 0, none⟩)) rfl (V_fieldAddrN (B := ⟨b1, 0, none⟩) (m := 0) (o := 0) Try.underlying70 rfl nz3 rfl rfl) ?_)
  refine RA_step rfl (OA_r rfl (VR_load_blk (b := b1) (m := 0) (k := 0) Try.underlying3 rfl rfl rfl rfl) ?_)
  obtain ⟨r3, C9, H⟩ := g_bind H
  refine RA_step rfl (OA_callA [] [0] rfl (X_fn (vs := [.int .i64 a0.f0]) Try.func103 nm103 rfl rfl) rfl (F103.ok (a0 := a0.f0) C9) rfl ?_)
  rintro _ _ ⟨rfl, rfl⟩
  refine RA_step rfl (OA_v (v := .bool r3) rfl (V_move rfl) ?_)
  obtain ⟨q4, H, Bq4⟩ := g_bind H
  refine RA_cut 4 (fun e ds As => St [(10, .bool q4)] [] e ds As) ?_ ?_
  · by_cases h5 : r3 = true
    · replace H := g_ift h5 H
      refine RA_yesB rfl rfl rfl rfl (h5) (OA_v (v := .pointer (some ((⟨b1, 0, none⟩ : Addr).add 1))) rfl (V_fieldAddrN (B := ⟨b1, 0, none⟩) (m := 0) (o := 1) Try.underlying70 rfl nz3 rfl rfl) ?_)
      refine RA_yesB rfl rfl rfl rfl (h5) (OA_r rfl (VR_load_blk (b := b1) (m := 1) (k := 0) Try.underlying3 rfl rfl rfl rfl) ?_)
      obtain ⟨r6, C7, H⟩ := g_bind H
      refine RA_yesB rfl rfl rfl rfl (h5) (OA_callA [] [0] rfl (X_fn (vs := [.int .i64 a0.f1]) Try.func103 nm103 rfl rfl) rfl (F103.ok (a0 := a0.f1) C7) rfl ?_)
      rintro _ _ ⟨rfl, rfl⟩
      refine RA_step rfl (OA_v rfl (V_pickT rfl (h5) rfl) ?_)
      have hr_ := Option.some.inj H
      subst hr_
      refine RA_nil ?_
      exact at_normal (St.mk1 (aeq rfl aeq0) (Gh.sel [] rfl rfl))
    replace H := g_iff h5 H
    refine RA_noB rfl rfl rfl rfl (bno h5) rfl ?_
    refine RA_noB rfl rfl rfl rfl (bno h5) rfl ?_
    refine RA_noB rfl rfl rfl rfl (bno h5) rfl ?_
    refine RA_step rfl (OA_v rfl (V_pickF rfl (bno h5) rfl) ?_)
    have hr_ := Option.some.inj H
    subst hr_
    refine RA_nil ?_
    exact at_normal (St.mk1 (aeq rfl aeq0) (Gh.sel [] rfl rfl))
  rintro e ds As hst8
  clear H
  have H := Bq4
  clear Bq4
  refine RA.of_St rfl hst8 fun junk => ?_
  refine RA_step rfl (OA_v (v := .bool q4) rfl (V_assign rfl) ?_)
  refine RA_nil ?_
  refine at_normal ?_
  refine SA_ret ?_
  have hr_ := Option.some.inj H
  subst hr_
  exact BQ_R1 [] rfl rfl (Gh.sel [] rfl rfl) ⟨rfl, rfl⟩

/-! ### function 120: wayfarer/cell.Plain -/
def F120.f  : Option (S70) := some ((S70.mk (-1) (-1) false false false false false false false false))
set_option maxHeartbeats 2000000 in
set_option maxRecDepth 100000 in
theorem F120.ok  {r : S70} (H : F120.f  = some r) : SCA Try.prog 120 #[] [] (fun v B => v = .agg #[.int .i64 r.f0, .int .i64 r.f1, .bool r.f2, .bool r.f3, .bool r.f4, .bool r.f5, .bool r.f6, .bool r.f7, .bool r.f8, .bool r.f9] ∧ B = []) := by
  refine SCA_of_body Try.func120 rfl rfl ?_
  unfold F120.f at H
  refine SA_seq ?_
  refine SA_region ?_
  refine RA_step rfl (OA_alloc rfl zero70 fun b1 => ?_)
  refine RA_nil ?_
  refine at_normal ?_
  refine SA_seq ?_
  refine SA_region ?_
  refine RA_step rfl (OA_v (v := .agg #[.int .i64 (-1), .int .i64 (-1), .bool false, .bool false, .bool false, .bool false, .bool false, .bool false, .bool false, .bool false]) rfl (V_build (cells := [.int .i64 (-1), .int .i64 (-1), .bool false, .bool false, .bool false, .bool false, .bool false, .bool false, .bool false, .bool false]) zero70 Try.underlying70 plc70 (by kernel_rfl)) ?_)
  refine RA_step rfl (OA_st (b := b1) (m := 0) (k := 0) (vs := [.int .i64 (-1), .int .i64 (-1), .bool false, .bool false, .bool false, .bool false, .bool false, .bool false, .bool false, .bool false]) (cs' := [.int .i64 (-1), .int .i64 (-1), .bool false, .bool false, .bool false, .bool false, .bool false, .bool false, .bool false, .bool false]) rfl rfl rfl rfl rfl rfl sz70 rfl rfl ?_)
  refine RA_nil ?_
  refine at_normal ?_
  refine SA_ret ?_
  have hr_ := Option.some.inj H
  subst hr_
  exact BQ_RL (rs := [.cell 0 70]) (vs := [.agg #[.int .i64 (-1), .int .i64 (-1), .bool false, .bool false, .bool false, .bool false, .bool false, .bool false, .bool false, .bool false]]) [] rfl ⟨RV.cell (k := 0) rfl rfl Try.underlying70 rfl sz70, trivial⟩ rfl (Gh.sel [] rfl rfl) ⟨rfl, rfl⟩

/-! ### function 110: wayfarer/cell.Blank -/
def F110.f (a0 : S70) : Option (S76) := (F120.f ).bind (fun r5 => some ((S76.mk 32 (S74.mk 0 0 0) 1 (S70.mk r5.f0 a0.f1 r5.f2 r5.f3 r5.f4 r5.f5 r5.f6 r5.f7 r5.f8 r5.f9))))
set_option maxHeartbeats 2000000 in
set_option maxRecDepth 100000 in
theorem F110.ok {a0 : S70} {r : S76} (H : F110.f a0 = some r) : SCA Try.prog 110 #[.agg #[.int .i64 a0.f0, .int .i64 a0.f1, .bool a0.f2, .bool a0.f3, .bool a0.f4, .bool a0.f5, .bool a0.f6, .bool a0.f7, .bool a0.f8, .bool a0.f9]] [] (fun v B => v = .agg (List.toArray (.int .i32 r.f0 :: .int .i32 r.f1.f0 :: .int .i32 r.f1.f1 :: .int .i32 r.f1.f2 :: .int .u8 r.f2 :: .int .i64 r.f3.f0 :: .int .i64 r.f3.f1 :: .bool r.f3.f2 :: .bool r.f3.f3 :: .bool r.f3.f4 :: .bool r.f3.f5 :: .bool r.f3.f6 :: .bool r.f3.f7 :: .bool r.f3.f8 :: .bool r.f3.f9 :: [])) ∧ B = []) := by
  refine SCA_of_body Try.func110 rfl rfl ?_
  unfold F110.f at H
  refine SA_seq ?_
  refine SA_region ?_
  refine RA_step rfl (OA_box rfl rfl fun b1 => ?_)
  refine RA_step rfl (OA_alloc rfl zero76 fun b3 => ?_)
  refine RA_nil ?_
  refine at_normal ?_
  refine SA_seq ?_
  refine SA_region ?_
  obtain ⟨r5, C8, H⟩ := g_bind H
  refine RA_step rfl (OA_callA [] [0, 1] rfl (X_fn (vs := []) Try.func120 nm120 rfl rfl) rfl (F120.ok C8) rfl ?_)
  rintro _ _ ⟨rfl, rfl⟩
  refine RA_step rfl (OA_alloc rfl zero70 fun b6 => ?_)
  refine RA_step rfl (OA_st (b := b6) (m := 0) (k := 2) (vs := [.int .i64 r5.f0, .int .i64 r5.f1, .bool r5.f2, .bool r5.f3, .bool r5.f4, .bool r5.f5, .bool r5.f6, .bool r5.f7, .bool r5.f8, .bool r5.f9]) (cs' := [.int .i64 r5.f0, .int .i64 r5.f1, .bool r5.f2, .bool r5.f3, .bool r5.f4, .bool r5.f5, .bool r5.f6, .bool r5.f7, .bool r5.f8, .bool r5.f9]) rfl rfl rfl rfl rfl rfl sz70 rfl rfl ?_)
  refine RA_nil ?_
  refine at_normal ?_
  refine SA_seq ?_
  refine SA_region ?_
  refine RA_step rfl (OA_v (v := .pointer (some ((⟨b1, 0, none⟩ : Addr).add 1))) rfl (V_fieldAddrN (B := ⟨b1, 0, none⟩) (m := 0) (o := 1) Try.underlying70 rfl nz3 rfl rfl) ?_)
  refine RA_step rfl (OA_r rfl (VR_load_blk (b := b1) (m := 1) (k := 0) Try.underlying3 rfl rfl rfl rfl) ?_)
  refine RA_step rfl (OA_v (v := .pointer (some ((⟨b6, 0, none⟩ : Addr).add 1))) rfl (V_fieldAddrN (B := ⟨b6, 0, none⟩) (m := 0) (o := 1) Try.underlying70 rfl nz3 rfl rfl) ?_)
  refine RA_step rfl (OA_st (b := b6) (m := 1) (k := 2) (vs := [.int .i64 a0.f1]) (cs' := [.int .i64 r5.f0, .int .i64 a0.f1, .bool r5.f2, .bool r5.f3, .bool r5.f4, .bool r5.f5, .bool r5.f6, .bool r5.f7, .bool r5.f8, .bool r5.f9]) rfl rfl rfl rfl rfl rfl sz3 rfl rfl ?_)
  refine RA_nil ?_
  refine at_normal ?_
  refine SA_seq ?_
  refine SA_region ?_
  refine RA_step rfl (OA_r rfl (VR_loadA_blk (b := b6) (m := 0) (k := 2) (vs := [.int .i64 r5.f0, .int .i64 a0.f1, .bool r5.f2, .bool r5.f3, .bool r5.f4, .bool r5.f5, .bool r5.f6, .bool r5.f7, .bool r5.f8, .bool r5.f9]) Try.underlying70 rfl sz70 rfl rfl rfl) ?_)
  refine RA_step rfl (OA_v (v := .agg (List.toArray (.int .i32 32 :: .int .i32 0 :: .int .i32 0 :: .int .i32 0 :: .int .u8 1 :: .int .i64 r5.f0 :: .int .i64 a0.f1 :: .bool r5.f2 :: .bool r5.f3 :: .bool r5.f4 :: .bool r5.f5 :: .bool r5.f6 :: .bool r5.f7 :: .bool r5.f8 :: .bool r5.f9 :: []))) rfl (V_build (cells := (.int .i32 32 :: .int .i32 0 :: .int .i32 0 :: .int .i32 0 :: .int .u8 1 :: .int .i64 r5.f0 :: .int .i64 a0.f1 :: .bool r5.f2 :: .bool r5.f3 :: .bool r5.f4 :: .bool r5.f5 :: .bool r5.f6 :: .bool r5.f7 :: .bool r5.f8 :: .bool r5.f9 :: [])) zero76 Try.underlying76 plc76 (by kernel_rfl)) ?_)
  refine RA_step rfl (OA_st (b := b3) (m := 0) (k := 1) (vs := (.int .i32 32 :: .int .i32 0 :: .int .i32 0 :: .int .i32 0 :: .int .u8 1 :: .int .i64 r5.f0 :: .int .i64 a0.f1 :: .bool r5.f2 :: .bool r5.f3 :: .bool r5.f4 :: .bool r5.f5 :: .bool r5.f6 :: .bool r5.f7 :: .bool r5.f8 :: .bool r5.f9 :: [])) (cs' := (.int .i32 32 :: .int .i32 0 :: .int .i32 0 :: .int .i32 0 :: .int .u8 1 :: .int .i64 r5.f0 :: .int .i64 a0.f1 :: .bool r5.f2 :: .bool r5.f3 :: .bool r5.f4 :: .bool r5.f5 :: .bool r5.f6 :: .bool r5.f7 :: .bool r5.f8 :: .bool r5.f9 :: [])) rfl rfl rfl rfl rfl rfl sz76 rfl rfl ?_)
  refine RA_nil ?_
  refine at_normal ?_
  refine SA_ret ?_
  have hr_ := Option.some.inj H
  subst hr_
  exact BQ_RL (rs := [.cell 2 76]) (vs := [.agg (List.toArray (.int .i32 32 :: .int .i32 0 :: .int .i32 0 :: .int .i32 0 :: .int .u8 1 :: .int .i64 r5.f0 :: .int .i64 a0.f1 :: .bool r5.f2 :: .bool r5.f3 :: .bool r5.f4 :: .bool r5.f5 :: .bool r5.f6 :: .bool r5.f7 :: .bool r5.f8 :: .bool r5.f9 :: []))]) [] rfl ⟨RV.cell (k := 1) rfl rfl Try.underlying76 rfl sz76, trivial⟩ rfl (Gh.sel [] rfl rfl) ⟨rfl, rfl⟩

/-! ### function 105: wayfarer/grid.fill -/
def F105w0.l0 (l0 : (List S76)) (o0 : Int) (n0 : Int) (r4 : S76) : Nat → Int → (List S76) → Option ((List S76))
  | 0, _, _ => none
  | k + 1, x10_7, zm1_0_7 => if zm1_0_7.length = l0.length then (if x10_7 < n0 then (if 0 ≤ x10_7 ∧ x10_7 < n0 then (lt (zm1_0_7.set (o0 + x10_7).toNat r4) fun n15 => (F105w0.l0 l0 o0 n0 r4 k (IntKind.i64.wrap (x10_7 + 1)) n15)) else none) else (some zm1_0_7)) else none
def F105w0.f (k : Nat) (l0 : (List S76)) (o0 : Int) (n0 : Int) (a1 : S70) : Option ((List S76)) := if 0 ≤ o0 ∧ 0 ≤ n0 ∧ o0 + n0 ≤ (l0.length : Int) then ((F110.f a1).bind (fun r4 => (F105w0.l0 l0 o0 n0 r4 k 0 l0 : Option ((List S76))).bind (fun t7 => if t7.length = l0.length then (some (t7)) else none))) else none
set_option maxHeartbeats 2000000 in
set_option maxRecDepth 100000 in
theorem F105w0.ok {k : Nat} {l0 : (List S76)} {o0 : Int} {n0 : Int} {a1 : S70} {A0 V0 : Option Addr} {c0 v0 : Nat} (hw0 : Win A0 V0 15 o0 n0 v0) {r : (List S76)} (H : F105w0.f k l0 o0 n0 a1 = some r) : SCA Try.prog 105 #[.slice V0 n0.toNat v0, .agg #[.int .i64 a1.f0, .int .i64 a1.f1, .bool a1.f2, .bool a1.f3, .bool a1.f4, .bool a1.f5, .bool a1.f6, .bool a1.f7, .bool a1.f8, .bool a1.f9]] [Buf k76 76 A0 c0 l0] (fun v B => v = .tuple #[] ∧ B = [Buf k76 76 A0 c0 r]) := by
  refine SCA_of_body Try.func105 rfl rfl ?_
  unfold F105w0.f at H
  obtain ⟨⟨g20, g21, g22⟩, H⟩ := g_pos H
  have hcv_hw0 := hw0.cap
  refine SA_seq ?_
  refine SA_region ?_
  refine RA_step rfl (OA_box rfl rfl fun b2 => ?_)
  refine RA_nil ?_
  refine at_normal ?_
  refine SA_seq ?_
  refine SA_region ?_
  refine RA_step rfl (OA_r rfl (VR_loadA_blk (b := b2) (m := 0) (k := 1) (vs := [.int .i64 a1.f0, .int .i64 a1.f1, .bool a1.f2, .bool a1.f3, .bool a1.f4, .bool a1.f5, .bool a1.f6, .bool a1.f7, .bool a1.f8, .bool a1.f9]) Try.underlying70 rfl sz70 rfl rfl rfl) ?_)
  obtain ⟨r4, C19, H⟩ := g_bind H
  refine RA_step rfl (OA_callA [] [0, 1] rfl (X_fn (vs := [.agg #[.int .i64 a1.f0, .int .i64 a1.f1, .bool a1.f2, .bool a1.f3, .bool a1.f4, .bool a1.f5, .bool a1.f6, .bool a1.f7, .bool a1.f8, .bool a1.f9]]) Try.func110 nm110 rfl rfl) rfl (F110.ok (a0 := a1) C19) rfl ?_)
  rintro _ _ ⟨rfl, rfl⟩
  refine RA_step rfl (OA_alloc rfl zero76 fun b5 => ?_)
  refine RA_step rfl (OA_st (b := b5) (m := 0) (k := 2) (vs := (.int .i32 r4.f0 :: .int .i32 r4.f1.f0 :: .int .i32 r4.f1.f1 :: .int .i32 r4.f1.f2 :: .int .u8 r4.f2 :: .int .i64 r4.f3.f0 :: .int .i64 r4.f3.f1 :: .bool r4.f3.f2 :: .bool r4.f3.f3 :: .bool r4.f3.f4 :: .bool r4.f3.f5 :: .bool r4.f3.f6 :: .bool r4.f3.f7 :: .bool r4.f3.f8 :: .bool r4.f3.f9 :: [])) (cs' := (.int .i32 r4.f0 :: .int .i32 r4.f1.f0 :: .int .i32 r4.f1.f1 :: .int .i32 r4.f1.f2 :: .int .u8 r4.f2 :: .int .i64 r4.f3.f0 :: .int .i64 r4.f3.f1 :: .bool r4.f3.f2 :: .bool r4.f3.f3 :: .bool r4.f3.f4 :: .bool r4.f3.f5 :: .bool r4.f3.f6 :: .bool r4.f3.f7 :: .bool r4.f3.f8 :: .bool r4.f3.f9 :: [])) rfl rfl rfl rfl rfl rfl sz76 rfl rfl ?_)
  refine RA_nil ?_
  refine at_normal ?_
  refine SA_seq ?_
  refine SA_region ?_
  refine RA_step rfl (OA_v (v := .slice V0 n0.toNat v0) rfl (V_move rfl) ?_)
  refine RA_step rfl (OA_v (v := .int .i64 n0) rfl (V_lenW hw0 Try.underlying65 rfl) ?_)
  refine RA_step rfl (OA_v (v := .int .i64 0) rfl (V_move rfl) ?_)
  refine RA_nil ?_
  refine at_normal ?_
  obtain ⟨t7, H, Bt7⟩ := g_bind H
  refine SA_mid (fun e ds As => St [] [Buf k76 76 A0 c0 t7] e ds As) ?_ ?_
  · refine SA_block ?_
    refine SA_loop (fun k_ e ds As => ∃ (x10_7 : Int) (zm1_0_7 : (List S76)), F105w0.l0 l0 o0 n0 r4 k_ x10_7 zm1_0_7 = some t7 ∧ St [(0, .slice V0 n0.toNat v0), (4, .pointer (some ⟨b5, 0, none⟩)), (9, .int .i64 n0), (10, .int .i64 x10_7)] [Buf k76 76 A0 c0 zm1_0_7, Blk b5 76 (.int .i32 r4.f0 :: .int .i32 r4.f1.f0 :: .int .i32 r4.f1.f1 :: .int .i32 r4.f1.f2 :: .int .u8 r4.f2 :: .int .i64 r4.f3.f0 :: .int .i64 r4.f3.f1 :: .bool r4.f3.f2 :: .bool r4.f3.f3 :: .bool r4.f3.f4 :: .bool r4.f3.f5 :: .bool r4.f3.f6 :: .bool r4.f3.f7 :: .bool r4.f3.f8 :: .bool r4.f3.f9 :: [])] e ds As) (k := k) ⟨_, _, H, St.mk1 (aeq rfl (aeq rfl (aeq rfl (aeq rfl aeq0)))) (Gh.sel [0, 2] rfl rfl)⟩ ?_
    clear H
    rintro k8 e ds As ⟨x10_7, zm1_0_7, H, hst9⟩
    obtain _ | k8 := k8
    · cases H
    rw [F105w0.l0] at H
    obtain ⟨hl16, H⟩ := g_pos H
    refine SA.of_St hst9 fun junk => ?_
    refine SA_seq ?_
    refine SA_region ?_
    refine RA_step rfl (OA_v (v := .bool (decide (x10_7 < n0))) rfl (V_lss rfl rfl) ?_)
    refine RA_nil ?_
    refine at_normal ?_
    refine SA_seq ?_
    by_cases h10 : x10_7 < n0
    · replace H := g_ift h10 H
      refine SA_condT rfl h10 ?_
      refine SA_skip ?_
      refine at_normal ?_
      refine SA_seq ?_
      refine SA_block ?_
      refine SA_seq ?_
      refine SA_region ?_
      refine RA_step rfl (OA_v (v := .int .i64 x10_7) rfl (V_move rfl) ?_)
      refine RA_step rfl (OA_v (v := .int .i64 x10_7) rfl (V_assign rfl) ?_)
      refine RA_nil ?_
      refine at_normal ?_
      refine SA_region ?_
      refine RA_step rfl (OA_v (v := .slice V0 n0.toNat v0) rfl (V_move rfl) ?_)
      refine RA_step rfl (OA_v (v := .int .i64 x10_7) rfl (V_move rfl) ?_)
      refine RA_step rfl (OA_r rfl (VR_loadA_blk (b := b5) (m := 0) (k := 1) (vs := (.int .i32 r4.f0 :: .int .i32 r4.f1.f0 :: .int .i32 r4.f1.f1 :: .int .i32 r4.f1.f2 :: .int .u8 r4.f2 :: .int .i64 r4.f3.f0 :: .int .i64 r4.f3.f1 :: .bool r4.f3.f2 :: .bool r4.f3.f3 :: .bool r4.f3.f4 :: .bool r4.f3.f5 :: .bool r4.f3.f6 :: .bool r4.f3.f7 :: .bool r4.f3.f8 :: .bool r4.f3.f9 :: [])) Try.underlying76 rfl sz76 rfl rfl rfl) ?_)
      obtain ⟨⟨g11, g12⟩, H⟩ := g_pos H
      have g13 : 0 ≤ o0 + x10_7 := by omega
      have g14 : o0 + x10_7 < (zm1_0_7.length : Int) := by omega
      refine RA_step rfl (OA_r rfl (VR_indexW (l := o0) (m := n0) (i := x10_7) (sz := 15) hw0 Try.underlying65 sz76 rfl rfl (Src.buf (k := 0) rfl) g11 g12 (by omega)) ?_)
      obtain ⟨n15, hn15, H⟩ := g_lt H
      have hl_n15 : n15.length = zm1_0_7.length := by rw [hn15]; exact List.length_set
      refine RA_step rfl (OA_stEl (k := 0) (i := o0 + x10_7) (j := (o0 + x10_7).toNat * 15) (m := 0) (sz := 15) (xs := zm1_0_7) (vs := (.int .i32 r4.f0 :: .int .i32 r4.f1.f0 :: .int .i32 r4.f1.f1 :: .int .i32 r4.f1.f2 :: .int .u8 r4.f2 :: .int .i64 r4.f3.f0 :: .int .i64 r4.f3.f1 :: .bool r4.f3.f2 :: .bool r4.f3.f3 :: .bool r4.f3.f4 :: .bool r4.f3.f5 :: .bool r4.f3.f6 :: .bool r4.f3.f7 :: .bool r4.f3.f8 :: .bool r4.f3.f9 :: [])) r4 rfl rfl rfl rfl rfl rfl rfl rfl sz76 g13 g14 rfl (fun _ _ h_ => by subst h_; rfl) ?_)
      rewrite [← hn15]
      try rewrite [← hl_n15]
      refine RA_nil ?_
      refine inb_normal ?_
      refine at_normal ?_
      refine SA_region ?_
      refine RA_step rfl (OA_v (v := .int .i64 (IntKind.i64.wrap (x10_7 + 1))) rfl (V_add rfl rfl) ?_)
      refine RA_step rfl (OA_v (v := .int .i64 (IntKind.i64.wrap (x10_7 + 1))) rfl (V_move rfl) ?_)
      refine RA_nil ?_
      exact at_normal ⟨k8, Nat.lt_succ_self _, _, _, H, St.mk1 (aeq rfl (aeq rfl (aeq rfl (aeq rfl aeq0)))) (Gh.sel [0, 1] rfl rfl)⟩
    replace H := g_iff h10 H
    refine SA_condF rfl h10 ?_
    refine SA_exit ?_
    refine thn_exit ?_
    refine thn_exit ?_
    refine inb_hit ?_
    have hr_ := Option.some.inj H
    subst hr_
    exact at_normal (St.mk1 aeq0 (Gh.sel [0] rfl rfl))
  rintro e ds As hst17
  clear H
  have H := Bt7
  clear Bt7
  obtain ⟨hl18, H⟩ := g_pos H
  have hr_ := Option.some.inj H
  subst hr_
  exact BQ_n0s hst17 [Buf k76 76 A0 c0 t7] rfl (Gh.sel [0] rfl rfl) ⟨rfl, rfl⟩

/-! ### function 79: wayfarer/grid.made -/
def F79.f (k : Nat) (a0 : Int) (a1 : Int) (a2 : S70) : Option (S67) := if 0 ≤ (IntKind.i64.wrap (a0 * a1)) ∧ (IntKind.i64.wrap (a0 * a1)) ≤ 2932031007402 then lt (List.replicate (IntKind.i64.wrap (a0 * a1)).toNat (S76.mk 0 (S74.mk 0 0 0) 0 (S70.mk 0 0 false false false false false false false false))) fun n9 => ((F105w0.f k n9 0 (n9.length : Int) a2).bind (fun r13 => if r13.length = n9.length then (some ((S67.mk a0 a1 r13))) else none)) else none
set_option maxHeartbeats 2000000 in
set_option maxRecDepth 100000 in
theorem F79.ok {k : Nat} {a0 : Int} {a1 : Int} {a2 : S70} {r : S67} (H : F79.f k a0 a1 a2 = some r) : SCA Try.prog 79 #[.int .i64 a0, .int .i64 a1, .agg #[.int .i64 a2.f0, .int .i64 a2.f1, .bool a2.f2, .bool a2.f3, .bool a2.f4, .bool a2.f5, .bool a2.f6, .bool a2.f7, .bool a2.f8, .bool a2.f9]] [] (fun v B => ∃ (A0_0_ : Option Addr) (c0_0_ : Nat), v = .agg #[.int .i64 r.f0, .int .i64 r.f1, .slice A0_0_ r.f2.length c0_0_] ∧ B = [Buf k76 76 A0_0_ c0_0_ r.f2]) := by
  refine SCA_of_body Try.func79 rfl rfl ?_
  unfold F79.f at H
  refine SA_seq ?_
  refine SA_region ?_
  refine RA_step rfl (OA_box rfl rfl fun b1 => ?_)
  refine RA_step rfl (OA_alloc rfl zero67 fun b3 => ?_)
  refine RA_nil ?_
  refine at_normal ?_
  refine SA_seq ?_
  refine SA_region ?_
  refine RA_step rfl (OA_v (v := .int .i64 a0) rfl (V_move rfl) ?_)
  refine RA_step rfl (OA_v (v := .int .i64 a1) rfl (V_move rfl) ?_)
  refine RA_step rfl (OA_v (v := .int .i64 a0) rfl (V_move rfl) ?_)
  refine RA_step rfl (OA_v (v := .int .i64 a1) rfl (V_move rfl) ?_)
  refine RA_step rfl (OA_v (v := .int .i64 (IntKind.i64.wrap (a0 * a1))) rfl (V_mul rfl rfl) ?_)
  obtain ⟨⟨g7, g8⟩, H⟩ := g_pos H
  obtain ⟨n9, hn9, H⟩ := g_lt H
  refine RA_step rfl (OA_mk (kd := k76) (sz := 15) (l := IntKind.i64.wrap (a0 * a1)) (S76.mk 0 (S74.mk 0 0 0) 0 (S70.mk 0 0 false false false false false false false false)) n9 hn9 rfl Try.underlying65 inf76 rfl rfl g7 (by omega) (by omega) rfl rfl (fun _ => rfl) fun b5 => ?_)
  refine RA_step rfl (OA_v (v := .agg #[.int .i64 a0, .int .i64 a1, .slice (some ⟨b5, 0, none⟩) n9.length ((IntKind.i64.wrap (a0 * a1)).toNat)]) rfl (V_build (cells := [.int .i64 a0, .int .i64 a1, .slice (some ⟨b5, 0, none⟩) n9.length ((IntKind.i64.wrap (a0 * a1)).toNat)]) zero67 Try.underlying67 plc67 (by kernel_rfl)) ?_)
  refine RA_step rfl (OA_alloc rfl zero67 fun b10 => ?_)
  refine RA_step rfl (OA_st (b := b10) (m := 0) (k := 3) (vs := [.int .i64 a0, .int .i64 a1, .slice (some ⟨b5, 0, none⟩) n9.length ((IntKind.i64.wrap (a0 * a1)).toNat)]) (cs' := [.int .i64 a0, .int .i64 a1, .slice (some ⟨b5, 0, none⟩) n9.length ((IntKind.i64.wrap (a0 * a1)).toNat)]) rfl rfl rfl rfl rfl rfl sz67 rfl rfl ?_)
  refine RA_nil ?_
  refine at_normal ?_
  refine SA_seq ?_
  refine SA.fact (cap_of (k := 2) rfl) fun hc12 => ?_
  refine SA_region ?_
  refine RA_step rfl (OA_v (v := .pointer (some ((⟨b10, 0, none⟩ : Addr).add 2))) rfl (V_fieldAddrN (B := ⟨b10, 0, none⟩) (m := 0) (o := 2) Try.underlying67 rfl nz65 rfl rfl) ?_)
  refine RA_step rfl (OA_r rfl (VR_load_blk (b := b10) (m := 2) (k := 3) Try.underlying65 rfl rfl rfl rfl) ?_)
  refine RA_step rfl (OA_r rfl (VR_loadA_blk (b := b1) (m := 0) (k := 0) (vs := [.int .i64 a2.f0, .int .i64 a2.f1, .bool a2.f2, .bool a2.f3, .bool a2.f4, .bool a2.f5, .bool a2.f6, .bool a2.f7, .bool a2.f8, .bool a2.f9]) Try.underlying70 rfl sz70 rfl rfl rfl) ?_)
  obtain ⟨r13, C15, H⟩ := g_bind H
  obtain ⟨hl14, H⟩ := g_pos H
  refine RA_step rfl (OA_callA [2] [0, 1, 3] rfl (X_fn (vs := [.slice (some ⟨b5, 0, none⟩) n9.length ((IntKind.i64.wrap (a0 * a1)).toNat), .agg #[.int .i64 a2.f0, .int .i64 a2.f1, .bool a2.f2, .bool a2.f3, .bool a2.f4, .bool a2.f5, .bool a2.f6, .bool a2.f7, .bool a2.f8, .bool a2.f9]]) Try.func105 nm105 rfl rfl) rfl (F105w0.ok (l0 := n9) (o0 := 0) (n0 := (n9.length : Int)) (A0 := some ⟨b5, 0, none⟩) (c0 := (IntKind.i64.wrap (a0 * a1)).toNat) (V0 := some ⟨b5, 0, none⟩) (v0 := (IntKind.i64.wrap (a0 * a1)).toNat) (hw0 := (Win.whole (sz := 15) (xs := n9) (c := (IntKind.i64.wrap (a0 * a1)).toNat) (by omega))) (a1 := a2) C15) rfl ?_)
  rintro _ _ ⟨rfl, rfl⟩
  try rewrite [← hl14]
  refine RA_nil ?_
  refine at_normal ?_
  refine SA_seq ?_
  refine SA_region ?_
  refine RA_step rfl (OA_r rfl (VR_loadA_blk (b := b10) (m := 0) (k := 3) (vs := [.int .i64 a0, .int .i64 a1, .slice (some ⟨b5, 0, none⟩) r13.length ((IntKind.i64.wrap (a0 * a1)).toNat)]) Try.underlying67 rfl sz67 rfl rfl rfl) ?_)
  refine RA_step rfl (OA_st (b := b3) (m := 0) (k := 2) (vs := [.int .i64 a0, .int .i64 a1, .slice (some ⟨b5, 0, none⟩) r13.length ((IntKind.i64.wrap (a0 * a1)).toNat)]) (cs' := [.int .i64 a0, .int .i64 a1, .slice (some ⟨b5, 0, none⟩) r13.length ((IntKind.i64.wrap (a0 * a1)).toNat)]) rfl rfl rfl rfl rfl rfl sz67 rfl rfl ?_)
  refine RA_nil ?_
  refine at_normal ?_
  refine SA_ret ?_
  have hr_ := Option.some.inj H
  subst hr_
  exact BQ_RL (rs := [.cell 6 67]) (vs := [.agg #[.int .i64 a0, .int .i64 a1, .slice (some ⟨b5, 0, none⟩) r13.length ((IntKind.i64.wrap (a0 * a1)).toNat)]]) [Buf k76 76 (some ⟨b5, 0, none⟩) ((IntKind.i64.wrap (a0 * a1)).toNat) r13] rfl ⟨RV.cell (k := 2) rfl rfl Try.underlying67 rfl sz67, trivial⟩ rfl (Gh.sel [0] rfl rfl) ⟨some ⟨b5, 0, none⟩, (IntKind.i64.wrap (a0 * a1)).toNat, rfl, rfl⟩

/-! ### function 44: wayfarer/grid.New -/
def F44.f (k : Nat) (a0 : Int) (a1 : Int) (a2 : S70) : Option (S67 × Int) := (F78.f a0 a1).bind (fun r5 => (if (!r5) = true then (some true) else ((F71.f a2).bind (fun r8 => some (!r8))) : Option Bool).bind (fun q6 => if q6 = true then (some (((S67.mk 0 0 ([] : (List S76))), 2))) else ((F79.f k a0 a1 a2).bind (fun r13 => some ((r13, 0))))))
set_option maxHeartbeats 2000000 in
set_option maxRecDepth 100000 in
theorem F44.ok {k : Nat} {a0 : Int} {a1 : Int} {a2 : S70} {r : S67 × Int} (H : F44.f k a0 a1 a2 = some r) : SCA Try.prog 44 #[.int .i64 a0, .int .i64 a1, .agg #[.int .i64 a2.f0, .int .i64 a2.f1, .bool a2.f2, .bool a2.f3, .bool a2.f4, .bool a2.f5, .bool a2.f6, .bool a2.f7, .bool a2.f8, .bool a2.f9]] [] (fun v B => ∃ (A0_0_ : Option Addr) (c0_0_ : Nat), v = .tuple #[.agg #[.int .i64 r.1.f0, .int .i64 r.1.f1, .slice A0_0_ r.1.f2.length c0_0_], .int .i64 r.2] ∧ B = [Buf k76 76 A0_0_ c0_0_ r.1.f2]) := by
  refine SCA_of_body Try.func44 rfl rfl ?_
  unfold F44.f at H
  refine SA_seq ?_
  refine SA_region ?_
  refine RA_step rfl (OA_box rfl rfl fun b1 => ?_)
  refine RA_step rfl (OA_alloc rfl zero67 fun b3 => ?_)
  refine RA_step rfl (OA_v (v := .int .i64 0) rfl (V_assign rfl) ?_)
  refine RA_nil ?_
  refine at_normal ?_
  refine SA_seq ?_
  refine SA_seq ?_
  refine SA_region ?_
  refine RA_step rfl (OA_v (v := .int .i64 a0) rfl (V_move rfl) ?_)
  refine RA_step rfl (OA_v (v := .int .i64 a1) rfl (V_move rfl) ?_)
  obtain ⟨r5, C18, H⟩ := g_bind H
  refine RA_step rfl (OA_callA [] [0, 1] rfl (X_fn (vs := [.int .i64 a0, .int .i64 a1]) Try.func78 nm78 rfl rfl) rfl (F78.ok (a0 := a0) (a1 := a1) C18) rfl ?_)
  rintro _ _ ⟨rfl, rfl⟩
  refine RA_step rfl (OA_v (v := .bool (!r5)) rfl (V_not rfl) ?_)
  refine RA_step rfl (OA_v (v := .bool (!r5)) rfl (V_move rfl) ?_)
  obtain ⟨q6, H, Bq6⟩ := g_bind H
  refine RA_cut 4 (fun e ds As => St [(0, .int .i64 a0), (1, .int .i64 a1), (5, .pointer (some ⟨b1, 0, none⟩)), (6, .pointer (some ⟨b3, 0, none⟩)), (16, .bool q6)] [Blk b1 70 [.int .i64 a2.f0, .int .i64 a2.f1, .bool a2.f2, .bool a2.f3, .bool a2.f4, .bool a2.f5, .bool a2.f6, .bool a2.f7, .bool a2.f8, .bool a2.f9], Blk b3 67 [.int .i64 0, .int .i64 0, .slice none 0 0]] e ds As) ?_ ?_
  · by_cases h7 : (!r5) = true
    · replace H := g_ift h7 H
      refine RA_noB rfl rfl rfl rfl (h7) rfl ?_
      refine RA_noB rfl rfl rfl rfl (h7) rfl ?_
      refine RA_noB rfl rfl rfl rfl (h7) rfl ?_
      refine RA_step rfl (OA_v rfl (V_pickT rfl (h7) rfl) ?_)
      have hr_ := Option.some.inj H
      subst hr_
      refine RA_nil ?_
      exact at_normal (St.mk1 (aeq rfl (aeq rfl (aeq rfl (aeq rfl (aeq rfl aeq0))))) (Gh.sel [0, 1] rfl rfl))
    replace H := g_iff h7 H
    refine RA_yesB rfl rfl rfl rfl (bno h7) (OA_r rfl (VR_loadA_blk (b := b1) (m := 0) (k := 0) (vs := [.int .i64 a2.f0, .int .i64 a2.f1, .bool a2.f2, .bool a2.f3, .bool a2.f4, .bool a2.f5, .bool a2.f6, .bool a2.f7, .bool a2.f8, .bool a2.f9]) Try.underlying70 rfl sz70 rfl rfl rfl) ?_)
    obtain ⟨r8, C9, H⟩ := g_bind H
    refine RA_yesB rfl rfl rfl rfl (bno h7) (OA_callA [] [0, 1] rfl (X_fn (vs := [.agg #[.int .i64 a2.f0, .int .i64 a2.f1, .bool a2.f2, .bool a2.f3, .bool a2.f4, .bool a2.f5, .bool a2.f6, .bool a2.f7, .bool a2.f8, .bool a2.f9]]) Try.func71 nm71 rfl rfl) rfl (F71.ok (a0 := a2) C9) rfl ?_)
    rintro _ _ ⟨rfl, rfl⟩
    refine RA_yesB rfl rfl rfl rfl (bno h7) (OA_v (v := .bool (!r8)) rfl (V_not rfl) ?_)
    refine RA_step rfl (OA_v rfl (V_pickF rfl (bno h7) rfl) ?_)
    have hr_ := Option.some.inj H
    subst hr_
    refine RA_nil ?_
    exact at_normal (St.mk1 (aeq rfl (aeq rfl (aeq rfl (aeq rfl (aeq rfl aeq0))))) (Gh.sel [0, 1] rfl rfl))
  rintro e ds As hst10
  clear H
  have H := Bq6
  clear Bq6
  refine RA_nil ?_
  refine at_normal ?_
  refine SA.of_St hst10 fun junk => ?_
  by_cases h11 : q6 = true
  · replace H := g_ift h11 H
    refine SA_condTb rfl h11 ?_
    refine SA_seq ?_
    refine SA_region ?_
    refine RA_step rfl (OA_v (v := .agg #[.int .i64 0, .int .i64 0, .slice none 0 0]) rfl (V_build (cells := [.int .i64 0, .int .i64 0, .slice none 0 0]) zero67 Try.underlying67 plc67 (by kernel_rfl)) ?_)
    refine RA_step rfl (OA_st (b := b3) (m := 0) (k := 1) (vs := [.int .i64 0, .int .i64 0, .slice none 0 0]) (cs' := [.int .i64 0, .int .i64 0, .slice none 0 0]) rfl rfl rfl rfl rfl rfl sz67 rfl rfl ?_)
    refine RA_step rfl (OA_v (v := .int .i64 2) rfl (V_assign rfl) ?_)
    refine RA_nil ?_
    refine at_normal ?_
    refine SA_ret ?_
    refine thn_ret ?_
    have hr_ := Option.some.inj H
    subst hr_
    exact BQ_RL (rs := [.cell 6 67, .tmp 7]) (vs := [.agg #[.int .i64 0, .int .i64 0, .slice none 0 0], .int .i64 2]) [Buf k76 76 none 0 ([] : (List S76))] rfl ⟨RV.cell (k := 1) rfl rfl Try.underlying67 rfl sz67, RV.tmp rfl, trivial⟩ rfl ((Gh.nilBuf k76 76).trans (Gh.sel [2] rfl rfl)) ⟨none, 0, rfl, rfl⟩
  replace H := g_iff h11 H
  refine SA_condFb rfl h11 ?_
  refine SA_skip ?_
  refine at_normal ?_
  refine SA_seq ?_
  refine SA_region ?_
  refine RA_step rfl (OA_v (v := .int .i64 a0) rfl (V_move rfl) ?_)
  refine RA_step rfl (OA_v (v := .int .i64 a1) rfl (V_move rfl) ?_)
  refine RA_step rfl (OA_r rfl (VR_loadA_blk (b := b1) (m := 0) (k := 0) (vs := [.int .i64 a2.f0, .int .i64 a2.f1, .bool a2.f2, .bool a2.f3, .bool a2.f4, .bool a2.f5, .bool a2.f6, .bool a2.f7, .bool a2.f8, .bool a2.f9]) Try.underlying70 rfl sz70 rfl rfl rfl) ?_)
  obtain ⟨r13, C17, H⟩ := g_bind H
  refine RA_step rfl (OA_callA [] [0, 1] rfl (X_fn (vs := [.int .i64 a0, .int .i64 a1, .agg #[.int .i64 a2.f0, .int .i64 a2.f1, .bool a2.f2, .bool a2.f3, .bool a2.f4, .bool a2.f5, .bool a2.f6, .bool a2.f7, .bool a2.f8, .bool a2.f9]]) Try.func79 nm79 rfl rfl) rfl (F79.ok (a0 := a0) (a1 := a1) (a2 := a2) C17) rfl ?_)
  rintro _ _ ⟨A14, c15, rfl, rfl⟩
  refine RA_step rfl (OA_st (b := b3) (m := 0) (k := 2) (vs := [.int .i64 r13.f0, .int .i64 r13.f1, .slice A14 r13.f2.length c15]) (cs' := [.int .i64 r13.f0, .int .i64 r13.f1, .slice A14 r13.f2.length c15]) rfl rfl rfl rfl rfl rfl sz67 rfl rfl ?_)
  refine RA_step rfl (OA_v (v := .int .i64 0) rfl (V_assign rfl) ?_)
  refine RA_nil ?_
  refine at_normal ?_
  refine SA_ret ?_
  have hr_ := Option.some.inj H
  subst hr_
  exact BQ_RL (rs := [.cell 6 67, .tmp 7]) (vs := [.agg #[.int .i64 r13.f0, .int .i64 r13.f1, .slice A14 r13.f2.length c15], .int .i64 0]) [Buf k76 76 A14 c15 r13.f2] rfl ⟨RV.cell (k := 2) rfl rfl Try.underlying67 rfl sz67, RV.tmp rfl, trivial⟩ rfl (Gh.sel [0] rfl rfl) ⟨A14, c15, rfl, rfl⟩

/-! ### function 67: wayfarer/wayfarerref15.side -/
def F67.f (a0 : Int) : Option (Bool) := lt ((decide (a0 ≥ 1)) && (decide (a0 ≤ 512))) fun q1 => some (q1)
set_option maxHeartbeats 2000000 in
set_option maxRecDepth 100000 in
theorem F67.ok {a0 : Int} {r : Bool} (H : F67.f a0 = some r) : SCA Try.prog 67 #[.int .i64 a0] [] (fun v B => v = .bool r ∧ B = []) := by
  refine SCA_of_body Try.func67 rfl rfl ?_
  unfold F67.f at H
  refine SA_seq ?_
  refine SA_region ?_
  refine RA_step rfl (OA_v (v := .bool false) rfl (V_assign rfl) ?_)
  refine RA_nil ?_
  refine at_normal ?_
  refine SA_seq ?_
  refine SA_region ?_
  refine RA_step rfl (OA_v (v := .int .i64 a0) rfl (V_move rfl) ?_)
  refine RA_step rfl (OA_v (v := .bool (decide (a0 ≥ 1))) rfl (V_geq rfl rfl) ?_)
  refine RA_step rfl (OA_v (v := .bool (decide (a0 ≥ 1))) rfl (V_move rfl) ?_)
  obtain ⟨q1, hq1, H⟩ := g_lt H
  refine RA_cut 3 (fun e ds As => St [(8, .bool q1)] [] e ds As) ?_ ?_
  · by_cases h2 : a0 ≥ 1
    · refine RA_yesB rfl rfl rfl rfl (dec_t h2) (OA_v (v := .int .i64 a0) rfl (V_move rfl) ?_)
      refine RA_yesB rfl rfl rfl rfl (dec_t h2) (OA_v (v := .bool (decide (a0 ≤ 512))) rfl (V_leq rfl rfl) ?_)
      refine RA_step rfl (OA_v rfl (V_pickT rfl (dec_t h2) rfl) ?_)
      refine RA_nil ?_
      exact at_normal (St.mk1 (aeq (congrArg Value.bool (and_t hq1 (dec_t h2))) aeq0) (Gh.sel [] rfl rfl))
    refine RA_noB rfl rfl rfl rfl (dec_f h2) rfl ?_
    refine RA_noB rfl rfl rfl rfl (dec_f h2) rfl ?_
    refine RA_step rfl (OA_v rfl (V_pickF rfl (dec_f h2) rfl) ?_)
    refine RA_nil ?_
    exact at_normal (St.mk1 (aeq (congrArg Value.bool (and_f hq1 (dec_f h2))) aeq0) (Gh.sel [] rfl rfl))
  rintro e ds As hst3
  refine RA.of_St rfl hst3 fun junk => ?_
  refine RA_step rfl (OA_v (v := .bool q1) rfl (V_assign rfl) ?_)
  refine RA_nil ?_
  refine at_normal ?_
  refine SA_ret ?_
  have hr_ := Option.some.inj H
  subst hr_
  exact BQ_R1 [] rfl rfl (Gh.sel [] rfl rfl) ⟨rfl, rfl⟩

/-! ### function 113: wayfarer/wayfarerref14.colour -/
def F113.f (a0 : Int) : Option (Bool) := lt ((decide (a0 ≥ (-1))) && (decide (a0 ≤ 255))) fun q1 => some (q1)
set_option maxHeartbeats 2000000 in
set_option maxRecDepth 100000 in
theorem F113.ok {a0 : Int} {r : Bool} (H : F113.f a0 = some r) : SCA Try.prog 113 #[.int .i64 a0] [] (fun v B => v = .bool r ∧ B = []) := by
  refine SCA_of_body Try.func113 rfl rfl ?_
  unfold F113.f at H
  refine SA_seq ?_
  refine SA_region ?_
  refine RA_step rfl (OA_v (v := .bool false) rfl (V_assign rfl) ?_)
  refine RA_nil ?_
  refine at_normal ?_
  refine SA_seq ?_
  refine SA_region ?_
  refine RA_step rfl (OA_v (v := .int .i64 a0) rfl (V_move rfl) ?_)
  refine RA_step rfl (OA_v (v := .bool (decide (a0 ≥ (-1)))) rfl (V_geq rfl rfl) ?_)
  refine RA_step rfl (OA_v (v := .bool (decide (a0 ≥ (-1)))) rfl (V_move rfl) ?_)
  obtain ⟨q1, hq1, H⟩ := g_lt H
  refine RA_cut 3 (fun e ds As => St [(8, .bool q1)] [] e ds As) ?_ ?_
  · by_cases h2 : a0 ≥ (-1)
    · refine RA_yesB rfl rfl rfl rfl (dec_t h2) (OA_v (v := .int .i64 a0) rfl (V_move rfl) ?_)
      refine RA_yesB rfl rfl rfl rfl (dec_t h2) (OA_v (v := .bool (decide (a0 ≤ 255))) rfl (V_leq rfl rfl) ?_)
      refine RA_step rfl (OA_v rfl (V_pickT rfl (dec_t h2) rfl) ?_)
      refine RA_nil ?_
      exact at_normal (St.mk1 (aeq (congrArg Value.bool (and_t hq1 (dec_t h2))) aeq0) (Gh.sel [] rfl rfl))
    refine RA_noB rfl rfl rfl rfl (dec_f h2) rfl ?_
    refine RA_noB rfl rfl rfl rfl (dec_f h2) rfl ?_
    refine RA_step rfl (OA_v rfl (V_pickF rfl (dec_f h2) rfl) ?_)
    refine RA_nil ?_
    exact at_normal (St.mk1 (aeq (congrArg Value.bool (and_f hq1 (dec_f h2))) aeq0) (Gh.sel [] rfl rfl))
  rintro e ds As hst3
  refine RA.of_St rfl hst3 fun junk => ?_
  refine RA_step rfl (OA_v (v := .bool q1) rfl (V_assign rfl) ?_)
  refine RA_nil ?_
  refine at_normal ?_
  refine SA_ret ?_
  have hr_ := Option.some.inj H
  subst hr_
  exact BQ_R1 [] rfl rfl (Gh.sel [] rfl rfl) ⟨rfl, rfl⟩

/-! ### function 89: wayfarer/wayfarerref14.MayStyle -/
def F89.f (a0 : S70) : Option (Bool) := (F113.f a0.f0).bind (fun r3 => (if r3 = true then ((F113.f a0.f1).bind (fun r6 => some r6)) else (some false) : Option Bool).bind (fun q4 => some (q4)))
set_option maxHeartbeats 2000000 in
set_option maxRecDepth 100000 in
theorem F89.ok {a0 : S70} {r : Bool} (H : F89.f a0 = some r) : SCA Try.prog 89 #[.agg #[.int .i64 a0.f0, .int .i64 a0.f1, .bool a0.f2, .bool a0.f3, .bool a0.f4, .bool a0.f5, .bool a0.f6, .bool a0.f7, .bool a0.f8, .bool a0.f9]] [] (fun v B => v = .bool r ∧ B = []) := by
  refine SCA_of_body Try.func89 rfl rfl ?_
  unfold F89.f at H
  refine SA_seq ?_
  refine SA_region ?_
  refine RA_step rfl (OA_box rfl rfl fun b1 => ?_)
  refine RA_step rfl (OA_v (v := .bool false) rfl (V_assign rfl) ?_)
  refine RA_nil ?_
  refine at_normal ?_
  refine SA_seq ?_
  refine SA_region ?_
  refine RA_step rfl (OA_v (v := .pointer (some ⟨b1, 0, none⟩)) rfl (V_fieldAddrN (B := ⟨b1, 0, none⟩) (m := 0) (o := 0) Try.underlying70 rfl nz3 rfl rfl) ?_)
  refine RA_step rfl (OA_r rfl (VR_load_blk (b := b1) (m := 0) (k := 0) Try.underlying3 rfl rfl rfl rfl) ?_)
  obtain ⟨r3, C9, H⟩ := g_bind H
  refine RA_step rfl (OA_callA [] [0] rfl (X_fn (vs := [.int .i64 a0.f0]) Try.func113 nm113 rfl rfl) rfl (F113.ok (a0 := a0.f0) C9) rfl ?_)
  rintro _ _ ⟨rfl, rfl⟩
  refine RA_step rfl (OA_v (v := .bool r3) rfl (V_move rfl) ?_)
  obtain ⟨q4, H, Bq4⟩ := g_bind H
  refine RA_cut 4 (fun e ds As => St [(10, .bool q4)] [] e ds As) ?_ ?_
  · by_cases h5 : r3 = true
    · replace H := g_ift h5 H
      refine RA_yesB rfl rfl rfl rfl (h5) (OA_v (v := .pointer (some ((⟨b1, 0, none⟩ : Addr).add 1))) rfl (V_fieldAddrN (B := ⟨b1, 0, none⟩) (m := 0) (o := 1) Try.underlying70 rfl nz3 rfl rfl) ?_)
      refine RA_yesB rfl rfl rfl rfl (h5) (OA_r rfl (VR_load_blk (b := b1) (m := 1) (k := 0) Try.underlying3 rfl rfl rfl rfl) ?_)
      obtain ⟨r6, C7, H⟩ := g_bind H
      refine RA_yesB rfl rfl rfl rfl (h5) (OA_callA [] [0] rfl (X_fn (vs := [.int .i64 a0.f1]) Try.func113 nm113 rfl rfl) rfl (F113.ok (a0 := a0.f1) C7) rfl ?_)
      rintro _ _ ⟨rfl, rfl⟩
      refine RA_step rfl (OA_v rfl (V_pickT rfl (h5) rfl) ?_)
      have hr_ := Option.some.inj H
      subst hr_
      refine RA_nil ?_
      exact at_normal (St.mk1 (aeq rfl aeq0) (Gh.sel [] rfl rfl))
    replace H := g_iff h5 H
    refine RA_noB rfl rfl rfl rfl (bno h5) rfl ?_
    refine RA_noB rfl rfl rfl rfl (bno h5) rfl ?_
    refine RA_noB rfl rfl rfl rfl (bno h5) rfl ?_
    refine RA_step rfl (OA_v rfl (V_pickF rfl (bno h5) rfl) ?_)
    have hr_ := Option.some.inj H
    subst hr_
    refine RA_nil ?_
    exact at_normal (St.mk1 (aeq rfl aeq0) (Gh.sel [] rfl rfl))
  rintro e ds As hst8
  clear H
  have H := Bq4
  clear Bq4
  refine RA.of_St rfl hst8 fun junk => ?_
  refine RA_step rfl (OA_v (v := .bool q4) rfl (V_assign rfl) ?_)
  refine RA_nil ?_
  refine at_normal ?_
  refine SA_ret ?_
  have hr_ := Option.some.inj H
  subst hr_
  exact BQ_R1 [] rfl rfl (Gh.sel [] rfl rfl) ⟨rfl, rfl⟩

/-! ### function 32: wayfarer/wayfarerref14.Plain -/
def F32.f  : Option (S70) := some ((S70.mk (-1) (-1) false false false false false false false false))
set_option maxHeartbeats 2000000 in
set_option maxRecDepth 100000 in
theorem F32.ok  {r : S70} (H : F32.f  = some r) : SCA Try.prog 32 #[] [] (fun v B => v = .agg #[.int .i64 r.f0, .int .i64 r.f1, .bool r.f2, .bool r.f3, .bool r.f4, .bool r.f5, .bool r.f6, .bool r.f7, .bool r.f8, .bool r.f9] ∧ B = []) := by
  refine SCA_of_body Try.func32 rfl rfl ?_
  unfold F32.f at H
  refine SA_seq ?_
  refine SA_region ?_
  refine RA_step rfl (OA_alloc rfl zero70 fun b1 => ?_)
  refine RA_nil ?_
  refine at_normal ?_
  refine SA_seq ?_
  refine SA_region ?_
  refine RA_step rfl (OA_v (v := .agg #[.int .i64 (-1), .int .i64 (-1), .bool false, .bool false, .bool false, .bool false, .bool false, .bool false, .bool false, .bool false]) rfl (V_build (cells := [.int .i64 (-1), .int .i64 (-1), .bool false, .bool false, .bool false, .bool false, .bool false, .bool false, .bool false, .bool false]) zero70 Try.underlying70 plc70 (by kernel_rfl)) ?_)
  refine RA_step rfl (OA_st (b := b1) (m := 0) (k := 0) (vs := [.int .i64 (-1), .int .i64 (-1), .bool false, .bool false, .bool false, .bool false, .bool false, .bool false, .bool false, .bool false]) (cs' := [.int .i64 (-1), .int .i64 (-1), .bool false, .bool false, .bool false, .bool false, .bool false, .bool false, .bool false, .bool false]) rfl rfl rfl rfl rfl rfl sz70 rfl rfl ?_)
  refine RA_nil ?_
  refine at_normal ?_
  refine SA_ret ?_
  have hr_ := Option.some.inj H
  subst hr_
  exact BQ_RL (rs := [.cell 0 70]) (vs := [.agg #[.int .i64 (-1), .int .i64 (-1), .bool false, .bool false, .bool false, .bool false, .bool false, .bool false, .bool false, .bool false]]) [] rfl ⟨RV.cell (k := 0) rfl rfl Try.underlying70 rfl sz70, trivial⟩ rfl (Gh.sel [] rfl rfl) ⟨rfl, rfl⟩

/-! ### function 70: wayfarer/wayfarerref14.Blank -/
def F70.f (a0 : S70) : Option (S76) := (F32.f ).bind (fun r5 => some ((S76.mk 32 (S74.mk 0 0 0) 1 (S70.mk r5.f0 a0.f1 r5.f2 r5.f3 r5.f4 r5.f5 r5.f6 r5.f7 r5.f8 r5.f9))))
set_option maxHeartbeats 2000000 in
set_option maxRecDepth 100000 in
theorem F70.ok {a0 : S70} {r : S76} (H : F70.f a0 = some r) : SCA Try.prog 70 #[.agg #[.int .i64 a0.f0, .int .i64 a0.f1, .bool a0.f2, .bool a0.f3, .bool a0.f4, .bool a0.f5, .bool a0.f6, .bool a0.f7, .bool a0.f8, .bool a0.f9]] [] (fun v B => v = .agg (List.toArray (.int .i32 r.f0 :: .int .i32 r.f1.f0 :: .int .i32 r.f1.f1 :: .int .i32 r.f1.f2 :: .int .u8 r.f2 :: .int .i64 r.f3.f0 :: .int .i64 r.f3.f1 :: .bool r.f3.f2 :: .bool r.f3.f3 :: .bool r.f3.f4 :: .bool r.f3.f5 :: .bool r.f3.f6 :: .bool r.f3.f7 :: .bool r.f3.f8 :: .bool r.f3.f9 :: [])) ∧ B = []) := by
  refine SCA_of_body Try.func70 rfl rfl ?_
  unfold F70.f at H
  refine SA_seq ?_
  refine SA_region ?_
  refine RA_step rfl (OA_box rfl rfl fun b1 => ?_)
  refine RA_step rfl (OA_alloc rfl zero76 fun b3 => ?_)
  refine RA_nil ?_
  refine at_normal ?_
  refine SA_seq ?_
  refine SA_region ?_
  obtain ⟨r5, C8, H⟩ := g_bind H
  refine RA_step rfl (OA_callA [] [0, 1] rfl (X_fn (vs := []) Try.func32 nm32 rfl rfl) rfl (F32.ok C8) rfl ?_)
  rintro _ _ ⟨rfl, rfl⟩
  refine RA_step rfl (OA_alloc rfl zero70 fun b6 => ?_)
  refine RA_step rfl (OA_st (b := b6) (m := 0) (k := 2) (vs := [.int .i64 r5.f0, .int .i64 r5.f1, .bool r5.f2, .bool r5.f3, .bool r5.f4, .bool r5.f5, .bool r5.f6, .bool r5.f7, .bool r5.f8, .bool r5.f9]) (cs' := [.int .i64 r5.f0, .int .i64 r5.f1, .bool r5.f2, .bool r5.f3, .bool r5.f4, .bool r5.f5, .bool r5.f6, .bool r5.f7, .bool r5.f8, .bool r5.f9]) rfl rfl rfl rfl rfl rfl sz70 rfl rfl ?_)
  refine RA_nil ?_
  refine at_normal ?_
  refine SA_seq ?_
  refine SA_region ?_
  refine RA_step rfl (OA_v (v := .pointer (some ((⟨b1, 0, none⟩ : Addr).add 1))) rfl (V_fieldAddrN (B := ⟨b1, 0, none⟩) (m := 0) (o := 1) Try.underlying70 rfl nz3 rfl rfl) ?_)
  refine RA_step rfl (OA_r rfl (VR_load_blk (b := b1) (m := 1) (k := 0) Try.underlying3 rfl rfl rfl rfl) ?_)
  refine RA_step rfl (OA_v (v := .pointer (some ((⟨b6, 0, none⟩ : Addr).add 1))) rfl (V_fieldAddrN (B := ⟨b6, 0, none⟩) (m := 0) (o := 1) Try.underlying70 rfl nz3 rfl rfl) ?_)
  refine RA_step rfl (OA_st (b := b6) (m := 1) (k := 2) (vs := [.int .i64 a0.f1]) (cs' := [.int .i64 r5.f0, .int .i64 a0.f1, .bool r5.f2, .bool r5.f3, .bool r5.f4, .bool r5.f5, .bool r5.f6, .bool r5.f7, .bool r5.f8, .bool r5.f9]) rfl rfl rfl rfl rfl rfl sz3 rfl rfl ?_)
  refine RA_nil ?_
  refine at_normal ?_
  refine SA_seq ?_
  refine SA_region ?_
  refine RA_step rfl (OA_r rfl (VR_loadA_blk (b := b6) (m := 0) (k := 2) (vs := [.int .i64 r5.f0, .int .i64 a0.f1, .bool r5.f2, .bool r5.f3, .bool r5.f4, .bool r5.f5, .bool r5.f6, .bool r5.f7, .bool r5.f8, .bool r5.f9]) Try.underlying70 rfl sz70 rfl rfl rfl) ?_)
  refine RA_step rfl (OA_v (v := .agg (List.toArray (.int .i32 32 :: .int .i32 0 :: .int .i32 0 :: .int .i32 0 :: .int .u8 1 :: .int .i64 r5.f0 :: .int .i64 a0.f1 :: .bool r5.f2 :: .bool r5.f3 :: .bool r5.f4 :: .bool r5.f5 :: .bool r5.f6 :: .bool r5.f7 :: .bool r5.f8 :: .bool r5.f9 :: []))) rfl (V_build (cells := (.int .i32 32 :: .int .i32 0 :: .int .i32 0 :: .int .i32 0 :: .int .u8 1 :: .int .i64 r5.f0 :: .int .i64 a0.f1 :: .bool r5.f2 :: .bool r5.f3 :: .bool r5.f4 :: .bool r5.f5 :: .bool r5.f6 :: .bool r5.f7 :: .bool r5.f8 :: .bool r5.f9 :: [])) zero76 Try.underlying76 plc76 (by kernel_rfl)) ?_)
  refine RA_step rfl (OA_st (b := b3) (m := 0) (k := 1) (vs := (.int .i32 32 :: .int .i32 0 :: .int .i32 0 :: .int .i32 0 :: .int .u8 1 :: .int .i64 r5.f0 :: .int .i64 a0.f1 :: .bool r5.f2 :: .bool r5.f3 :: .bool r5.f4 :: .bool r5.f5 :: .bool r5.f6 :: .bool r5.f7 :: .bool r5.f8 :: .bool r5.f9 :: [])) (cs' := (.int .i32 32 :: .int .i32 0 :: .int .i32 0 :: .int .i32 0 :: .int .u8 1 :: .int .i64 r5.f0 :: .int .i64 a0.f1 :: .bool r5.f2 :: .bool r5.f3 :: .bool r5.f4 :: .bool r5.f5 :: .bool r5.f6 :: .bool r5.f7 :: .bool r5.f8 :: .bool r5.f9 :: [])) rfl rfl rfl rfl rfl rfl sz76 rfl rfl ?_)
  refine RA_nil ?_
  refine at_normal ?_
  refine SA_ret ?_
  have hr_ := Option.some.inj H
  subst hr_
  exact BQ_RL (rs := [.cell 2 76]) (vs := [.agg (List.toArray (.int .i32 32 :: .int .i32 0 :: .int .i32 0 :: .int .i32 0 :: .int .u8 1 :: .int .i64 r5.f0 :: .int .i64 a0.f1 :: .bool r5.f2 :: .bool r5.f3 :: .bool r5.f4 :: .bool r5.f5 :: .bool r5.f6 :: .bool r5.f7 :: .bool r5.f8 :: .bool r5.f9 :: []))]) [] rfl ⟨RV.cell (k := 1) rfl rfl Try.underlying76 rfl sz76, trivial⟩ rfl (Gh.sel [] rfl rfl) ⟨rfl, rfl⟩

/-! ### function 45: wayfarer/wayfarerref15.New -/
def F45.l0 (a0 : Int) (a1 : Int) (a2 : S70) : Nat → S67 → Int → Option (S67)
  | 0, _, _ => none
  | k + 1, x8_24, x9_24 => if x9_24 < (IntKind.i64.wrap (a0 * a1)) then ((F70.f a2).bind (fun r213 => if x8_24.f2.length + ([r213] : (List S76)).length ≤ 2932031007402 then lt (x8_24.f2 ++ ([r213] : (List S76))) fun n337 => (lt (IntKind.i64.wrap (x9_24 + 1)) fun n514 => F45.l0 a0 a1 a2 k (S67.mk x8_24.f0 x8_24.f1 n337) n514) else none)) else (some x8_24)
def F45.f (k : Nat) (a0 : Int) (a1 : Int) (a2 : S70) : Option (S67 × Int) := (F67.f a0).bind (fun r5 => (if (!r5) = true then (some true) else ((F67.f a1).bind (fun r8 => some (!r8))) : Option Bool).bind (fun q6 => (if q6 = true then (some true) else ((F89.f a2).bind (fun r13 => some (!r13))) : Option Bool).bind (fun q11 => if q11 = true then (some (((S67.mk 0 0 ([] : (List S76))), 2))) else ((F45.l0 a0 a1 a2 k (S67.mk a0 a1 ([] : (List S76))) 0 : Option (S67)).bind (fun t20 => some ((t20, 0)))))))
set_option maxHeartbeats 2000000 in
set_option maxRecDepth 100000 in
theorem F45.ok {k : Nat} {a0 : Int} {a1 : Int} {a2 : S70} {r : S67 × Int} (H : F45.f k a0 a1 a2 = some r) : SCA Try.prog 45 #[.int .i64 a0, .int .i64 a1, .agg #[.int .i64 a2.f0, .int .i64 a2.f1, .bool a2.f2, .bool a2.f3, .bool a2.f4, .bool a2.f5, .bool a2.f6, .bool a2.f7, .bool a2.f8, .bool a2.f9]] [] (fun v B => ∃ (A0_0_ : Option Addr) (c0_0_ : Nat), v = .tuple #[.agg #[.int .i64 r.1.f0, .int .i64 r.1.f1, .slice A0_0_ r.1.f2.length c0_0_], .int .i64 r.2] ∧ B = [Buf k76 76 A0_0_ c0_0_ r.1.f2]) := by
  refine SCA_of_body Try.func45 rfl rfl ?_
  unfold F45.f at H
  refine SA_seq ?_
  refine SA_region ?_
  refine RA_step rfl (OA_box rfl rfl fun b1 => ?_)
  refine RA_step rfl (OA_alloc rfl zero67 fun b3 => ?_)
  refine RA_step rfl (OA_v (v := .int .i64 0) rfl (V_assign rfl) ?_)
  refine RA_nil ?_
  refine at_normal ?_
  refine SA_seq ?_
  refine SA_seq ?_
  refine SA_region ?_
  refine RA_step rfl (OA_v (v := .int .i64 a0) rfl (V_move rfl) ?_)
  obtain ⟨r5, C516, H⟩ := g_bind H
  refine RA_step rfl (OA_callA [] [0, 1] rfl (X_fn (vs := [.int .i64 a0]) Try.func67 nm67 rfl rfl) rfl (F67.ok (a0 := a0) C516) rfl ?_)
  rintro _ _ ⟨rfl, rfl⟩
  refine RA_step rfl (OA_v (v := .bool (!r5)) rfl (V_not rfl) ?_)
  refine RA_step rfl (OA_v (v := .bool (!r5)) rfl (V_move rfl) ?_)
  obtain ⟨q6, H, Bq6⟩ := g_bind H
  refine RA_cut 4 (fun e ds As => St [(0, .int .i64 a0), (1, .int .i64 a1), (5, .pointer (some ⟨b1, 0, none⟩)), (6, .pointer (some ⟨b3, 0, none⟩)), (17, .bool q6)] [Blk b1 70 [.int .i64 a2.f0, .int .i64 a2.f1, .bool a2.f2, .bool a2.f3, .bool a2.f4, .bool a2.f5, .bool a2.f6, .bool a2.f7, .bool a2.f8, .bool a2.f9], Blk b3 67 [.int .i64 0, .int .i64 0, .slice none 0 0]] e ds As) ?_ ?_
  · by_cases h7 : (!r5) = true
    · replace H := g_ift h7 H
      refine RA_noB rfl rfl rfl rfl (h7) rfl ?_
      refine RA_noB rfl rfl rfl rfl (h7) rfl ?_
      refine RA_noB rfl rfl rfl rfl (h7) rfl ?_
      refine RA_step rfl (OA_v rfl (V_pickT rfl (h7) rfl) ?_)
      have hr_ := Option.some.inj H
      subst hr_
      refine RA_nil ?_
      exact at_normal (St.mk1 (aeq rfl (aeq rfl (aeq rfl (aeq rfl (aeq rfl aeq0))))) (Gh.sel [0, 1] rfl rfl))
    replace H := g_iff h7 H
    refine RA_yesB rfl rfl rfl rfl (bno h7) (OA_v (v := .int .i64 a1) rfl (V_move rfl) ?_)
    obtain ⟨r8, C9, H⟩ := g_bind H
    refine RA_yesB rfl rfl rfl rfl (bno h7) (OA_callA [] [0, 1] rfl (X_fn (vs := [.int .i64 a1]) Try.func67 nm67 rfl rfl) rfl (F67.ok (a0 := a1) C9) rfl ?_)
    rintro _ _ ⟨rfl, rfl⟩
    refine RA_yesB rfl rfl rfl rfl (bno h7) (OA_v (v := .bool (!r8)) rfl (V_not rfl) ?_)
    refine RA_step rfl (OA_v rfl (V_pickF rfl (bno h7) rfl) ?_)
    have hr_ := Option.some.inj H
    subst hr_
    refine RA_nil ?_
    exact at_normal (St.mk1 (aeq rfl (aeq rfl (aeq rfl (aeq rfl (aeq rfl aeq0))))) (Gh.sel [0, 1] rfl rfl))
  rintro e ds As hst10
  clear H
  have H := Bq6
  clear Bq6
  refine RA.of_St rfl hst10 fun junk => ?_
  refine RA_step rfl (OA_v (v := .bool q6) rfl (V_move rfl) ?_)
  obtain ⟨q11, H, Bq11⟩ := g_bind H
  refine RA_cut 4 (fun e ds As => St [(0, .int .i64 a0), (1, .int .i64 a1), (5, .pointer (some ⟨b1, 0, none⟩)), (6, .pointer (some ⟨b3, 0, none⟩)), (22, .bool q11)] [Blk b1 70 [.int .i64 a2.f0, .int .i64 a2.f1, .bool a2.f2, .bool a2.f3, .bool a2.f4, .bool a2.f5, .bool a2.f6, .bool a2.f7, .bool a2.f8, .bool a2.f9], Blk b3 67 [.int .i64 0, .int .i64 0, .slice none 0 0]] e ds As) ?_ ?_
  · by_cases h12 : q6 = true
    · replace H := g_ift h12 H
      refine RA_noB rfl rfl rfl rfl (h12) rfl ?_
      refine RA_noB rfl rfl rfl rfl (h12) rfl ?_
      refine RA_noB rfl rfl rfl rfl (h12) rfl ?_
      refine RA_step rfl (OA_v rfl (V_pickT rfl (h12) rfl) ?_)
      have hr_ := Option.some.inj H
      subst hr_
      refine RA_nil ?_
      exact at_normal (St.mk1 (aeq rfl (aeq rfl (aeq rfl (aeq rfl (aeq rfl aeq0))))) (Gh.sel [0, 1] rfl rfl))
    replace H := g_iff h12 H
    refine RA_yesB rfl rfl rfl rfl (bno h12) (OA_r rfl (VR_loadA_blk (b := b1) (m := 0) (k := 0) (vs := [.int .i64 a2.f0, .int .i64 a2.f1, .bool a2.f2, .bool a2.f3, .bool a2.f4, .bool a2.f5, .bool a2.f6, .bool a2.f7, .bool a2.f8, .bool a2.f9]) Try.underlying70 rfl sz70 rfl rfl rfl) ?_)
    obtain ⟨r13, C14, H⟩ := g_bind H
    refine RA_yesB rfl rfl rfl rfl (bno h12) (OA_callA [] [0, 1] rfl (X_fn (vs := [.agg #[.int .i64 a2.f0, .int .i64 a2.f1, .bool a2.f2, .bool a2.f3, .bool a2.f4, .bool a2.f5, .bool a2.f6, .bool a2.f7, .bool a2.f8, .bool a2.f9]]) Try.func89 nm89 rfl rfl) rfl (F89.ok (a0 := a2) C14) rfl ?_)
    rintro _ _ ⟨rfl, rfl⟩
    refine RA_yesB rfl rfl rfl rfl (bno h12) (OA_v (v := .bool (!r13)) rfl (V_not rfl) ?_)
    refine RA_step rfl (OA_v rfl (V_pickF rfl (bno h12) rfl) ?_)
    have hr_ := Option.some.inj H
    subst hr_
    refine RA_nil ?_
    exact at_normal (St.mk1 (aeq rfl (aeq rfl (aeq rfl (aeq rfl (aeq rfl aeq0))))) (Gh.sel [0, 1] rfl rfl))
  rintro e ds As hst15
  clear H
  have H := Bq11
  clear Bq11
  refine RA_nil ?_
  refine at_normal ?_
  refine SA.of_St hst15 fun junk => ?_
  by_cases h16 : q11 = true
  · replace H := g_ift h16 H
    refine SA_condTb rfl h16 ?_
    refine SA_seq ?_
    refine SA_region ?_
    refine RA_step rfl (OA_v (v := .agg #[.int .i64 0, .int .i64 0, .slice none 0 0]) rfl (V_build (cells := [.int .i64 0, .int .i64 0, .slice none 0 0]) zero67 Try.underlying67 plc67 (by kernel_rfl)) ?_)
    refine RA_step rfl (OA_st (b := b3) (m := 0) (k := 1) (vs := [.int .i64 0, .int .i64 0, .slice none 0 0]) (cs' := [.int .i64 0, .int .i64 0, .slice none 0 0]) rfl rfl rfl rfl rfl rfl sz67 rfl rfl ?_)
    refine RA_step rfl (OA_v (v := .int .i64 2) rfl (V_assign rfl) ?_)
    refine RA_nil ?_
    refine at_normal ?_
    refine SA_ret ?_
    refine thn_ret ?_
    have hr_ := Option.some.inj H
    subst hr_
    exact BQ_RL (rs := [.cell 6 67, .tmp 7]) (vs := [.agg #[.int .i64 0, .int .i64 0, .slice none 0 0], .int .i64 2]) [Buf k76 76 none 0 ([] : (List S76))] rfl ⟨RV.cell (k := 1) rfl rfl Try.underlying67 rfl sz67, RV.tmp rfl, trivial⟩ rfl ((Gh.nilBuf k76 76).trans (Gh.sel [2] rfl rfl)) ⟨none, 0, rfl, rfl⟩
  replace H := g_iff h16 H
  refine SA_condFb rfl h16 ?_
  refine SA_skip ?_
  refine at_normal ?_
  refine SA_seq ?_
  refine SA_region ?_
  refine RA_step rfl (OA_v (v := .int .i64 a0) rfl (V_move rfl) ?_)
  refine RA_step rfl (OA_v (v := .int .i64 a1) rfl (V_move rfl) ?_)
  refine RA_step rfl (OA_v (v := .agg #[.int .i64 a0, .int .i64 a1, .slice none 0 0]) rfl (V_build (cells := [.int .i64 a0, .int .i64 a1, .slice none 0 0]) zero67 Try.underlying67 plc67 (by kernel_rfl)) ?_)
  refine RA_step rfl (OA_alloc rfl zero67 fun b18 => ?_)
  refine RA_step rfl (OA_st (b := b18) (m := 0) (k := 2) (vs := [.int .i64 a0, .int .i64 a1, .slice none 0 0]) (cs' := [.int .i64 a0, .int .i64 a1, .slice none 0 0]) rfl rfl rfl rfl rfl rfl sz67 rfl rfl ?_)
  refine RA_nil ?_
  refine at_normal ?_
  refine SA_seq ?_
  refine SA_seq ?_
  refine SA_region ?_
  refine RA_step rfl (OA_v (v := .int .i64 0) rfl (V_assign rfl) ?_)
  refine RA_nil ?_
  refine at_normal ?_
  obtain ⟨t20, H, Bt20⟩ := g_bind H
  refine SA_mid (fun e ds As => ∃ (b21 : Nat), ∃ (A22 : Option Addr) (c23 : Nat), St [(6, .pointer (some ⟨b3, 0, none⟩)), (8, .pointer (some ⟨b21, 0, none⟩))] [Blk b21 67 [.int .i64 t20.f0, .int .i64 t20.f1, .slice A22 t20.f2.length c23], Buf k76 76 A22 c23 t20.f2, Blk b3 67 [.int .i64 0, .int .i64 0, .slice none 0 0]] e ds As) ?_ ?_
  · refine SA_block ?_
    refine SA_loop (fun k_ e ds As => ∃ (x8_24 : S67) (x9_24 : Int), ∃ (b25 : Nat), ∃ (A26 : Option Addr) (c27 : Nat), F45.l0 a0 a1 a2 k_ x8_24 x9_24 = some t20 ∧ St [(0, .int .i64 a0), (1, .int .i64 a1), (5, .pointer (some ⟨b1, 0, none⟩)), (6, .pointer (some ⟨b3, 0, none⟩)), (8, .pointer (some ⟨b25, 0, none⟩)), (9, .int .i64 x9_24)] [Blk b1 70 [.int .i64 a2.f0, .int .i64 a2.f1, .bool a2.f2, .bool a2.f3, .bool a2.f4, .bool a2.f5, .bool a2.f6, .bool a2.f7, .bool a2.f8, .bool a2.f9], Blk b3 67 [.int .i64 0, .int .i64 0, .slice none 0 0], Blk b25 67 [.int .i64 x8_24.f0, .int .i64 x8_24.f1, .slice A26 x8_24.f2.length c27], Buf k76 76 A26 c27 x8_24.f2] e ds As) (k := k) ⟨_, _, b18, none, 0, H, St.mk1 (aeq rfl (aeq rfl (aeq rfl (aeq rfl (aeq rfl (aeq rfl aeq0)))))) ((Gh.nilBuf k76 76).trans (Gh.sel [0, 1, 2, 3] rfl rfl))⟩ ?_
    clear H
    rintro k30 e ds As ⟨x8_24, x9_24, b25, A26, c27, H, hst31⟩
    obtain _ | k30 := k30
    · cases H
    rw [F45.l0] at H
    refine SA.of_St hst31 fun junk => ?_
    refine SA_seq ?_
    refine SA_seq ?_
    refine SA_region ?_
    refine RA_step rfl (OA_v (v := .int .i64 x9_24) rfl (V_move rfl) ?_)
    refine RA_step rfl (OA_v (v := .int .i64 a0) rfl (V_move rfl) ?_)
    refine RA_step rfl (OA_v (v := .int .i64 a1) rfl (V_move rfl) ?_)
    refine RA_step rfl (OA_v (v := .int .i64 (IntKind.i64.wrap (a0 * a1))) rfl (V_mul rfl rfl) ?_)
    refine RA_step rfl (OA_v (v := .bool (decide (x9_24 < (IntKind.i64.wrap (a0 * a1))))) rfl (V_lss rfl rfl) ?_)
    refine RA_nil ?_
    refine at_normal ?_
    by_cases h32 : x9_24 < (IntKind.i64.wrap (a0 * a1))
    · replace H := g_ift h32 H
      refine SA_condT rfl h32 ?_
      refine SA_skip ?_
      refine at_normal ?_
      refine SA_seq ?_
      refine SA_block ?_
      refine SA_drawHq [0, 1, 2, 6] #[[], [0], [], [2], [2], [0, 1, 2], [0, 1, 2], [0, 1, 2, 6]] [0, 2] [1, 3] mixed rfl rfl rfl (PanOk.inb (PanOk.thn (PanOk.thn (PanOk.inb (PanOk.thn (PanOk.thn PanOk.body)))))) fun I0 hS h0 hh0 w0 sH dd pk => ?_
      refine DH_take (v := .pointer (some ((⟨b25, 0, none⟩ : Addr).add 2))) 0 (by kernel_rfl) rfl rfl (.no rfl) pk sH rfl (VR.ofV (V_fieldAddrN (B := ⟨b25, 0, none⟩) (m := 0) (o := 2) Try.underlying67 rfl nz65 rfl rfl)) ?_
      refine DH_take 1 (by kernel_rfl) rfl rfl (.no rfl) pk sH rfl (VR_load_blk (b := b25) (m := 2) (k := 1) Try.underlying65 rfl rfl rfl rfl) ?_
      refine DH_take 2 (by kernel_rfl) rfl rfl (.no rfl) pk sH rfl (VR_loadA_blk (b := b1) (m := 0) (k := 0) (vs := [.int .i64 a2.f0, .int .i64 a2.f1, .bool a2.f2, .bool a2.f3, .bool a2.f4, .bool a2.f5, .bool a2.f6, .bool a2.f7, .bool a2.f8, .bool a2.f9]) Try.underlying70 rfl sz70 rfl rfl rfl) ?_
      obtain ⟨r213, C214, H⟩ := g_bind H
      refine DH_one 3 dd (by kernel_rfl) rfl (.no rfl) (OA_callA [] [0, 1] rfl (X_fn (vs := [.agg #[.int .i64 a2.f0, .int .i64 a2.f1, .bool a2.f2, .bool a2.f3, .bool a2.f4, .bool a2.f5, .bool a2.f6, .bool a2.f7, .bool a2.f8, .bool a2.f9]]) Try.func70 nm70 rfl rfl) rfl (F70.ok (a0 := a2) C214) rfl ?_)
      rintro _ _ ⟨rfl, rfl⟩
      refine DH_one 4 dd (by kernel_rfl) rfl (.no rfl) (OA_bs (kd := k76) (zv := (.agg (List.toArray (.int .i32 0 :: .int .i32 0 :: .int .i32 0 :: .int .i32 0 :: .int .u8 0 :: .int .i64 0 :: .int .i64 0 :: .bool false :: .bool false :: .bool false :: .bool false :: .bool false :: .bool false :: .bool false :: .bool false :: [])))) (sz := 15) (cells := (.int .i32 r213.f0 :: .int .i32 r213.f1.f0 :: .int .i32 r213.f1.f1 :: .int .i32 r213.f1.f2 :: .int .u8 r213.f2 :: .int .i64 r213.f3.f0 :: .int .i64 r213.f3.f1 :: .bool r213.f3.f2 :: .bool r213.f3.f3 :: .bool r213.f3.f4 :: .bool r213.f3.f5 :: .bool r213.f3.f6 :: .bool r213.f3.f7 :: .bool r213.f3.f8 :: .bool r213.f3.f9 :: [])) (xs := ([r213] : (List S76))) rfl Try.underlying65 zero76 sz76 rfl rfl rfl (by kernel_rfl) rfl rfl (RL_enc enc76 (fun _ _ => rfl) (by kernel_rfl)) fun b273 => ?_)
      obtain ⟨g334, H⟩ := g_pos H
      obtain ⟨n337, hn337, H⟩ := g_lt H
      refine DH_one 5 dd (by kernel_rfl) rfl (.no rfl) (OA_app (k := 1) (A := A26) (c := c27) (xs := x8_24.f2) (ys := ([r213] : (List S76))) n337 hn337 rfl Try.underlying65 inf76 rfl rfl rfl rfl rfl (Yld.slice Try.underlying65 (Src.buf (k := 2) rfl)) (by omega) (by omega) fun A335 c336 => ?_)
      refine DH_take (v := .pointer (some ((⟨b25, 0, none⟩ : Addr).add 2))) 6 (by kernel_rfl) rfl rfl (.no rfl) pk sH rfl (VR.ofV (V_fieldAddrN (B := ⟨b25, 0, none⟩) (m := 0) (o := 2) Try.underlying67 rfl nz65 rfl rfl)) ?_
      refine DH_open dd sH ?_
      refine DN_one 7 (by kernel_rfl) rfl rfl (.no rfl) (OA_st (b := b25) (m := 2) (k := 1) (vs := [.slice A335 n337.length c336]) (cs' := [.int .i64 x8_24.f0, .int .i64 x8_24.f1, .slice A335 n337.length c336]) rfl rfl rfl rfl rfl rfl sz65 rfl rfl ?_)
      refine DN_done (by kernel_rfl) ?_
      refine inb_normal ?_
      refine at_normal ?_
      refine SA_region ?_
      refine RA_step rfl (OA_v (v := .int .i64 x9_24) rfl (V_move rfl) ?_)
      refine RA_step rfl (OA_v (v := .int .i64 (IntKind.i64.wrap (x9_24 + 1))) rfl (V_add rfl rfl) ?_)
      obtain ⟨n514, hn514, H⟩ := g_lt H
      refine RA_step rfl (OA_v (v := .int .i64 n514) rfl (V_assign (v := .int .i64 n514) (congrArg (Value.int .i64) hn514.symm)) ?_)
      refine RA_nil ?_
      exact at_normal ⟨k30, Nat.lt_succ_self _, _, _, b25, A335, c336, H, St.mk1 (aeq rfl (aeq rfl (aeq rfl (aeq rfl (aeq rfl (aeq rfl aeq0)))))) (Gh.sel [0, 2, 1, 3] rfl rfl)⟩
    replace H := g_iff h32 H
    refine SA_condF rfl h32 ?_
    refine SA_exit ?_
    refine thn_exit ?_
    refine thn_exit ?_
    refine inb_hit ?_
    have hr_ := Option.some.inj H
    subst hr_
    exact at_normal ⟨b25, A26, c27, St.mk1 (aeq rfl (aeq rfl aeq0)) (Gh.sel [2, 3, 1] rfl rfl)⟩
  rintro e ds As ⟨b21, A22, c23, hst515⟩
  clear H
  have H := Bt20
  clear Bt20
  refine at_normal ?_
  refine SA.of_St hst515 fun junk => ?_
  refine SA_seq ?_
  refine SA_region ?_
  refine RA_step rfl (OA_r rfl (VR_loadA_blk (b := b21) (m := 0) (k := 0) (vs := [.int .i64 t20.f0, .int .i64 t20.f1, .slice A22 t20.f2.length c23]) Try.underlying67 rfl sz67 rfl rfl rfl) ?_)
  refine RA_step rfl (OA_st (b := b3) (m := 0) (k := 2) (vs := [.int .i64 t20.f0, .int .i64 t20.f1, .slice A22 t20.f2.length c23]) (cs' := [.int .i64 t20.f0, .int .i64 t20.f1, .slice A22 t20.f2.length c23]) rfl rfl rfl rfl rfl rfl sz67 rfl rfl ?_)
  refine RA_step rfl (OA_v (v := .int .i64 0) rfl (V_assign rfl) ?_)
  refine RA_nil ?_
  refine at_normal ?_
  refine SA_ret ?_
  have hr_ := Option.some.inj H
  subst hr_
  exact BQ_RL (rs := [.cell 6 67, .tmp 7]) (vs := [.agg #[.int .i64 t20.f0, .int .i64 t20.f1, .slice A22 t20.f2.length c23], .int .i64 0]) [Buf k76 76 A22 c23 t20.f2] rfl ⟨RV.cell (k := 2) rfl rfl Try.underlying67 rfl sz67, RV.tmp rfl, trivial⟩ rfl (Gh.sel [1] rfl rfl) ⟨A22, c23, rfl, rfl⟩

/-! ### function 40: wayfarer/wayfarerref15.Same -/
def F40.l0 (a0 : S67) (a1 : S67) : Nat → Int → Option (Out (Bool) (Unit))
  | 0, _ => none
  | k + 1, x5_15 => if x5_15 < (a0.f2.length : Int) then (if 0 ≤ x5_15 ∧ x5_15 < (a0.f2.length : Int) then (if 0 ≤ x5_15 ∧ x5_15 < (a1.f2.length : Int) then (if (rd a0.f2 x5_15) ≠ (rd a1.f2 x5_15) then (some (Out.ret (false))) else (lt (IntKind.i64.wrap (x5_15 + 1)) fun n681 => F40.l0 a0 a1 k n681)) else none) else none) else (some (Out.go ()))
def F40.f (k : Nat) (a0 : S67) (a1 : S67) : Option (Bool) := lt ((decide (a0.f0 ≠ a1.f0)) || (decide (a0.f1 ≠ a1.f1))) fun q7 => lt (q7 || (decide ((a0.f2.length : Int) ≠ (a1.f2.length : Int)))) fun q10 => if q10 = true then (some (false)) else ((F40.l0 a0 a1 k 0 : Option (Out (Bool) (Unit))).bind (fun t14 => Out.el t14 (fun r_ => some r_) (fun s15 => some (true))))
set_option maxHeartbeats 2000000 in
set_option maxRecDepth 100000 in
theorem F40.ok {k : Nat} {a0 : S67} {a1 : S67} {A0_0 : Option Addr} {c0_0 : Nat} {A1_0 : Option Addr} {c1_0 : Nat} {r : Bool} (H : F40.f k a0 a1 = some r) : SCA Try.prog 40 #[.agg #[.int .i64 a0.f0, .int .i64 a0.f1, .slice A0_0 a0.f2.length c0_0], .agg #[.int .i64 a1.f0, .int .i64 a1.f1, .slice A1_0 a1.f2.length c1_0]] [Ro k76 A0_0 c0_0 a0.f2, Ro k76 A1_0 c1_0 a1.f2] (fun v B => v = .bool r ∧ B = []) := by
  refine SCA_of_body Try.func40 rfl rfl ?_
  unfold F40.f at H
  refine SA_seq ?_
  refine SA_region ?_
  refine RA_step rfl (OA_box rfl rfl fun b3 => ?_)
  refine RA_step rfl (OA_box rfl rfl fun b5 => ?_)
  refine RA_step rfl (OA_v (v := .bool false) rfl (V_assign rfl) ?_)
  refine RA_nil ?_
  refine at_normal ?_
  refine SA_seq ?_
  refine SA_seq ?_
  refine SA_region ?_
  refine RA_step rfl (OA_v (v := .pointer (some ⟨b3, 0, none⟩)) rfl (V_fieldAddrN (B := ⟨b3, 0, none⟩) (m := 0) (o := 0) Try.underlying67 rfl nz3 rfl rfl) ?_)
  refine RA_step rfl (OA_r rfl (VR_load_blk (b := b3) (m := 0) (k := 2) Try.underlying3 rfl rfl rfl rfl) ?_)
  refine RA_step rfl (OA_v (v := .pointer (some ⟨b5, 0, none⟩)) rfl (V_fieldAddrN (B := ⟨b5, 0, none⟩) (m := 0) (o := 0) Try.underlying67 rfl nz3 rfl rfl) ?_)
  refine RA_step rfl (OA_r rfl (VR_load_blk (b := b5) (m := 0) (k := 3) Try.underlying3 rfl rfl rfl rfl) ?_)
  refine RA_step rfl (OA_v (v := .bool (decide (a0.f0 ≠ a1.f0))) rfl (V_neq rfl rfl) ?_)
  refine RA_step rfl (OA_v (v := .bool (decide (a0.f0 ≠ a1.f0))) rfl (V_move rfl) ?_)
  obtain ⟨q7, hq7, H⟩ := g_lt H
  refine RA_cut 6 (fun e ds As => St [(2, .pointer (some ⟨b3, 0, none⟩)), (3, .pointer (some ⟨b5, 0, none⟩)), (17, .bool q7)] [Blk b3 67 [.int .i64 a0.f0, .int .i64 a0.f1, .slice A0_0 a0.f2.length c0_0], Ro k76 A0_0 c0_0 a0.f2, Blk b5 67 [.int .i64 a1.f0, .int .i64 a1.f1, .slice A1_0 a1.f2.length c1_0], Ro k76 A1_0 c1_0 a1.f2] e ds As) ?_ ?_
  · by_cases h8 : a0.f0 ≠ a1.f0
    · refine RA_noB rfl rfl rfl rfl (dec_t h8) rfl ?_
      refine RA_noB rfl rfl rfl rfl (dec_t h8) rfl ?_
      refine RA_noB rfl rfl rfl rfl (dec_t h8) rfl ?_
      refine RA_noB rfl rfl rfl rfl (dec_t h8) rfl ?_
      refine RA_noB rfl rfl rfl rfl (dec_t h8) rfl ?_
      refine RA_step rfl (OA_v rfl (V_pickT rfl (dec_t h8) rfl) ?_)
      refine RA_nil ?_
      exact at_normal (St.mk1 (aeq rfl (aeq rfl (aeq (congrArg Value.bool (or_t hq7 (dec_t h8))) aeq0))) (Gh.sel [2, 0, 3, 1] rfl rfl))
    refine RA_yesB rfl rfl rfl rfl (dec_f h8) (OA_v (v := .pointer (some ((⟨b3, 0, none⟩ : Addr).add 1))) rfl (V_fieldAddrN (B := ⟨b3, 0, none⟩) (m := 0) (o := 1) Try.underlying67 rfl nz3 rfl rfl) ?_)
    refine RA_yesB rfl rfl rfl rfl (dec_f h8) (OA_r rfl (VR_load_blk (b := b3) (m := 1) (k := 2) Try.underlying3 rfl rfl rfl rfl) ?_)
    refine RA_yesB rfl rfl rfl rfl (dec_f h8) (OA_v (v := .pointer (some ((⟨b5, 0, none⟩ : Addr).add 1))) rfl (V_fieldAddrN (B := ⟨b5, 0, none⟩) (m := 0) (o := 1) Try.underlying67 rfl nz3 rfl rfl) ?_)
    refine RA_yesB rfl rfl rfl rfl (dec_f h8) (OA_r rfl (VR_load_blk (b := b5) (m := 1) (k := 3) Try.underlying3 rfl rfl rfl rfl) ?_)
    refine RA_yesB rfl rfl rfl rfl (dec_f h8) (OA_v (v := .bool (decide (a0.f1 ≠ a1.f1))) rfl (V_neq rfl rfl) ?_)
    refine RA_step rfl (OA_v rfl (V_pickF rfl (dec_f h8) rfl) ?_)
    refine RA_nil ?_
    exact at_normal (St.mk1 (aeq rfl (aeq rfl (aeq (congrArg Value.bool (or_f hq7 (dec_f h8))) aeq0))) (Gh.sel [2, 0, 3, 1] rfl rfl))
  rintro e ds As hst9
  refine RA.of_St rfl hst9 fun junk => ?_
  refine RA_step rfl (OA_v (v := .bool q7) rfl (V_move rfl) ?_)
  obtain ⟨q10, hq10, H⟩ := g_lt H
  refine RA_cut 8 (fun e ds As => St [(2, .pointer (some ⟨b3, 0, none⟩)), (3, .pointer (some ⟨b5, 0, none⟩)), (26, .bool q10)] [Blk b3 67 [.int .i64 a0.f0, .int .i64 a0.f1, .slice A0_0 a0.f2.length c0_0], Ro k76 A0_0 c0_0 a0.f2, Blk b5 67 [.int .i64 a1.f0, .int .i64 a1.f1, .slice A1_0 a1.f2.length c1_0], Ro k76 A1_0 c1_0 a1.f2] e ds As) ?_ ?_
  · by_cases h11 : q7 = true
    · refine RA_noB rfl rfl rfl rfl (h11) rfl ?_
      refine RA_noB rfl rfl rfl rfl (h11) rfl ?_
      refine RA_noB rfl rfl rfl rfl (h11) rfl ?_
      refine RA_noB rfl rfl rfl rfl (h11) rfl ?_
      refine RA_noB rfl rfl rfl rfl (h11) rfl ?_
      refine RA_noB rfl rfl rfl rfl (h11) rfl ?_
      refine RA_noB rfl rfl rfl rfl (h11) rfl ?_
      refine RA_step rfl (OA_v rfl (V_pickT rfl (h11) rfl) ?_)
      refine RA_nil ?_
      exact at_normal (St.mk1 (aeq rfl (aeq rfl (aeq (congrArg Value.bool (or_t hq10 (h11))) aeq0))) (Gh.sel [0, 1, 2, 3] rfl rfl))
    refine RA_yesB rfl rfl rfl rfl (bno h11) (OA_v (v := .pointer (some ((⟨b3, 0, none⟩ : Addr).add 2))) rfl (V_fieldAddrN (B := ⟨b3, 0, none⟩) (m := 0) (o := 2) Try.underlying67 rfl nz65 rfl rfl) ?_)
    refine RA_yesB rfl rfl rfl rfl (bno h11) (OA_r rfl (VR_load_blk (b := b3) (m := 2) (k := 0) Try.underlying65 rfl rfl rfl rfl) ?_)
    refine RA_yesB rfl rfl rfl rfl (bno h11) (OA_v (v := .int .i64 (a0.f2.length : Int)) rfl (V_len Try.underlying65 rfl) ?_)
    refine RA_yesB rfl rfl rfl rfl (bno h11) (OA_v (v := .pointer (some ((⟨b5, 0, none⟩ : Addr).add 2))) rfl (V_fieldAddrN (B := ⟨b5, 0, none⟩) (m := 0) (o := 2) Try.underlying67 rfl nz65 rfl rfl) ?_)
    refine RA_yesB rfl rfl rfl rfl (bno h11) (OA_r rfl (VR_load_blk (b := b5) (m := 2) (k := 2) Try.underlying65 rfl rfl rfl rfl) ?_)
    refine RA_yesB rfl rfl rfl rfl (bno h11) (OA_v (v := .int .i64 (a1.f2.length : Int)) rfl (V_len Try.underlying65 rfl) ?_)
    refine RA_yesB rfl rfl rfl rfl (bno h11) (OA_v (v := .bool (decide ((a0.f2.length : Int) ≠ (a1.f2.length : Int)))) rfl (V_neq rfl rfl) ?_)
    refine RA_step rfl (OA_v rfl (V_pickF rfl (bno h11) rfl) ?_)
    refine RA_nil ?_
    exact at_normal (St.mk1 (aeq rfl (aeq rfl (aeq (congrArg Value.bool (or_f hq10 (bno h11))) aeq0))) (Gh.sel [0, 1, 2, 3] rfl rfl))
  rintro e ds As hst12
  refine RA_nil ?_
  refine at_normal ?_
  refine SA.of_St hst12 fun junk => ?_
  by_cases h13 : q10 = true
  · replace H := g_ift h13 H
    refine SA_condTb rfl h13 ?_
    refine SA_seq ?_
    refine SA_region ?_
    refine RA_step rfl (OA_v (v := .bool false) rfl (V_assign rfl) ?_)
    refine RA_nil ?_
    refine at_normal ?_
    refine SA_ret ?_
    refine thn_ret ?_
    have hr_ := Option.some.inj H
    subst hr_
    exact BQ_R1 [] rfl rfl (Gh.sel [] rfl rfl) ⟨rfl, rfl⟩
  replace H := g_iff h13 H
  refine SA_condFb rfl h13 ?_
  refine SA_skip ?_
  refine at_normal ?_
  refine SA_seq ?_
  refine SA_seq ?_
  refine SA_region ?_
  refine RA_step rfl (OA_v (v := .int .i64 0) rfl (V_assign rfl) ?_)
  refine RA_nil ?_
  refine at_normal ?_
  obtain ⟨t14, H, Bt14⟩ := g_bind H
  refine SA_mid (fun e ds As => ∃ (s15 : Unit), t14 = Out.go s15 ∧ St [] [] e ds As) ?_ ?_
  · refine SA_block ?_
    refine SA_loop (fun k_ e ds As => ∃ (x5_15 : Int), F40.l0 a0 a1 k_ x5_15 = some t14 ∧ St [(2, .pointer (some ⟨b3, 0, none⟩)), (3, .pointer (some ⟨b5, 0, none⟩)), (5, .int .i64 x5_15)] [Blk b3 67 [.int .i64 a0.f0, .int .i64 a0.f1, .slice A0_0 a0.f2.length c0_0], Ro k76 A0_0 c0_0 a0.f2, Blk b5 67 [.int .i64 a1.f0, .int .i64 a1.f1, .slice A1_0 a1.f2.length c1_0], Ro k76 A1_0 c1_0 a1.f2] e ds As) (k := k) ⟨_, H, St.mk1 (aeq rfl (aeq rfl (aeq rfl aeq0))) (Gh.sel [0, 1, 2, 3] rfl rfl)⟩ ?_
    clear H
    rintro k16 e ds As ⟨x5_15, H, hst17⟩
    obtain _ | k16 := k16
    · cases H
    rw [F40.l0] at H
    refine SA.of_St hst17 fun junk => ?_
    refine SA_seq ?_
    refine SA_seq ?_
    refine SA_region ?_
    refine RA_step rfl (OA_v (v := .int .i64 x5_15) rfl (V_move rfl) ?_)
    refine RA_step rfl (OA_v (v := .pointer (some ((⟨b3, 0, none⟩ : Addr).add 2))) rfl (V_fieldAddrN (B := ⟨b3, 0, none⟩) (m := 0) (o := 2) Try.underlying67 rfl nz65 rfl rfl) ?_)
    refine RA_step rfl (OA_r rfl (VR_load_blk (b := b3) (m := 2) (k := 0) Try.underlying65 rfl rfl rfl rfl) ?_)
    refine RA_step rfl (OA_v (v := .int .i64 (a0.f2.length : Int)) rfl (V_len Try.underlying65 rfl) ?_)
    refine RA_step rfl (OA_v (v := .bool (decide (x5_15 < (a0.f2.length : Int)))) rfl (V_lss rfl rfl) ?_)
    refine RA_nil ?_
    refine at_normal ?_
    by_cases h18 : x5_15 < (a0.f2.length : Int)
    · replace H := g_ift h18 H
      refine SA_condT rfl h18 ?_
      refine SA_skip ?_
      refine at_normal ?_
      refine SA_seq ?_
      refine SA_block ?_
      refine SA_seq ?_
      refine SA_drawHq [0, 1, 2, 3, 4, 5, 6, 7, 8, 9, 10] #[[], [0], [], [0, 1, 2], [0, 1, 2, 3], [], [5], [], [5, 6, 7], [5, 6, 7, 8], [0, 1, 2, 3, 4, 5, 6, 7, 8, 9]] [0, 1, 2, 3] [1, 3] mixed rfl rfl rfl (PanOk.thn (PanOk.inb (PanOk.thn (PanOk.thn (PanOk.inb (PanOk.thn (PanOk.thn PanOk.body))))))) fun I0 hS h0 hh0 w0 sH dd pk => ?_
      refine DH_take (v := .pointer (some ((⟨b3, 0, none⟩ : Addr).add 2))) 0 (by kernel_rfl) rfl rfl (.no rfl) pk sH rfl (VR.ofV (V_fieldAddrN (B := ⟨b3, 0, none⟩) (m := 0) (o := 2) Try.underlying67 rfl nz65 rfl rfl)) ?_
      refine DH_take 1 (by kernel_rfl) rfl rfl (.no rfl) pk sH rfl (VR_load_blk (b := b3) (m := 2) (k := 0) Try.underlying65 rfl rfl rfl rfl) ?_
      refine DH_take (v := .int .i64 x5_15) 2 (by kernel_rfl) rfl rfl (.no rfl) pk sH rfl (VR.ofV (V_move rfl)) ?_
      obtain ⟨⟨g199, g200⟩, H⟩ := g_pos H
      refine DH_take 3 (by kernel_rfl) rfl rfl (.no rfl) pk sH rfl (VR_index (i := x5_15) Try.underlying65 sz76 rfl rfl (Src.ro (k := 1) rfl) g199 g200) ?_
      refine DH_take 4 (by kernel_rfl) rfl rfl (.no rfl) pk sH rfl (VR_loadA_el (enc := enc76) (i := x5_15) (j := x5_15.toNat * 15) (m := 0) (sz := 15) (vs := (.int .i32 ((rd a0.f2 x5_15).f0) :: .int .i32 (((rd a0.f2 x5_15).f1).f0) :: .int .i32 (((rd a0.f2 x5_15).f1).f1) :: .int .i32 (((rd a0.f2 x5_15).f1).f2) :: .int .u8 ((rd a0.f2 x5_15).f2) :: .int .i64 (((rd a0.f2 x5_15).f3).f0) :: .int .i64 (((rd a0.f2 x5_15).f3).f1) :: .bool (((rd a0.f2 x5_15).f3).f2) :: .bool (((rd a0.f2 x5_15).f3).f3) :: .bool (((rd a0.f2 x5_15).f3).f4) :: .bool (((rd a0.f2 x5_15).f3).f5) :: .bool (((rd a0.f2 x5_15).f3).f6) :: .bool (((rd a0.f2 x5_15).f3).f7) :: .bool (((rd a0.f2 x5_15).f3).f8) :: .bool (((rd a0.f2 x5_15).f3).f9) :: [])) Try.underlying76 rfl sz76 rfl rfl rfl (Src.ro (k := 1) rfl) g199 g200 (fun _ _ h => h) rfl) ?_
      refine DH_take (v := .pointer (some ((⟨b5, 0, none⟩ : Addr).add 2))) 5 (by kernel_rfl) rfl rfl (.no rfl) pk sH rfl (VR.ofV (V_fieldAddrN (B := ⟨b5, 0, none⟩) (m := 0) (o := 2) Try.underlying67 rfl nz65 rfl rfl)) ?_
      refine DH_take 6 (by kernel_rfl) rfl rfl (.no rfl) pk sH rfl (VR_load_blk (b := b5) (m := 2) (k := 2) Try.underlying65 rfl rfl rfl rfl) ?_
      refine DH_take (v := .int .i64 x5_15) 7 (by kernel_rfl) rfl rfl (.no rfl) pk sH rfl (VR.ofV (V_move rfl)) ?_
      obtain ⟨⟨g499, g500⟩, H⟩ := g_pos H
      refine DH_take 8 (by kernel_rfl) rfl rfl (.no rfl) pk sH rfl (VR_index (i := x5_15) Try.underlying65 sz76 rfl rfl (Src.ro (k := 3) rfl) g499 g500) ?_
      refine DH_take 9 (by kernel_rfl) rfl rfl (.no rfl) pk sH rfl (VR_loadA_el (enc := enc76) (i := x5_15) (j := x5_15.toNat * 15) (m := 0) (sz := 15) (vs := (.int .i32 ((rd a1.f2 x5_15).f0) :: .int .i32 (((rd a1.f2 x5_15).f1).f0) :: .int .i32 (((rd a1.f2 x5_15).f1).f1) :: .int .i32 (((rd a1.f2 x5_15).f1).f2) :: .int .u8 ((rd a1.f2 x5_15).f2) :: .int .i64 (((rd a1.f2 x5_15).f3).f0) :: .int .i64 (((rd a1.f2 x5_15).f3).f1) :: .bool (((rd a1.f2 x5_15).f3).f2) :: .bool (((rd a1.f2 x5_15).f3).f3) :: .bool (((rd a1.f2 x5_15).f3).f4) :: .bool (((rd a1.f2 x5_15).f3).f5) :: .bool (((rd a1.f2 x5_15).f3).f6) :: .bool (((rd a1.f2 x5_15).f3).f7) :: .bool (((rd a1.f2 x5_15).f3).f8) :: .bool (((rd a1.f2 x5_15).f3).f9) :: [])) Try.underlying76 rfl sz76 rfl rfl rfl (Src.ro (k := 3) rfl) g499 g500 (fun _ _ h => h) rfl) ?_
      refine DH_take (v := .bool (decide ((rd a0.f2 x5_15) ≠ (rd a1.f2 x5_15)))) 10 (by kernel_rfl) rfl rfl (.no rfl) pk sH rfl (VR.ofV (V_neqD (xs := (.int .i32 ((rd a0.f2 x5_15).f0) :: .int .i32 (((rd a0.f2 x5_15).f1).f0) :: .int .i32 (((rd a0.f2 x5_15).f1).f1) :: .int .i32 (((rd a0.f2 x5_15).f1).f2) :: .int .u8 ((rd a0.f2 x5_15).f2) :: .int .i64 (((rd a0.f2 x5_15).f3).f0) :: .int .i64 (((rd a0.f2 x5_15).f3).f1) :: .bool (((rd a0.f2 x5_15).f3).f2) :: .bool (((rd a0.f2 x5_15).f3).f3) :: .bool (((rd a0.f2 x5_15).f3).f4) :: .bool (((rd a0.f2 x5_15).f3).f5) :: .bool (((rd a0.f2 x5_15).f3).f6) :: .bool (((rd a0.f2 x5_15).f3).f7) :: .bool (((rd a0.f2 x5_15).f3).f8) :: .bool (((rd a0.f2 x5_15).f3).f9) :: [])) (ys := (.int .i32 ((rd a1.f2 x5_15).f0) :: .int .i32 (((rd a1.f2 x5_15).f1).f0) :: .int .i32 (((rd a1.f2 x5_15).f1).f1) :: .int .i32 (((rd a1.f2 x5_15).f1).f2) :: .int .u8 ((rd a1.f2 x5_15).f2) :: .int .i64 (((rd a1.f2 x5_15).f3).f0) :: .int .i64 (((rd a1.f2 x5_15).f3).f1) :: .bool (((rd a1.f2 x5_15).f3).f2) :: .bool (((rd a1.f2 x5_15).f3).f3) :: .bool (((rd a1.f2 x5_15).f3).f4) :: .bool (((rd a1.f2 x5_15).f3).f5) :: .bool (((rd a1.f2 x5_15).f3).f6) :: .bool (((rd a1.f2 x5_15).f3).f7) :: .bool (((rd a1.f2 x5_15).f3).f8) :: .bool (((rd a1.f2 x5_15).f3).f9) :: [])) (r := ((((rd a0.f2 x5_15).f0) == ((rd a1.f2 x5_15).f0)) && ((((((rd a0.f2 x5_15).f1).f0) == (((rd a1.f2 x5_15).f1).f0)) && (((((rd a0.f2 x5_15).f1).f1) == (((rd a1.f2 x5_15).f1).f1)) && (((((rd a0.f2 x5_15).f1).f2) == (((rd a1.f2 x5_15).f1).f2)) && true))) && ((((rd a0.f2 x5_15).f2) == ((rd a1.f2 x5_15).f2)) && ((((((rd a0.f2 x5_15).f3).f0) == (((rd a1.f2 x5_15).f3).f0)) && (((((rd a0.f2 x5_15).f3).f1) == (((rd a1.f2 x5_15).f3).f1)) && (((((rd a0.f2 x5_15).f3).f2) == (((rd a1.f2 x5_15).f3).f2)) && (((((rd a0.f2 x5_15).f3).f3) == (((rd a1.f2 x5_15).f3).f3)) && (((((rd a0.f2 x5_15).f3).f4) == (((rd a1.f2 x5_15).f3).f4)) && (((((rd a0.f2 x5_15).f3).f5) == (((rd a1.f2 x5_15).f3).f5)) && (((((rd a0.f2 x5_15).f3).f6) == (((rd a1.f2 x5_15).f3).f6)) && (((((rd a0.f2 x5_15).f3).f7) == (((rd a1.f2 x5_15).f3).f7)) && (((((rd a0.f2 x5_15).f3).f8) == (((rd a1.f2 x5_15).f3).f8)) && (((((rd a0.f2 x5_15).f3).f9) == (((rd a1.f2 x5_15).f3).f9)) && true)))))))))) && true))))) (p := (rd a0.f2 x5_15) = (rd a1.f2 x5_15)) eqg76 rfl rfl (by kernel_rfl) (eqv76 (x := rd a0.f2 x5_15) (y := rd a1.f2 x5_15)))) ?_
      refine DH_open dd sH ?_
      refine DN_done (by kernel_rfl) ?_
      refine at_normal ?_
      by_cases h680 : (rd a0.f2 x5_15) ≠ (rd a1.f2 x5_15)
      · replace H := g_ift h680 H
        refine SA_condT rfl h680 ?_
        refine SA_seq ?_
        refine SA_region ?_
        refine RA_step rfl (OA_v (v := .bool false) rfl (V_assign rfl) ?_)
        refine RA_nil ?_
        refine at_normal ?_
        refine SA_ret ?_
        refine inb_ret ?_
        refine thn_ret ?_
        refine thn_ret ?_
        refine inb_ret ?_
        refine thn_ret ?_
        refine thn_ret ?_
        have hr_ := Option.some.inj H
        subst hr_
        have hb_ := el_ret Bt14
        have hr_ := Option.some.inj hb_
        clear hb_
        subst hr_
        exact BQ_R1 [] rfl rfl (Gh.sel [] rfl rfl) ⟨rfl, rfl⟩
      replace H := g_iff h680 H
      refine SA_condF rfl h680 ?_
      refine SA_skip ?_
      refine inb_normal ?_
      refine at_normal ?_
      refine SA_region ?_
      refine RA_step rfl (OA_v (v := .int .i64 x5_15) rfl (V_move rfl) ?_)
      refine RA_step rfl (OA_v (v := .int .i64 (IntKind.i64.wrap (x5_15 + 1))) rfl (V_add rfl rfl) ?_)
      obtain ⟨n681, hn681, H⟩ := g_lt H
      refine RA_step rfl (OA_v (v := .int .i64 n681) rfl (V_assign (v := .int .i64 n681) (congrArg (Value.int .i64) hn681.symm)) ?_)
      refine RA_nil ?_
      exact at_normal ⟨k16, Nat.lt_succ_self _, _, H, St.mk1 (aeq rfl (aeq rfl (aeq rfl aeq0))) (Gh.sel [0, 1, 2, 3] rfl rfl)⟩
    replace H := g_iff h18 H
    refine SA_condF rfl h18 ?_
    refine SA_exit ?_
    refine thn_exit ?_
    refine thn_exit ?_
    refine inb_hit ?_
    have hr_ := Option.some.inj H
    subst hr_
    exact at_normal ⟨(), rfl, St.mk1 aeq0 (Gh.sel [] rfl rfl)⟩
  rintro e ds As ⟨s15, ht, hst682⟩
  clear H
  subst ht
  replace Bt14 := el_go Bt14
  have H := Bt14
  clear Bt14
  refine at_normal ?_
  refine SA.of_St hst682 fun junk => ?_
  refine SA_seq ?_
  refine SA_region ?_
  refine RA_step rfl (OA_v (v := .bool true) rfl (V_assign rfl) ?_)
  refine RA_nil ?_
  refine at_normal ?_
  refine SA_ret ?_
  have hr_ := Option.some.inj H
  subst hr_
  exact BQ_R1 [] rfl rfl (Gh.sel [] rfl rfl) ⟨rfl, rfl⟩

/-! ### function 121: wayfarer/width.wides -/
def F121.f  : Option ((List S190)) := some ((((S190.mk 4352 4447) :: (S190.mk 8986 8987) :: (S190.mk 9001 9002) :: (S190.mk 9193 9196) :: (S190.mk 9725 9726) :: (S190.mk 9748 9749) :: (S190.mk 9800 9811) :: (S190.mk 9889 9889) :: (S190.mk 9917 9918) :: (S190.mk 9989 9989) :: (S190.mk 10024 10024) :: (S190.mk 10060 10060) :: (S190.mk 10067 10069) :: (S190.mk 10133 10135) :: (S190.mk 11035 11036) :: (S190.mk 11088 11088) :: (S190.mk 11904 12350) :: (S190.mk 12353 13311) :: (S190.mk 13312 19903) :: (S190.mk 19968 40959) :: (S190.mk 40960 42191) :: (S190.mk 44032 55203) :: (S190.mk 63744 64255) :: (S190.mk 65072 65135) :: (S190.mk 65281 65376) :: (S190.mk 65504 65510) :: (S190.mk 127744 127776) :: (S190.mk 127789 127797) :: (S190.mk 127799 127868) :: (S190.mk 128000 128062) :: (S190.mk 128064 128064) :: (S190.mk 128066 128252) :: (S190.mk 128512 128591) :: (S190.mk 128640 128709) :: (S190.mk 129280 129535) :: (S190.mk 131072 196605) :: (S190.mk 196608 262141) :: []) : (List S190)))
set_option maxHeartbeats 2000000 in
set_option maxRecDepth 100000 in
theorem F121.ok  {r : (List S190)} (H : F121.f  = some r) : SCA Try.prog 121 #[] [] (fun v B => v = .agg (List.flatMap enc190 ((rd r 0) :: (rd r 1) :: (rd r 2) :: (rd r 3) :: (rd r 4) :: (rd r 5) :: (rd r 6) :: (rd r 7) :: (rd r 8) :: (rd r 9) :: (rd r 10) :: (rd r 11) :: (rd r 12) :: (rd r 13) :: (rd r 14) :: (rd r 15) :: (rd r 16) :: (rd r 17) :: (rd r 18) :: (rd r 19) :: (rd r 20) :: (rd r 21) :: (rd r 22) :: (rd r 23) :: (rd r 24) :: (rd r 25) :: (rd r 26) :: (rd r 27) :: (rd r 28) :: (rd r 29) :: (rd r 30) :: (rd r 31) :: (rd r 32) :: (rd r 33) :: (rd r 34) :: (rd r 35) :: (rd r 36) :: [])).toArray ∧ B = []) := by
  refine SCA_of_body Try.func121 rfl rfl ?_
  unfold F121.f at H
  refine SA_seq ?_
  refine SA_region ?_
  refine RA_step rfl (OA_alloc rfl zero191 fun b1 => ?_)
  refine RA_nil ?_
  refine at_normal ?_
  refine SA_seq ?_
  refine SA_region ?_
  refine RA_step rfl (OA_v (v := .agg #[.int .i32 4352, .int .i32 4447]) rfl (V_buildA (cells := [.int .i32 4352, .int .i32 4447]) (sz := 1) zero190 Try.underlying190 sz21 (by kernel_rfl)) ?_)
  refine RA_step rfl (OA_v (v := .agg #[.int .i32 8986, .int .i32 8987]) rfl (V_buildA (cells := [.int .i32 8986, .int .i32 8987]) (sz := 1) zero190 Try.underlying190 sz21 (by kernel_rfl)) ?_)
  refine RA_step rfl (OA_v (v := .agg #[.int .i32 9001, .int .i32 9002]) rfl (V_buildA (cells := [.int .i32 9001, .int .i32 9002]) (sz := 1) zero190 Try.underlying190 sz21 (by kernel_rfl)) ?_)
  refine RA_step rfl (OA_v (v := .agg #[.int .i32 9193, .int .i32 9196]) rfl (V_buildA (cells := [.int .i32 9193, .int .i32 9196]) (sz := 1) zero190 Try.underlying190 sz21 (by kernel_rfl)) ?_)
  refine RA_step rfl (OA_v (v := .agg #[.int .i32 9725, .int .i32 9726]) rfl (V_buildA (cells := [.int .i32 9725, .int .i32 9726]) (sz := 1) zero190 Try.underlying190 sz21 (by kernel_rfl)) ?_)
  refine RA_step rfl (OA_v (v := .agg #[.int .i32 9748, .int .i32 9749]) rfl (V_buildA (cells := [.int .i32 9748, .int .i32 9749]) (sz := 1) zero190 Try.underlying190 sz21 (by kernel_rfl)) ?_)
  refine RA_step rfl (OA_v (v := .agg #[.int .i32 9800, .int .i32 9811]) rfl (V_buildA (cells := [.int .i32 9800, .int .i32 9811]) (sz := 1) zero190 Try.underlying190 sz21 (by kernel_rfl)) ?_)
  refine RA_step rfl (OA_v (v := .agg #[.int .i32 9889, .int .i32 9889]) rfl (V_buildA (cells := [.int .i32 9889, .int .i32 9889]) (sz := 1) zero190 Try.underlying190 sz21 (by kernel_rfl)) ?_)
  refine RA_step rfl (OA_v (v := .agg #[.int .i32 9917, .int .i32 9918]) rfl (V_buildA (cells := [.int .i32 9917, .int .i32 9918]) (sz := 1) zero190 Try.underlying190 sz21 (by kernel_rfl)) ?_)
  refine RA_step rfl (OA_v (v := .agg #[.int .i32 9989, .int .i32 9989]) rfl (V_buildA (cells := [.int .i32 9989, .int .i32 9989]) (sz := 1) zero190 Try.underlying190 sz21 (by kernel_rfl)) ?_)
  refine RA_step rfl (OA_v (v := .agg #[.int .i32 10024, .int .i32 10024]) rfl (V_buildA (cells := [.int .i32 10024, .int .i32 10024]) (sz := 1) zero190 Try.underlying190 sz21 (by kernel_rfl)) ?_)
  refine RA_step rfl (OA_v (v := .agg #[.int .i32 10060, .int .i32 10060]) rfl (V_buildA (cells := [.int .i32 10060, .int .i32 10060]) (sz := 1) zero190 Try.underlying190 sz21 (by kernel_rfl)) ?_)
  refine RA_step rfl (OA_v (v := .agg #[.int .i32 10067, .int .i32 10069]) rfl (V_buildA (cells := [.int .i32 10067, .int .i32 10069]) (sz := 1) zero190 Try.underlying190 sz21 (by kernel_rfl)) ?_)
  refine RA_step rfl (OA_v (v := .agg #[.int .i32 10133, .int .i32 10135]) rfl (V_buildA (cells := [.int .i32 10133, .int .i32 10135]) (sz := 1) zero190 Try.underlying190 sz21 (by kernel_rfl)) ?_)
  refine RA_step rfl (OA_v (v := .agg #[.int .i32 11035, .int .i32 11036]) rfl (V_buildA (cells := [.int .i32 11035, .int .i32 11036]) (sz := 1) zero190 Try.underlying190 sz21 (by kernel_rfl)) ?_)
  refine RA_step rfl (OA_v (v := .agg #[.int .i32 11088, .int .i32 11088]) rfl (V_buildA (cells := [.int .i32 11088, .int .i32 11088]) (sz := 1) zero190 Try.underlying190 sz21 (by kernel_rfl)) ?_)
  refine RA_step rfl (OA_v (v := .agg #[.int .i32 11904, .int .i32 12350]) rfl (V_buildA (cells := [.int .i32 11904, .int .i32 12350]) (sz := 1) zero190 Try.underlying190 sz21 (by kernel_rfl)) ?_)
  refine RA_step rfl (OA_v (v := .agg #[.int .i32 12353, .int .i32 13311]) rfl (V_buildA (cells := [.int .i32 12353, .int .i32 13311]) (sz := 1) zero190 Try.underlying190 sz21 (by kernel_rfl)) ?_)
  refine RA_step rfl (OA_v (v := .agg #[.int .i32 13312, .int .i32 19903]) rfl (V_buildA (cells := [.int .i32 13312, .int .i32 19903]) (sz := 1) zero190 Try.underlying190 sz21 (by kernel_rfl)) ?_)
  refine RA_step rfl (OA_v (v := .agg #[.int .i32 19968, .int .i32 40959]) rfl (V_buildA (cells := [.int .i32 19968, .int .i32 40959]) (sz := 1) zero190 Try.underlying190 sz21 (by kernel_rfl)) ?_)
  refine RA_step rfl (OA_v (v := .agg #[.int .i32 40960, .int .i32 42191]) rfl (V_buildA (cells := [.int .i32 40960, .int .i32 42191]) (sz := 1) zero190 Try.underlying190 sz21 (by kernel_rfl)) ?_)
  refine RA_step rfl (OA_v (v := .agg #[.int .i32 44032, .int .i32 55203]) rfl (V_buildA (cells := [.int .i32 44032, .int .i32 55203]) (sz := 1) zero190 Try.underlying190 sz21 (by kernel_rfl)) ?_)
  refine RA_step rfl (OA_v (v := .agg #[.int .i32 63744, .int .i32 64255]) rfl (V_buildA (cells := [.int .i32 63744, .int .i32 64255]) (sz := 1) zero190 Try.underlying190 sz21 (by kernel_rfl)) ?_)
  refine RA_step rfl (OA_v (v := .agg #[.int .i32 65072, .int .i32 65135]) rfl (V_buildA (cells := [.int .i32 65072, .int .i32 65135]) (sz := 1) zero190 Try.underlying190 sz21 (by kernel_rfl)) ?_)
  refine RA_step rfl (OA_v (v := .agg #[.int .i32 65281, .int .i32 65376]) rfl (V_buildA (cells := [.int .i32 65281, .int .i32 65376]) (sz := 1) zero190 Try.underlying190 sz21 (by kernel_rfl)) ?_)
  refine RA_step rfl (OA_v (v := .agg #[.int .i32 65504, .int .i32 65510]) rfl (V_buildA (cells := [.int .i32 65504, .int .i32 65510]) (sz := 1) zero190 Try.underlying190 sz21 (by kernel_rfl)) ?_)
  refine RA_step rfl (OA_v (v := .agg #[.int .i32 127744, .int .i32 127776]) rfl (V_buildA (cells := [.int .i32 127744, .int .i32 127776]) (sz := 1) zero190 Try.underlying190 sz21 (by kernel_rfl)) ?_)
  refine RA_step rfl (OA_v (v := .agg #[.int .i32 127789, .int .i32 127797]) rfl (V_buildA (cells := [.int .i32 127789, .int .i32 127797]) (sz := 1) zero190 Try.underlying190 sz21 (by kernel_rfl)) ?_)
  refine RA_step rfl (OA_v (v := .agg #[.int .i32 127799, .int .i32 127868]) rfl (V_buildA (cells := [.int .i32 127799, .int .i32 127868]) (sz := 1) zero190 Try.underlying190 sz21 (by kernel_rfl)) ?_)
  refine RA_step rfl (OA_v (v := .agg #[.int .i32 128000, .int .i32 128062]) rfl (V_buildA (cells := [.int .i32 128000, .int .i32 128062]) (sz := 1) zero190 Try.underlying190 sz21 (by kernel_rfl)) ?_)
  refine RA_step rfl (OA_v (v := .agg #[.int .i32 128064, .int .i32 128064]) rfl (V_buildA (cells := [.int .i32 128064, .int .i32 128064]) (sz := 1) zero190 Try.underlying190 sz21 (by kernel_rfl)) ?_)
  refine RA_step rfl (OA_v (v := .agg #[.int .i32 128066, .int .i32 128252]) rfl (V_buildA (cells := [.int .i32 128066, .int .i32 128252]) (sz := 1) zero190 Try.underlying190 sz21 (by kernel_rfl)) ?_)
  refine RA_step rfl (OA_v (v := .agg #[.int .i32 128512, .int .i32 128591]) rfl (V_buildA (cells := [.int .i32 128512, .int .i32 128591]) (sz := 1) zero190 Try.underlying190 sz21 (by kernel_rfl)) ?_)
  refine RA_step rfl (OA_v (v := .agg #[.int .i32 128640, .int .i32 128709]) rfl (V_buildA (cells := [.int .i32 128640, .int .i32 128709]) (sz := 1) zero190 Try.underlying190 sz21 (by kernel_rfl)) ?_)
  refine RA_step rfl (OA_v (v := .agg #[.int .i32 129280, .int .i32 129535]) rfl (V_buildA (cells := [.int .i32 129280, .int .i32 129535]) (sz := 1) zero190 Try.underlying190 sz21 (by kernel_rfl)) ?_)
  refine RA_step rfl (OA_v (v := .agg #[.int .i32 131072, .int .i32 196605]) rfl (V_buildA (cells := [.int .i32 131072, .int .i32 196605]) (sz := 1) zero190 Try.underlying190 sz21 (by kernel_rfl)) ?_)
  refine RA_step rfl (OA_v (v := .agg #[.int .i32 196608, .int .i32 262141]) rfl (V_buildA (cells := [.int .i32 196608, .int .i32 262141]) (sz := 1) zero190 Try.underlying190 sz21 (by kernel_rfl)) ?_)
  refine RA_step rfl (OA_v (v := .agg (List.toArray (.int .i32 4352 :: .int .i32 4447 :: .int .i32 8986 :: .int .i32 8987 :: .int .i32 9001 :: .int .i32 9002 :: .int .i32 9193 :: .int .i32 9196 :: .int .i32 9725 :: .int .i32 9726 :: .int .i32 9748 :: .int .i32 9749 :: .int .i32 9800 :: .int .i32 9811 :: .int .i32 9889 :: .int .i32 9889 :: .int .i32 9917 :: .int .i32 9918 :: .int .i32 9989 :: .int .i32 9989 :: .int .i32 10024 :: .int .i32 10024 :: .int .i32 10060 :: .int .i32 10060 :: .int .i32 10067 :: .int .i32 10069 :: .int .i32 10133 :: .int .i32 10135 :: .int .i32 11035 :: .int .i32 11036 :: .int .i32 11088 :: .int .i32 11088 :: .int .i32 11904 :: .int .i32 12350 :: .int .i32 12353 :: .int .i32 13311 :: .int .i32 13312 :: .int .i32 19903 :: .int .i32 19968 :: .int .i32 40959 :: .int .i32 40960 :: .int .i32 42191 :: .int .i32 44032 :: .int .i32 55203 :: .int .i32 63744 :: .int .i32 64255 :: .int .i32 65072 :: .int .i32 65135 :: .int .i32 65281 :: .int .i32 65376 :: .int .i32 65504 :: .int .i32 65510 :: .int .i32 127744 :: .int .i32 127776 :: .int .i32 127789 :: .int .i32 127797 :: .int .i32 127799 :: .int .i32 127868 :: .int .i32 128000 :: .int .i32 128062 :: .int .i32 128064 :: .int .i32 128064 :: .int .i32 128066 :: .int .i32 128252 :: .int .i32 128512 :: .int .i32 128591 :: .int .i32 128640 :: .int .i32 128709 :: .int .i32 129280 :: .int .i32 129535 :: .int .i32 131072 :: .int .i32 196605 :: .int .i32 196608 :: .int .i32 262141 :: []))) rfl (V_buildA (cells := (List.flatMap enc190 ((S190.mk 4352 4447) :: (S190.mk 8986 8987) :: (S190.mk 9001 9002) :: (S190.mk 9193 9196) :: (S190.mk 9725 9726) :: (S190.mk 9748 9749) :: (S190.mk 9800 9811) :: (S190.mk 9889 9889) :: (S190.mk 9917 9918) :: (S190.mk 9989 9989) :: (S190.mk 10024 10024) :: (S190.mk 10060 10060) :: (S190.mk 10067 10069) :: (S190.mk 10133 10135) :: (S190.mk 11035 11036) :: (S190.mk 11088 11088) :: (S190.mk 11904 12350) :: (S190.mk 12353 13311) :: (S190.mk 13312 19903) :: (S190.mk 19968 40959) :: (S190.mk 40960 42191) :: (S190.mk 44032 55203) :: (S190.mk 63744 64255) :: (S190.mk 65072 65135) :: (S190.mk 65281 65376) :: (S190.mk 65504 65510) :: (S190.mk 127744 127776) :: (S190.mk 127789 127797) :: (S190.mk 127799 127868) :: (S190.mk 128000 128062) :: (S190.mk 128064 128064) :: (S190.mk 128066 128252) :: (S190.mk 128512 128591) :: (S190.mk 128640 128709) :: (S190.mk 129280 129535) :: (S190.mk 131072 196605) :: (S190.mk 196608 262141) :: []))) (sz := 2) zero191 Try.underlying191 sz190 (by kernel_rfl)) ?_)
  refine RA_step rfl (OA_st (b := b1) (m := 0) (k := 0) (vs := (List.flatMap enc190 ((S190.mk 4352 4447) :: (S190.mk 8986 8987) :: (S190.mk 9001 9002) :: (S190.mk 9193 9196) :: (S190.mk 9725 9726) :: (S190.mk 9748 9749) :: (S190.mk 9800 9811) :: (S190.mk 9889 9889) :: (S190.mk 9917 9918) :: (S190.mk 9989 9989) :: (S190.mk 10024 10024) :: (S190.mk 10060 10060) :: (S190.mk 10067 10069) :: (S190.mk 10133 10135) :: (S190.mk 11035 11036) :: (S190.mk 11088 11088) :: (S190.mk 11904 12350) :: (S190.mk 12353 13311) :: (S190.mk 13312 19903) :: (S190.mk 19968 40959) :: (S190.mk 40960 42191) :: (S190.mk 44032 55203) :: (S190.mk 63744 64255) :: (S190.mk 65072 65135) :: (S190.mk 65281 65376) :: (S190.mk 65504 65510) :: (S190.mk 127744 127776) :: (S190.mk 127789 127797) :: (S190.mk 127799 127868) :: (S190.mk 128000 128062) :: (S190.mk 128064 128064) :: (S190.mk 128066 128252) :: (S190.mk 128512 128591) :: (S190.mk 128640 128709) :: (S190.mk 129280 129535) :: (S190.mk 131072 196605) :: (S190.mk 196608 262141) :: []))) (cs' := (List.flatMap enc190 ((S190.mk 4352 4447) :: (S190.mk 8986 8987) :: (S190.mk 9001 9002) :: (S190.mk 9193 9196) :: (S190.mk 9725 9726) :: (S190.mk 9748 9749) :: (S190.mk 9800 9811) :: (S190.mk 9889 9889) :: (S190.mk 9917 9918) :: (S190.mk 9989 9989) :: (S190.mk 10024 10024) :: (S190.mk 10060 10060) :: (S190.mk 10067 10069) :: (S190.mk 10133 10135) :: (S190.mk 11035 11036) :: (S190.mk 11088 11088) :: (S190.mk 11904 12350) :: (S190.mk 12353 13311) :: (S190.mk 13312 19903) :: (S190.mk 19968 40959) :: (S190.mk 40960 42191) :: (S190.mk 44032 55203) :: (S190.mk 63744 64255) :: (S190.mk 65072 65135) :: (S190.mk 65281 65376) :: (S190.mk 65504 65510) :: (S190.mk 127744 127776) :: (S190.mk 127789 127797) :: (S190.mk 127799 127868) :: (S190.mk 128000 128062) :: (S190.mk 128064 128064) :: (S190.mk 128066 128252) :: (S190.mk 128512 128591) :: (S190.mk 128640 128709) :: (S190.mk 129280 129535) :: (S190.mk 131072 196605) :: (S190.mk 196608 262141) :: []))) rfl rfl rfl rfl rfl (by kernel_rfl) sz191 rfl (by kernel_rfl) ?_)
  refine RA_nil ?_
  refine at_normal ?_
  refine SA_ret ?_
  have hr_ := Option.some.inj H
  subst hr_
  exact BQ_RL (rs := [.cell 0 191]) (vs := [.agg (List.toArray (.int .i32 4352 :: .int .i32 4447 :: .int .i32 8986 :: .int .i32 8987 :: .int .i32 9001 :: .int .i32 9002 :: .int .i32 9193 :: .int .i32 9196 :: .int .i32 9725 :: .int .i32 9726 :: .int .i32 9748 :: .int .i32 9749 :: .int .i32 9800 :: .int .i32 9811 :: .int .i32 9889 :: .int .i32 9889 :: .int .i32 9917 :: .int .i32 9918 :: .int .i32 9989 :: .int .i32 9989 :: .int .i32 10024 :: .int .i32 10024 :: .int .i32 10060 :: .int .i32 10060 :: .int .i32 10067 :: .int .i32 10069 :: .int .i32 10133 :: .int .i32 10135 :: .int .i32 11035 :: .int .i32 11036 :: .int .i32 11088 :: .int .i32 11088 :: .int .i32 11904 :: .int .i32 12350 :: .int .i32 12353 :: .int .i32 13311 :: .int .i32 13312 :: .int .i32 19903 :: .int .i32 19968 :: .int .i32 40959 :: .int .i32 40960 :: .int .i32 42191 :: .int .i32 44032 :: .int .i32 55203 :: .int .i32 63744 :: .int .i32 64255 :: .int .i32 65072 :: .int .i32 65135 :: .int .i32 65281 :: .int .i32 65376 :: .int .i32 65504 :: .int .i32 65510 :: .int .i32 127744 :: .int .i32 127776 :: .int .i32 127789 :: .int .i32 127797 :: .int .i32 127799 :: .int .i32 127868 :: .int .i32 128000 :: .int .i32 128062 :: .int .i32 128064 :: .int .i32 128064 :: .int .i32 128066 :: .int .i32 128252 :: .int .i32 128512 :: .int .i32 128591 :: .int .i32 128640 :: .int .i32 128709 :: .int .i32 129280 :: .int .i32 129535 :: .int .i32 131072 :: .int .i32 196605 :: .int .i32 196608 :: .int .i32 262141 :: []))]) [] rfl ⟨RV.cell (k := 0) rfl rfl Try.underlying191 rfl sz191, trivial⟩ rfl (Gh.sel [] rfl rfl) ⟨(by kernel_rfl), rfl⟩
end Go.Proofs.Ytodkeoibebimgaa.Gr

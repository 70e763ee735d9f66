/- What functions compute, and that they do: 41, 50, 91, 106, 107, 119. -/
import Derived.Test.YtodkeoibebimgaaKc0
import Derived.Test.YtodkeoibebimgaaKc1
namespace Go.Proofs.Ytodkeoibebimgaa.Kc
open Go Go.RowKit Go.Proofs.Ytodkeoibebimgaa.SL
set_option linter.unusedVariables false
set_option linter.unusedSimpArgs false
attribute [local irreducible] IntKind.wrap minI maxI shrI shlI andI orI xorI andNotI cplI rd sub bytesOf strOf slA
/-! ### function 41: wayfarer/grid.May -/
def F41.l0 (a0 : S67) : Nat → S76 → Int → Option (Out (Bool) (S76))
  | 0, _, _ => none
  | k + 1, x3_13, x28_13 => if x28_13 < (a0.f2.length : Int) then (if 0 ≤ x28_13 ∧ x28_13 < (a0.f2.length : Int) then (if a0.f0 ≠ 0 then (lt ((decide ((x28_13.tmod a0.f0) = 0)) && (decide (x3_13.f2 = 2))) fun q23 => if q23 = true then (some (Out.ret (false))) else (lt ((decide (((rd a0.f2 x28_13).f2) = 0)) && (decide (((rd a0.f2 x28_13).f3) = x3_13.f3))) fun q27 => (if q27 = true then (if a0.f0 ≠ 0 then (some (decide ((x28_13.tmod a0.f0) > 0))) else none) else (some false) : Option Bool).bind (fun q30 => (F84.f k (S76.mk ((rd a0.f2 x28_13).f0) ((rd a0.f2 x28_13).f1) ((rd a0.f2 x28_13).f2) ((rd a0.f2 x28_13).f3))).bind (fun r34 => lt ((!r34) || (decide ((decide (x3_13.f2 = 2)) ≠ q30))) fun q35 => (if q35 = true then (some true) else (if ((rd a0.f2 x28_13).f2) = 0 then (some (!q30)) else (some false)) : Option Bool).bind (fun q38 => if q38 = true then (some (Out.ret (false))) else (F41.l0 a0 k (S76.mk ((rd a0.f2 x28_13).f0) ((rd a0.f2 x28_13).f1) ((rd a0.f2 x28_13).f2) ((rd a0.f2 x28_13).f3)) (IntKind.i64.wrap (x28_13 + 1)))))))) else none) else none) else (some (Out.go x3_13))
def F41.f (k : Nat) (a0 : S67) : Option (Bool) := (F78.f a0.f0 a0.f1).bind (fun r4 => lt ((!r4) || (decide ((a0.f2.length : Int) ≠ (IntKind.i64.wrap (a0.f0 * a0.f1))))) fun q5 => if q5 = true then (some (false)) else ((F41.l0 a0 k (S76.mk 0 (S74.mk 0 0 0) 1 (S70.mk 0 0 false false false false false false false false)) 0 : Option (Out (Bool) (S76))).bind (fun t11 => Out.el t11 (fun r_ => some r_) (fun s12 => some (decide (s12.f2 ≠ 2))))))
set_option maxHeartbeats 2000000 in
set_option maxRecDepth 100000 in
theorem F41.ok {k : Nat} {a0 : S67} {A0_0 : Option Addr} {c0_0 : Nat} {r : Bool} (H : F41.f k a0 = some r) : SCA Try.prog 41 #[.agg #[.int .i64 a0.f0, .int .i64 a0.f1, .slice A0_0 a0.f2.length c0_0]] [Ro k76 A0_0 c0_0 a0.f2] (fun v B => v = .bool r ∧ B = []) := by
  refine SCA_of_body Try.func41 rfl rfl ?_
  unfold F41.f at H
  refine SA_seq ?_
  refine SA_region ?_
  refine RA_step rfl (OA_box rfl rfl fun b2 => ?_)
  refine RA_step rfl (OA_v (v := .bool false) rfl (V_assign rfl) ?_)
  refine RA_nil ?_
  refine at_normal ?_
  refine SA_seq ?_
  refine SA_seq ?_
  refine SA_region ?_
  refine RA_step rfl (OA_v (v := .pointer (some ⟨b2, 0, none⟩)) rfl (V_fieldAddrN (B := ⟨b2, 0, none⟩) (m := 0) (o := 0) Try.underlying67 rfl nz3 rfl rfl) ?_)
  refine RA_step rfl (OA_r rfl (VR_load_blk (b := b2) (m := 0) (k := 1) Try.underlying3 rfl rfl rfl rfl) ?_)
  refine RA_step rfl (OA_v (v := .pointer (some ((⟨b2, 0, none⟩ : Addr).add 1))) rfl (V_fieldAddrN (B := ⟨b2, 0, none⟩) (m := 0) (o := 1) Try.underlying67 rfl nz3 rfl rfl) ?_)
  refine RA_step rfl (OA_r rfl (VR_load_blk (b := b2) (m := 1) (k := 1) Try.underlying3 rfl rfl rfl rfl) ?_)
  obtain ⟨r4, C45, H⟩ := g_bind H
  refine RA_step rfl (OA_callA [] [0, 1] rfl (X_fn (vs := [.int .i64 a0.f0, .int .i64 a0.f1]) Try.func78 nm78 rfl rfl) rfl (F78.ok (a0 := a0.f0) (a1 := a0.f1) C45) rfl ?_)
  rintro _ _ ⟨rfl, rfl⟩
  refine RA_step rfl (OA_v (v := .bool (!r4)) rfl (V_not rfl) ?_)
  refine RA_step rfl (OA_v (v := .bool (!r4)) rfl (V_move rfl) ?_)
  obtain ⟨q5, hq5, H⟩ := g_lt H
  refine RA_cut 10 (fun e ds As => St [(1, .pointer (some ⟨b2, 0, none⟩)), (23, .bool q5)] [Blk b2 67 [.int .i64 a0.f0, .int .i64 a0.f1, .slice A0_0 a0.f2.length c0_0], Ro k76 A0_0 c0_0 a0.f2] e ds As) ?_ ?_
  · by_cases h6 : (!r4) = true
    · refine RA_noB rfl rfl rfl rfl (h6) rfl ?_
      refine RA_noB rfl rfl rfl rfl (h6) rfl ?_
      refine RA_noB rfl rfl rfl rfl (h6) rfl ?_
      refine RA_noB rfl rfl rfl rfl (h6) rfl ?_
      refine RA_noB rfl rfl rfl rfl (h6) rfl ?_
      refine RA_noB rfl rfl rfl rfl (h6) rfl ?_
      refine RA_noB rfl rfl rfl rfl (h6) rfl ?_
      refine RA_noB rfl rfl rfl rfl (h6) rfl ?_
      refine RA_noB rfl rfl rfl rfl (h6) rfl ?_
      refine RA_step rfl (OA_v rfl (V_pickT rfl (h6) rfl) ?_)
      refine RA_nil ?_
      exact at_normal (St.mk1 (aeq rfl (aeq (congrArg Value.bool (or_t hq5 (h6))) aeq0)) (Gh.sel [1, 0] rfl rfl))
    · refine RA_yesB rfl rfl rfl rfl (bno h6) (OA_v (v := .pointer (some ((⟨b2, 0, none⟩ : Addr).add 2))) rfl (V_fieldAddrN (B := ⟨b2, 0, none⟩) (m := 0) (o := 2) Try.underlying67 rfl nz65 rfl rfl) ?_)
      refine RA_yesB rfl rfl rfl rfl (bno h6) (OA_r rfl (VR_load_blk (b := b2) (m := 2) (k := 1) Try.underlying65 rfl rfl rfl rfl) ?_)
      refine RA_yesB rfl rfl rfl rfl (bno h6) (OA_v (v := .int .i64 (a0.f2.length : Int)) rfl (V_len Try.underlying65 rfl) ?_)
      refine RA_yesB rfl rfl rfl rfl (bno h6) (OA_v (v := .pointer (some ⟨b2, 0, none⟩)) rfl (V_fieldAddrN (B := ⟨b2, 0, none⟩) (m := 0) (o := 0) Try.underlying67 rfl nz3 rfl rfl) ?_)
      refine RA_yesB rfl rfl rfl rfl (bno h6) (OA_r rfl (VR_load_blk (b := b2) (m := 0) (k := 1) Try.underlying3 rfl rfl rfl rfl) ?_)
      refine RA_yesB rfl rfl rfl rfl (bno h6) (OA_v (v := .pointer (some ((⟨b2, 0, none⟩ : Addr).add 1))) rfl (V_fieldAddrN (B := ⟨b2, 0, none⟩) (m := 0) (o := 1) Try.underlying67 rfl nz3 rfl rfl) ?_)
      refine RA_yesB rfl rfl rfl rfl (bno h6) (OA_r rfl (VR_load_blk (b := b2) (m := 1) (k := 1) Try.underlying3 rfl rfl rfl rfl) ?_)
      refine RA_yesB rfl rfl rfl rfl (bno h6) (OA_v (v := .int .i64 (IntKind.i64.wrap (a0.f0 * a0.f1))) rfl (V_mul rfl rfl) ?_)
      refine RA_yesB rfl rfl rfl rfl (bno h6) (OA_v (v := .bool (decide ((a0.f2.length : Int) ≠ (IntKind.i64.wrap (a0.f0 * a0.f1))))) rfl (V_neq rfl rfl) ?_)
      refine RA_step rfl (OA_v rfl (V_pickF rfl (bno h6) rfl) ?_)
      refine RA_nil ?_
      exact at_normal (St.mk1 (aeq rfl (aeq (congrArg Value.bool (or_f hq5 (bno h6))) aeq0)) (Gh.sel [1, 0] rfl rfl))
  · rintro e ds As hst7
    refine RA_nil ?_
    refine at_normal ?_
    refine SA.of_St hst7 fun junk => ?_
    by_cases h8 : q5 = true
    · replace H := g_ift h8 H
      refine SA_condTb rfl h8 ?_
      refine SA_seq ?_
      refine SA_region ?_
      refine RA_step rfl (OA_v (v := .bool false) rfl (V_assign rfl) ?_)
      refine RA_nil ?_
      refine at_normal ?_
      refine SA_ret ?_
      refine thn_ret ?_
      have hr_ := Option.some.inj H
      subst hr_
      exact BQ_R1 [] rfl rfl (Gh.sel [] rfl rfl) ⟨rfl, rfl⟩
    · replace H := g_iff h8 H
      refine SA_condFb rfl h8 ?_
      refine SA_skip ?_
      refine at_normal ?_
      refine SA_seq ?_
      refine SA_region ?_
      refine RA_step rfl (OA_v (v := .agg (List.toArray (.int .i32 0 :: .int .i32 0 :: .int .i32 0 :: .int .i32 0 :: .int .u8 1 :: .int .i64 0 :: .int .i64 0 :: .bool false :: .bool false :: .bool false :: .bool false :: .bool false :: .bool false :: .bool false :: .bool false :: []))) rfl (V_build (cells := (.int .i32 0 :: .int .i32 0 :: .int .i32 0 :: .int .i32 0 :: .int .u8 1 :: .int .i64 0 :: .int .i64 0 :: .bool false :: .bool false :: .bool false :: .bool false :: .bool false :: .bool false :: .bool false :: .bool false :: [])) zero76 Try.underlying76 plc76 (by kernel_rfl)) ?_)
      refine RA_step rfl (OA_alloc rfl zero76 fun b9 => ?_)
      refine RA_step rfl (OA_st (b := b9) (m := 0) (k := 2) (vs := (.int .i32 0 :: .int .i32 0 :: .int .i32 0 :: .int .i32 0 :: .int .u8 1 :: .int .i64 0 :: .int .i64 0 :: .bool false :: .bool false :: .bool false :: .bool false :: .bool false :: .bool false :: .bool false :: .bool false :: [])) (cs' := (.int .i32 0 :: .int .i32 0 :: .int .i32 0 :: .int .i32 0 :: .int .u8 1 :: .int .i64 0 :: .int .i64 0 :: .bool false :: .bool false :: .bool false :: .bool false :: .bool false :: .bool false :: .bool false :: .bool false :: [])) rfl rfl rfl rfl rfl rfl sz76 rfl rfl ?_)
      refine RA_nil ?_
      refine at_normal ?_
      refine SA_seq ?_
      refine SA_seq ?_
      refine SA_region ?_
      refine RA_step rfl (OA_v (v := .pointer (some ((⟨b2, 0, none⟩ : Addr).add 2))) rfl (V_fieldAddrN (B := ⟨b2, 0, none⟩) (m := 0) (o := 2) Try.underlying67 rfl nz65 rfl rfl) ?_)
      refine RA_step rfl (OA_r rfl (VR_load_blk (b := b2) (m := 2) (k := 0) Try.underlying65 rfl rfl rfl rfl) ?_)
      refine RA_step rfl (OA_v (v := .int .i64 (a0.f2.length : Int)) rfl (V_len Try.underlying65 rfl) ?_)
      refine RA_step rfl (OA_v (v := .int .i64 0) rfl (V_move rfl) ?_)
      refine RA_nil ?_
      refine at_normal ?_
      obtain ⟨t11, H, Bt11⟩ := g_bind H
      refine SA_mid (fun e ds As => ∃ (s12 : S76), t11 = Out.go s12 ∧ ∃ (b13 : Nat), St [(3, .pointer (some ⟨b13, 0, none⟩))] [Blk b13 76 (.int .i32 s12.f0 :: .int .i32 s12.f1.f0 :: .int .i32 s12.f1.f1 :: .int .i32 s12.f1.f2 :: .int .u8 s12.f2 :: .int .i64 s12.f3.f0 :: .int .i64 s12.f3.f1 :: .bool s12.f3.f2 :: .bool s12.f3.f3 :: .bool s12.f3.f4 :: .bool s12.f3.f5 :: .bool s12.f3.f6 :: .bool s12.f3.f7 :: .bool s12.f3.f8 :: .bool s12.f3.f9 :: [])] e ds As) ?_ ?_
      · refine SA_block ?_
        refine SA_loop (fun k_ e ds As => ∃ (x3_13 : S76) (x28_13 : Int), ∃ (b14 : Nat), F41.l0 a0 k_ x3_13 x28_13 = some t11 ∧ St [(1, .pointer (some ⟨b2, 0, none⟩)), (3, .pointer (some ⟨b14, 0, none⟩)), (26, .slice A0_0 a0.f2.length c0_0), (27, .int .i64 (a0.f2.length : Int)), (28, .int .i64 x28_13)] [Blk b2 67 [.int .i64 a0.f0, .int .i64 a0.f1, .slice A0_0 a0.f2.length c0_0], Ro k76 A0_0 c0_0 a0.f2, Blk b14 76 (.int .i32 x3_13.f0 :: .int .i32 x3_13.f1.f0 :: .int .i32 x3_13.f1.f1 :: .int .i32 x3_13.f1.f2 :: .int .u8 x3_13.f2 :: .int .i64 x3_13.f3.f0 :: .int .i64 x3_13.f3.f1 :: .bool x3_13.f3.f2 :: .bool x3_13.f3.f3 :: .bool x3_13.f3.f4 :: .bool x3_13.f3.f5 :: .bool x3_13.f3.f6 :: .bool x3_13.f3.f7 :: .bool x3_13.f3.f8 :: .bool x3_13.f3.f9 :: [])] e ds As) (k := k) ⟨_, _, b9, H, St.mk1 (aeq rfl (aeq rfl (aeq rfl (aeq rfl (aeq rfl aeq0))))) (Gh.sel [0, 1, 2] rfl rfl)⟩ ?_
        clear H
        rintro k15 e ds As ⟨x3_13, x28_13, b14, H, hst16⟩
        obtain _ | k15 := k15
        · cases H
        rw [F41.l0] at H
        refine SA.of_St hst16 fun junk => ?_
        refine SA_seq ?_
        refine SA_region ?_
        refine RA_step rfl (OA_v (v := .bool (decide (x28_13 < (a0.f2.length : Int)))) rfl (V_lss rfl rfl) ?_)
        refine RA_nil ?_
        refine at_normal ?_
        refine SA_seq ?_
        by_cases h17 : x28_13 < (a0.f2.length : Int)
        · replace H := g_ift h17 H
          refine SA_condT rfl h17 ?_
          refine SA_skip ?_
          refine at_normal ?_
          refine SA_seq ?_
          refine SA_block ?_
          refine SA_seq ?_
          refine SA_region ?_
          refine RA_step rfl (OA_v (v := .int .i64 x28_13) rfl (V_move rfl) ?_)
          obtain ⟨⟨g18, g19⟩, H⟩ := g_pos H
          refine RA_step rfl (OA_r rfl (VR_index (i := x28_13) Try.underlying65 sz76 rfl rfl (Src.ro (k := 1) rfl) g18 g19) ?_)
          refine RA_step rfl (OA_r rfl (VR_loadA_el (enc := enc76) (i := x28_13) (j := x28_13.toNat * 15) (m := 0) (sz := 15) (vs := (.int .i32 ((rd a0.f2 x28_13).f0) :: .int .i32 (((rd a0.f2 x28_13).f1).f0) :: .int .i32 (((rd a0.f2 x28_13).f1).f1) :: .int .i32 (((rd a0.f2 x28_13).f1).f2) :: .int .u8 ((rd a0.f2 x28_13).f2) :: .int .i64 (((rd a0.f2 x28_13).f3).f0) :: .int .i64 (((rd a0.f2 x28_13).f3).f1) :: .bool (((rd a0.f2 x28_13).f3).f2) :: .bool (((rd a0.f2 x28_13).f3).f3) :: .bool (((rd a0.f2 x28_13).f3).f4) :: .bool (((rd a0.f2 x28_13).f3).f5) :: .bool (((rd a0.f2 x28_13).f3).f6) :: .bool (((rd a0.f2 x28_13).f3).f7) :: .bool (((rd a0.f2 x28_13).f3).f8) :: .bool (((rd a0.f2 x28_13).f3).f9) :: [])) Try.underlying76 rfl sz76 rfl rfl rfl (Src.ro (k := 1) rfl) g18 g19 (fun _ _ h => h) rfl) ?_)
          refine RA_step rfl (OA_alloc rfl zero76 fun b20 => ?_)
          refine RA_step rfl (OA_v (v := .int .i64 x28_13) rfl (V_assign rfl) ?_)
          refine RA_step rfl (OA_st (b := b20) (m := 0) (k := 3) (vs := (.int .i32 ((rd a0.f2 x28_13).f0) :: .int .i32 (((rd a0.f2 x28_13).f1).f0) :: .int .i32 (((rd a0.f2 x28_13).f1).f1) :: .int .i32 (((rd a0.f2 x28_13).f1).f2) :: .int .u8 ((rd a0.f2 x28_13).f2) :: .int .i64 (((rd a0.f2 x28_13).f3).f0) :: .int .i64 (((rd a0.f2 x28_13).f3).f1) :: .bool (((rd a0.f2 x28_13).f3).f2) :: .bool (((rd a0.f2 x28_13).f3).f3) :: .bool (((rd a0.f2 x28_13).f3).f4) :: .bool (((rd a0.f2 x28_13).f3).f5) :: .bool (((rd a0.f2 x28_13).f3).f6) :: .bool (((rd a0.f2 x28_13).f3).f7) :: .bool (((rd a0.f2 x28_13).f3).f8) :: .bool (((rd a0.f2 x28_13).f3).f9) :: [])) (cs' := (.int .i32 ((rd a0.f2 x28_13).f0) :: .int .i32 (((rd a0.f2 x28_13).f1).f0) :: .int .i32 (((rd a0.f2 x28_13).f1).f1) :: .int .i32 (((rd a0.f2 x28_13).f1).f2) :: .int .u8 ((rd a0.f2 x28_13).f2) :: .int .i64 (((rd a0.f2 x28_13).f3).f0) :: .int .i64 (((rd a0.f2 x28_13).f3).f1) :: .bool (((rd a0.f2 x28_13).f3).f2) :: .bool (((rd a0.f2 x28_13).f3).f3) :: .bool (((rd a0.f2 x28_13).f3).f4) :: .bool (((rd a0.f2 x28_13).f3).f5) :: .bool (((rd a0.f2 x28_13).f3).f6) :: .bool (((rd a0.f2 x28_13).f3).f7) :: .bool (((rd a0.f2 x28_13).f3).f8) :: .bool (((rd a0.f2 x28_13).f3).f9) :: [])) rfl rfl rfl rfl rfl rfl sz76 rfl rfl ?_)
          refine RA_nil ?_
          refine at_normal ?_
          refine SA_seq ?_
          refine SA_seq ?_
          refine SA_region ?_
          refine RA_step rfl (OA_v (v := .int .i64 x28_13) rfl (V_move rfl) ?_)
          refine RA_step rfl (OA_v (v := .pointer (some ⟨b2, 0, none⟩)) rfl (V_fieldAddrN (B := ⟨b2, 0, none⟩) (m := 0) (o := 0) Try.underlying67 rfl nz3 rfl rfl) ?_)
          refine RA_step rfl (OA_r rfl (VR_load_blk (b := b2) (m := 0) (k := 0) Try.underlying3 rfl rfl rfl rfl) ?_)
          obtain ⟨g22, H⟩ := g_pos H
          refine RA_step rfl (OA_v (v := .int .i64 (x28_13.tmod a0.f0)) rfl (V_rem rfl rfl g22) ?_)
          refine RA_step rfl (OA_v (v := .bool (decide ((x28_13.tmod a0.f0) = 0))) rfl (V_eql rfl rfl) ?_)
          refine RA_step rfl (OA_v (v := .bool (decide ((x28_13.tmod a0.f0) = 0))) rfl (V_move rfl) ?_)
          obtain ⟨q23, hq23, H⟩ := g_lt H
          refine RA_cut 4 (fun e ds As => St [(1, .pointer (some ⟨b2, 0, none⟩)), (3, .pointer (some ⟨b14, 0, none⟩)), (4, .int .i64 x28_13), (5, .pointer (some ⟨b20, 0, none⟩)), (26, .slice A0_0 a0.f2.length c0_0), (27, .int .i64 (a0.f2.length : Int)), (28, .int .i64 x28_13), (42, .bool q23)] [Blk b2 67 [.int .i64 a0.f0, .int .i64 a0.f1, .slice A0_0 a0.f2.length c0_0], Ro k76 A0_0 c0_0 a0.f2, Blk b14 76 (.int .i32 x3_13.f0 :: .int .i32 x3_13.f1.f0 :: .int .i32 x3_13.f1.f1 :: .int .i32 x3_13.f1.f2 :: .int .u8 x3_13.f2 :: .int .i64 x3_13.f3.f0 :: .int .i64 x3_13.f3.f1 :: .bool x3_13.f3.f2 :: .bool x3_13.f3.f3 :: .bool x3_13.f3.f4 :: .bool x3_13.f3.f5 :: .bool x3_13.f3.f6 :: .bool x3_13.f3.f7 :: .bool x3_13.f3.f8 :: .bool x3_13.f3.f9 :: []), Blk b20 76 (.int .i32 ((rd a0.f2 x28_13).f0) :: .int .i32 (((rd a0.f2 x28_13).f1).f0) :: .int .i32 (((rd a0.f2 x28_13).f1).f1) :: .int .i32 (((rd a0.f2 x28_13).f1).f2) :: .int .u8 ((rd a0.f2 x28_13).f2) :: .int .i64 (((rd a0.f2 x28_13).f3).f0) :: .int .i64 (((rd a0.f2 x28_13).f3).f1) :: .bool (((rd a0.f2 x28_13).f3).f2) :: .bool (((rd a0.f2 x28_13).f3).f3) :: .bool (((rd a0.f2 x28_13).f3).f4) :: .bool (((rd a0.f2 x28_13).f3).f5) :: .bool (((rd a0.f2 x28_13).f3).f6) :: .bool (((rd a0.f2 x28_13).f3).f7) :: .bool (((rd a0.f2 x28_13).f3).f8) :: .bool (((rd a0.f2 x28_13).f3).f9) :: [])] e ds As) ?_ ?_
          · by_cases h24 : (x28_13.tmod a0.f0) = 0
            · refine RA_yesB rfl rfl rfl rfl (dec_t h24) (OA_v (v := .pointer (some ((⟨b14, 0, none⟩ : Addr).add 4))) rfl (V_fieldAddrN (B := ⟨b14, 0, none⟩) (m := 0) (o := 4) Try.underlying76 rfl nz5 rfl rfl) ?_)
              refine RA_yesB rfl rfl rfl rfl (dec_t h24) (OA_r rfl (VR_load_blk (b := b14) (m := 4) (k := 2) Try.underlying5 rfl rfl rfl rfl) ?_)
              refine RA_yesB rfl rfl rfl rfl (dec_t h24) (OA_v (v := .bool (decide (x3_13.f2 = 2))) rfl (V_eql rfl rfl) ?_)
              refine RA_step rfl (OA_v rfl (V_pickT rfl (dec_t h24) rfl) ?_)
              refine RA_nil ?_
              exact at_normal (St.mk1 (aeq rfl (aeq rfl (aeq rfl (aeq rfl (aeq rfl (aeq rfl (aeq rfl (aeq (congrArg Value.bool (and_t hq23 (dec_t h24))) aeq0)))))))) (Gh.sel [0, 1, 2, 3] rfl rfl))
            · refine RA_noB rfl rfl rfl rfl (dec_f h24) rfl ?_
              refine RA_noB rfl rfl rfl rfl (dec_f h24) rfl ?_
              refine RA_noB rfl rfl rfl rfl (dec_f h24) rfl ?_
              refine RA_step rfl (OA_v rfl (V_pickF rfl (dec_f h24) rfl) ?_)
              refine RA_nil ?_
              exact at_normal (St.mk1 (aeq rfl (aeq rfl (aeq rfl (aeq rfl (aeq rfl (aeq rfl (aeq rfl (aeq (congrArg Value.bool (and_f hq23 (dec_f h24))) aeq0)))))))) (Gh.sel [0, 1, 2, 3] rfl rfl))
          · rintro e ds As hst25
            refine RA_nil ?_
            refine at_normal ?_
            refine SA.of_St hst25 fun junk => ?_
            by_cases h26 : q23 = true
            · replace H := g_ift h26 H
              refine SA_condTb rfl h26 ?_
              refine SA_seq ?_
              refine SA_region ?_
              refine RA_step rfl (OA_v (v := .bool false) rfl (V_assign rfl) ?_)
              refine RA_nil ?_
              refine at_normal ?_
              refine SA_ret ?_
              refine thn_ret ?_
              refine inb_ret ?_
              refine thn_ret ?_
              refine thn_ret ?_
              refine inb_ret ?_
              refine thn_ret ?_
              refine thn_ret ?_
              have hr_ := Option.some.inj H
              subst hr_
              have hb_ := el_ret Bt11
              have hr_ := Option.some.inj hb_
              clear hb_
              subst hr_
              exact BQ_R1 [] rfl rfl (Gh.sel [] rfl rfl) ⟨rfl, rfl⟩
            · replace H := g_iff h26 H
              refine SA_condFb rfl h26 ?_
              refine SA_skip ?_
              refine at_normal ?_
              refine SA_seq ?_
              refine SA_region ?_
              refine RA_step rfl (OA_v (v := .pointer (some ((⟨b20, 0, none⟩ : Addr).add 4))) rfl (V_fieldAddrN (B := ⟨b20, 0, none⟩) (m := 0) (o := 4) Try.underlying76 rfl nz5 rfl rfl) ?_)
              refine RA_step rfl (OA_r rfl (VR_load_blk (b := b20) (m := 4) (k := 3) Try.underlying5 rfl rfl rfl rfl) ?_)
              refine RA_step rfl (OA_v (v := .bool (decide (((rd a0.f2 x28_13).f2) = 0))) rfl (V_eql rfl rfl) ?_)
              refine RA_step rfl (OA_v (v := .bool (decide (((rd a0.f2 x28_13).f2) = 0))) rfl (V_move rfl) ?_)
              obtain ⟨q27, hq27, H⟩ := g_lt H
              refine RA_cut 6 (fun e ds As => St [(1, .pointer (some ⟨b2, 0, none⟩)), (3, .pointer (some ⟨b14, 0, none⟩)), (4, .int .i64 x28_13), (5, .pointer (some ⟨b20, 0, none⟩)), (26, .slice A0_0 a0.f2.length c0_0), (27, .int .i64 (a0.f2.length : Int)), (28, .int .i64 x28_13), (52, .bool q27)] [Blk b2 67 [.int .i64 a0.f0, .int .i64 a0.f1, .slice A0_0 a0.f2.length c0_0], Ro k76 A0_0 c0_0 a0.f2, Blk b14 76 (.int .i32 x3_13.f0 :: .int .i32 x3_13.f1.f0 :: .int .i32 x3_13.f1.f1 :: .int .i32 x3_13.f1.f2 :: .int .u8 x3_13.f2 :: .int .i64 x3_13.f3.f0 :: .int .i64 x3_13.f3.f1 :: .bool x3_13.f3.f2 :: .bool x3_13.f3.f3 :: .bool x3_13.f3.f4 :: .bool x3_13.f3.f5 :: .bool x3_13.f3.f6 :: .bool x3_13.f3.f7 :: .bool x3_13.f3.f8 :: .bool x3_13.f3.f9 :: []), Blk b20 76 (.int .i32 ((rd a0.f2 x28_13).f0) :: .int .i32 (((rd a0.f2 x28_13).f1).f0) :: .int .i32 (((rd a0.f2 x28_13).f1).f1) :: .int .i32 (((rd a0.f2 x28_13).f1).f2) :: .int .u8 ((rd a0.f2 x28_13).f2) :: .int .i64 (((rd a0.f2 x28_13).f3).f0) :: .int .i64 (((rd a0.f2 x28_13).f3).f1) :: .bool (((rd a0.f2 x28_13).f3).f2) :: .bool (((rd a0.f2 x28_13).f3).f3) :: .bool (((rd a0.f2 x28_13).f3).f4) :: .bool (((rd a0.f2 x28_13).f3).f5) :: .bool (((rd a0.f2 x28_13).f3).f6) :: .bool (((rd a0.f2 x28_13).f3).f7) :: .bool (((rd a0.f2 x28_13).f3).f8) :: .bool (((rd a0.f2 x28_13).f3).f9) :: [])] e ds As) ?_ ?_
              · by_cases h28 : ((rd a0.f2 x28_13).f2) = 0
                · refine RA_yesB rfl rfl rfl rfl (dec_t h28) (OA_v (v := .pointer (some ((⟨b20, 0, none⟩ : Addr).add 5))) rfl (V_fieldAddrN (B := ⟨b20, 0, none⟩) (m := 0) (o := 5) Try.underlying76 rfl nz70 rfl rfl) ?_)
                  refine RA_yesB rfl rfl rfl rfl (dec_t h28) (OA_r rfl (VR_loadA_blk (b := b20) (m := 5) (k := 3) (vs := [.int .i64 (((rd a0.f2 x28_13).f3).f0), .int .i64 (((rd a0.f2 x28_13).f3).f1), .bool (((rd a0.f2 x28_13).f3).f2), .bool (((rd a0.f2 x28_13).f3).f3), .bool (((rd a0.f2 x28_13).f3).f4), .bool (((rd a0.f2 x28_13).f3).f5), .bool (((rd a0.f2 x28_13).f3).f6), .bool (((rd a0.f2 x28_13).f3).f7), .bool (((rd a0.f2 x28_13).f3).f8), .bool (((rd a0.f2 x28_13).f3).f9)]) Try.underlying70 rfl sz70 rfl rfl rfl) ?_)
                  refine RA_yesB rfl rfl rfl rfl (dec_t h28) (OA_v (v := .pointer (some ((⟨b14, 0, none⟩ : Addr).add 5))) rfl (V_fieldAddrN (B := ⟨b14, 0, none⟩) (m := 0) (o := 5) Try.underlying76 rfl nz70 rfl rfl) ?_)
                  refine RA_yesB rfl rfl rfl rfl (dec_t h28) (OA_r rfl (VR_loadA_blk (b := b14) (m := 5) (k := 2) (vs := [.int .i64 x3_13.f3.f0, .int .i64 x3_13.f3.f1, .bool x3_13.f3.f2, .bool x3_13.f3.f3, .bool x3_13.f3.f4, .bool x3_13.f3.f5, .bool x3_13.f3.f6, .bool x3_13.f3.f7, .bool x3_13.f3.f8, .bool x3_13.f3.f9]) Try.underlying70 rfl sz70 rfl rfl rfl) ?_)
                  refine RA_yesB rfl rfl rfl rfl (dec_t h28) (OA_v (v := .bool (decide (((rd a0.f2 x28_13).f3) = x3_13.f3))) rfl (V_eqlD (xs := [.int .i64 (((rd a0.f2 x28_13).f3).f0), .int .i64 (((rd a0.f2 x28_13).f3).f1), .bool (((rd a0.f2 x28_13).f3).f2), .bool (((rd a0.f2 x28_13).f3).f3), .bool (((rd a0.f2 x28_13).f3).f4), .bool (((rd a0.f2 x28_13).f3).f5), .bool (((rd a0.f2 x28_13).f3).f6), .bool (((rd a0.f2 x28_13).f3).f7), .bool (((rd a0.f2 x28_13).f3).f8), .bool (((rd a0.f2 x28_13).f3).f9)]) (ys := [.int .i64 x3_13.f3.f0, .int .i64 x3_13.f3.f1, .bool x3_13.f3.f2, .bool x3_13.f3.f3, .bool x3_13.f3.f4, .bool x3_13.f3.f5, .bool x3_13.f3.f6, .bool x3_13.f3.f7, .bool x3_13.f3.f8, .bool x3_13.f3.f9]) (r := (((((rd a0.f2 x28_13).f3).f0) == x3_13.f3.f0) && (((((rd a0.f2 x28_13).f3).f1) == x3_13.f3.f1) && (((((rd a0.f2 x28_13).f3).f2) == x3_13.f3.f2) && (((((rd a0.f2 x28_13).f3).f3) == x3_13.f3.f3) && (((((rd a0.f2 x28_13).f3).f4) == x3_13.f3.f4) && (((((rd a0.f2 x28_13).f3).f5) == x3_13.f3.f5) && (((((rd a0.f2 x28_13).f3).f6) == x3_13.f3.f6) && (((((rd a0.f2 x28_13).f3).f7) == x3_13.f3.f7) && (((((rd a0.f2 x28_13).f3).f8) == x3_13.f3.f8) && (((((rd a0.f2 x28_13).f3).f9) == x3_13.f3.f9) && true))))))))))) (p := ((rd a0.f2 x28_13).f3) = x3_13.f3) eqg70 rfl rfl (by kernel_rfl) (eqv70 (x := ((rd a0.f2 x28_13).f3)) (y := x3_13.f3))) ?_)
                  refine RA_step rfl (OA_v rfl (V_pickT rfl (dec_t h28) rfl) ?_)
                  refine RA_nil ?_
                  exact at_normal (St.mk1 (aeq rfl (aeq rfl (aeq rfl (aeq rfl (aeq rfl (aeq rfl (aeq rfl (aeq (congrArg Value.bool (and_t hq27 (dec_t h28))) aeq0)))))))) (Gh.sel [0, 1, 2, 3] rfl rfl))
                · refine RA_noB rfl rfl rfl rfl (dec_f h28) rfl ?_
                  refine RA_noB rfl rfl rfl rfl (dec_f h28) rfl ?_
                  refine RA_noB rfl rfl rfl rfl (dec_f h28) rfl ?_
                  refine RA_noB rfl rfl rfl rfl (dec_f h28) rfl ?_
                  refine RA_noB rfl rfl rfl rfl (dec_f h28) rfl ?_
                  refine RA_step rfl (OA_v rfl (V_pickF rfl (dec_f h28) rfl) ?_)
                  refine RA_nil ?_
                  exact at_normal (St.mk1 (aeq rfl (aeq rfl (aeq rfl (aeq rfl (aeq rfl (aeq rfl (aeq rfl (aeq (congrArg Value.bool (and_f hq27 (dec_f h28))) aeq0)))))))) (Gh.sel [0, 1, 2, 3] rfl rfl))
              · rintro e ds As hst29
                refine RA.of_St rfl hst29 fun junk => ?_
                refine RA_step rfl (OA_v (v := .bool q27) rfl (V_move rfl) ?_)
                obtain ⟨q30, H, Bq30⟩ := g_bind H
                refine RA_cut 6 (fun e ds As => St [(1, .pointer (some ⟨b2, 0, none⟩)), (3, .pointer (some ⟨b14, 0, none⟩)), (5, .pointer (some ⟨b20, 0, none⟩)), (26, .slice A0_0 a0.f2.length c0_0), (27, .int .i64 (a0.f2.length : Int)), (28, .int .i64 x28_13), (59, .bool q30)] [Blk b2 67 [.int .i64 a0.f0, .int .i64 a0.f1, .slice A0_0 a0.f2.length c0_0], Ro k76 A0_0 c0_0 a0.f2, Blk b14 76 (.int .i32 x3_13.f0 :: .int .i32 x3_13.f1.f0 :: .int .i32 x3_13.f1.f1 :: .int .i32 x3_13.f1.f2 :: .int .u8 x3_13.f2 :: .int .i64 x3_13.f3.f0 :: .int .i64 x3_13.f3.f1 :: .bool x3_13.f3.f2 :: .bool x3_13.f3.f3 :: .bool x3_13.f3.f4 :: .bool x3_13.f3.f5 :: .bool x3_13.f3.f6 :: .bool x3_13.f3.f7 :: .bool x3_13.f3.f8 :: .bool x3_13.f3.f9 :: []), Blk b20 76 (.int .i32 ((rd a0.f2 x28_13).f0) :: .int .i32 (((rd a0.f2 x28_13).f1).f0) :: .int .i32 (((rd a0.f2 x28_13).f1).f1) :: .int .i32 (((rd a0.f2 x28_13).f1).f2) :: .int .u8 ((rd a0.f2 x28_13).f2) :: .int .i64 (((rd a0.f2 x28_13).f3).f0) :: .int .i64 (((rd a0.f2 x28_13).f3).f1) :: .bool (((rd a0.f2 x28_13).f3).f2) :: .bool (((rd a0.f2 x28_13).f3).f3) :: .bool (((rd a0.f2 x28_13).f3).f4) :: .bool (((rd a0.f2 x28_13).f3).f5) :: .bool (((rd a0.f2 x28_13).f3).f6) :: .bool (((rd a0.f2 x28_13).f3).f7) :: .bool (((rd a0.f2 x28_13).f3).f8) :: .bool (((rd a0.f2 x28_13).f3).f9) :: [])] e ds As) ?_ ?_
                · by_cases h31 : q27 = true
                  · replace H := g_ift h31 H
                    refine RA_yesB rfl rfl rfl rfl (h31) (OA_v (v := .int .i64 x28_13) rfl (V_move rfl) ?_)
                    refine RA_yesB rfl rfl rfl rfl (h31) (OA_v (v := .pointer (some ⟨b2, 0, none⟩)) rfl (V_fieldAddrN (B := ⟨b2, 0, none⟩) (m := 0) (o := 0) Try.underlying67 rfl nz3 rfl rfl) ?_)
                    refine RA_yesB rfl rfl rfl rfl (h31) (OA_r rfl (VR_load_blk (b := b2) (m := 0) (k := 0) Try.underlying3 rfl rfl rfl rfl) ?_)
                    obtain ⟨g32, H⟩ := g_pos H
                    refine RA_yesB rfl rfl rfl rfl (h31) (OA_v (v := .int .i64 (x28_13.tmod a0.f0)) rfl (V_rem rfl rfl g32) ?_)
                    refine RA_yesB rfl rfl rfl rfl (h31) (OA_v (v := .bool (decide ((x28_13.tmod a0.f0) > 0))) rfl (V_gtr rfl rfl) ?_)
                    refine RA_step rfl (OA_v rfl (V_pickT rfl (h31) rfl) ?_)
                    have hr_ := Option.some.inj H
                    subst hr_
                    refine RA_nil ?_
                    exact at_normal (St.mk1 (aeq rfl (aeq rfl (aeq rfl (aeq rfl (aeq rfl (aeq rfl (aeq rfl aeq0))))))) (Gh.sel [0, 1, 2, 3] rfl rfl))
                  · replace H := g_iff h31 H
                    refine RA_noB rfl rfl rfl rfl (bno h31) rfl ?_
                    refine RA_noB rfl rfl rfl rfl (bno h31) rfl ?_
                    refine RA_noB rfl rfl rfl rfl (bno h31) rfl ?_
                    refine RA_noB rfl rfl rfl rfl (bno h31) rfl ?_
                    refine RA_noB rfl rfl rfl rfl (bno h31) rfl ?_
                    refine RA_step rfl (OA_v rfl (V_pickF rfl (bno h31) rfl) ?_)
                    have hr_ := Option.some.inj H
                    subst hr_
                    refine RA_nil ?_
                    exact at_normal (St.mk1 (aeq rfl (aeq rfl (aeq rfl (aeq rfl (aeq rfl (aeq rfl (aeq rfl aeq0))))))) (Gh.sel [0, 1, 2, 3] rfl rfl))
                · rintro e ds As hst33
                  clear H
                  have H := Bq30
                  clear Bq30
                  refine RA.of_St rfl hst33 fun junk => ?_
                  refine RA_step rfl (OA_v (v := .bool q30) rfl (V_assign rfl) ?_)
                  refine RA_nil ?_
                  refine at_normal ?_
                  refine SA_seq ?_
                  refine SA_seq ?_
                  refine SA_region ?_
                  refine RA_step rfl (OA_r rfl (VR_loadA_blk (b := b20) (m := 0) (k := 3) (vs := (.int .i32 ((rd a0.f2 x28_13).f0) :: .int .i32 (((rd a0.f2 x28_13).f1).f0) :: .int .i32 (((rd a0.f2 x28_13).f1).f1) :: .int .i32 (((rd a0.f2 x28_13).f1).f2) :: .int .u8 ((rd a0.f2 x28_13).f2) :: .int .i64 (((rd a0.f2 x28_13).f3).f0) :: .int .i64 (((rd a0.f2 x28_13).f3).f1) :: .bool (((rd a0.f2 x28_13).f3).f2) :: .bool (((rd a0.f2 x28_13).f3).f3) :: .bool (((rd a0.f2 x28_13).f3).f4) :: .bool (((rd a0.f2 x28_13).f3).f5) :: .bool (((rd a0.f2 x28_13).f3).f6) :: .bool (((rd a0.f2 x28_13).f3).f7) :: .bool (((rd a0.f2 x28_13).f3).f8) :: .bool (((rd a0.f2 x28_13).f3).f9) :: [])) Try.underlying76 rfl sz76 rfl rfl rfl) ?_)
                  obtain ⟨r34, C43, H⟩ := g_bind H
                  refine RA_step rfl (OA_callA [] [0, 1, 2, 3] rfl (X_fn (vs := [.agg (List.toArray (.int .i32 ((rd a0.f2 x28_13).f0) :: .int .i32 (((rd a0.f2 x28_13).f1).f0) :: .int .i32 (((rd a0.f2 x28_13).f1).f1) :: .int .i32 (((rd a0.f2 x28_13).f1).f2) :: .int .u8 ((rd a0.f2 x28_13).f2) :: .int .i64 (((rd a0.f2 x28_13).f3).f0) :: .int .i64 (((rd a0.f2 x28_13).f3).f1) :: .bool (((rd a0.f2 x28_13).f3).f2) :: .bool (((rd a0.f2 x28_13).f3).f3) :: .bool (((rd a0.f2 x28_13).f3).f4) :: .bool (((rd a0.f2 x28_13).f3).f5) :: .bool (((rd a0.f2 x28_13).f3).f6) :: .bool (((rd a0.f2 x28_13).f3).f7) :: .bool (((rd a0.f2 x28_13).f3).f8) :: .bool (((rd a0.f2 x28_13).f3).f9) :: []))]) Try.func84 nm84 rfl rfl) rfl (F84.ok (a0 := (S76.mk ((rd a0.f2 x28_13).f0) ((rd a0.f2 x28_13).f1) ((rd a0.f2 x28_13).f2) ((rd a0.f2 x28_13).f3))) C43) rfl ?_)
                  rintro _ _ ⟨rfl, rfl⟩
                  refine RA_step rfl (OA_v (v := .bool (!r34)) rfl (V_not rfl) ?_)
                  refine RA_step rfl (OA_v (v := .bool (!r34)) rfl (V_move rfl) ?_)
                  obtain ⟨q35, hq35, H⟩ := g_lt H
                  refine RA_cut 6 (fun e ds As => St [(1, .pointer (some ⟨b2, 0, none⟩)), (3, .pointer (some ⟨b14, 0, none⟩)), (5, .pointer (some ⟨b20, 0, none⟩)), (6, .bool q30), (26, .slice A0_0 a0.f2.length c0_0), (27, .int .i64 (a0.f2.length : Int)), (28, .int .i64 x28_13), (69, .bool q35)] [Blk b2 67 [.int .i64 a0.f0, .int .i64 a0.f1, .slice A0_0 a0.f2.length c0_0], Ro k76 A0_0 c0_0 a0.f2, Blk b14 76 (.int .i32 x3_13.f0 :: .int .i32 x3_13.f1.f0 :: .int .i32 x3_13.f1.f1 :: .int .i32 x3_13.f1.f2 :: .int .u8 x3_13.f2 :: .int .i64 x3_13.f3.f0 :: .int .i64 x3_13.f3.f1 :: .bool x3_13.f3.f2 :: .bool x3_13.f3.f3 :: .bool x3_13.f3.f4 :: .bool x3_13.f3.f5 :: .bool x3_13.f3.f6 :: .bool x3_13.f3.f7 :: .bool x3_13.f3.f8 :: .bool x3_13.f3.f9 :: []), Blk b20 76 (.int .i32 ((rd a0.f2 x28_13).f0) :: .int .i32 (((rd a0.f2 x28_13).f1).f0) :: .int .i32 (((rd a0.f2 x28_13).f1).f1) :: .int .i32 (((rd a0.f2 x28_13).f1).f2) :: .int .u8 ((rd a0.f2 x28_13).f2) :: .int .i64 (((rd a0.f2 x28_13).f3).f0) :: .int .i64 (((rd a0.f2 x28_13).f3).f1) :: .bool (((rd a0.f2 x28_13).f3).f2) :: .bool (((rd a0.f2 x28_13).f3).f3) :: .bool (((rd a0.f2 x28_13).f3).f4) :: .bool (((rd a0.f2 x28_13).f3).f5) :: .bool (((rd a0.f2 x28_13).f3).f6) :: .bool (((rd a0.f2 x28_13).f3).f7) :: .bool (((rd a0.f2 x28_13).f3).f8) :: .bool (((rd a0.f2 x28_13).f3).f9) :: [])] e ds As) ?_ ?_
                  · by_cases h36 : (!r34) = true
                    · refine RA_noB rfl rfl rfl rfl (h36) rfl ?_
                      refine RA_noB rfl rfl rfl rfl (h36) rfl ?_
                      refine RA_noB rfl rfl rfl rfl (h36) rfl ?_
                      refine RA_noB rfl rfl rfl rfl (h36) rfl ?_
                      refine RA_noB rfl rfl rfl rfl (h36) rfl ?_
                      refine RA_step rfl (OA_v rfl (V_pickT rfl (h36) rfl) ?_)
                      refine RA_nil ?_
                      exact at_normal (St.mk1 (aeq rfl (aeq rfl (aeq rfl (aeq rfl (aeq rfl (aeq rfl (aeq rfl (aeq (congrArg Value.bool (or_t hq35 (h36))) aeq0)))))))) (Gh.sel [0, 1, 2, 3] rfl rfl))
                    · refine RA_yesB rfl rfl rfl rfl (bno h36) (OA_v (v := .pointer (some ((⟨b14, 0, none⟩ : Addr).add 4))) rfl (V_fieldAddrN (B := ⟨b14, 0, none⟩) (m := 0) (o := 4) Try.underlying76 rfl nz5 rfl rfl) ?_)
                      refine RA_yesB rfl rfl rfl rfl (bno h36) (OA_r rfl (VR_load_blk (b := b14) (m := 4) (k := 2) Try.underlying5 rfl rfl rfl rfl) ?_)
                      refine RA_yesB rfl rfl rfl rfl (bno h36) (OA_v (v := .bool (decide (x3_13.f2 = 2))) rfl (V_eql rfl rfl) ?_)
                      refine RA_yesB rfl rfl rfl rfl (bno h36) (OA_v (v := .bool q30) rfl (V_move rfl) ?_)
                      refine RA_yesB rfl rfl rfl rfl (bno h36) (OA_v (v := .bool (decide ((decide (x3_13.f2 = 2)) ≠ q30))) rfl (V_neqB Try.underlying4 rfl rfl) ?_)
                      refine RA_step rfl (OA_v rfl (V_pickF rfl (bno h36) rfl) ?_)
                      refine RA_nil ?_
                      exact at_normal (St.mk1 (aeq rfl (aeq rfl (aeq rfl (aeq rfl (aeq rfl (aeq rfl (aeq rfl (aeq (congrArg Value.bool (or_f hq35 (bno h36))) aeq0)))))))) (Gh.sel [0, 1, 2, 3] rfl rfl))
                  · rintro e ds As hst37
                    refine RA.of_St rfl hst37 fun junk => ?_
                    refine RA_step rfl (OA_v (v := .bool q35) rfl (V_move rfl) ?_)
                    obtain ⟨q38, H, Bq38⟩ := g_bind H
                    refine RA_cut 8 (fun e ds As => St [(1, .pointer (some ⟨b2, 0, none⟩)), (3, .pointer (some ⟨b14, 0, none⟩)), (5, .pointer (some ⟨b20, 0, none⟩)), (26, .slice A0_0 a0.f2.length c0_0), (27, .int .i64 (a0.f2.length : Int)), (28, .int .i64 x28_13), (78, .bool q38)] [Blk b2 67 [.int .i64 a0.f0, .int .i64 a0.f1, .slice A0_0 a0.f2.length c0_0], Ro k76 A0_0 c0_0 a0.f2, Blk b14 76 (.int .i32 x3_13.f0 :: .int .i32 x3_13.f1.f0 :: .int .i32 x3_13.f1.f1 :: .int .i32 x3_13.f1.f2 :: .int .u8 x3_13.f2 :: .int .i64 x3_13.f3.f0 :: .int .i64 x3_13.f3.f1 :: .bool x3_13.f3.f2 :: .bool x3_13.f3.f3 :: .bool x3_13.f3.f4 :: .bool x3_13.f3.f5 :: .bool x3_13.f3.f6 :: .bool x3_13.f3.f7 :: .bool x3_13.f3.f8 :: .bool x3_13.f3.f9 :: []), Blk b20 76 (.int .i32 ((rd a0.f2 x28_13).f0) :: .int .i32 (((rd a0.f2 x28_13).f1).f0) :: .int .i32 (((rd a0.f2 x28_13).f1).f1) :: .int .i32 (((rd a0.f2 x28_13).f1).f2) :: .int .u8 ((rd a0.f2 x28_13).f2) :: .int .i64 (((rd a0.f2 x28_13).f3).f0) :: .int .i64 (((rd a0.f2 x28_13).f3).f1) :: .bool (((rd a0.f2 x28_13).f3).f2) :: .bool (((rd a0.f2 x28_13).f3).f3) :: .bool (((rd a0.f2 x28_13).f3).f4) :: .bool (((rd a0.f2 x28_13).f3).f5) :: .bool (((rd a0.f2 x28_13).f3).f6) :: .bool (((rd a0.f2 x28_13).f3).f7) :: .bool (((rd a0.f2 x28_13).f3).f8) :: .bool (((rd a0.f2 x28_13).f3).f9) :: [])] e ds As) ?_ ?_
                    · by_cases h39 : q35 = true
                      · replace H := g_ift h39 H
                        refine RA_noB rfl rfl rfl rfl (h39) rfl ?_
                        refine RA_noB rfl rfl rfl rfl (h39) rfl ?_
                        refine RA_noB rfl rfl rfl rfl (h39) rfl ?_
                        refine RA_noB rfl rfl rfl rfl (h39) rfl ?_
                        refine RA_noU rfl rfl rfl rfl rfl ?_
                        refine RA_noU rfl rfl rfl rfl rfl ?_
                        refine RA_noB rfl rfl rfl rfl (h39) rfl ?_
                        refine RA_step rfl (OA_v rfl (V_pickT rfl (h39) rfl) ?_)
                        have hr_ := Option.some.inj H
                        subst hr_
                        refine RA_nil ?_
                        exact at_normal (St.mk1 (aeq rfl (aeq rfl (aeq rfl (aeq rfl (aeq rfl (aeq rfl (aeq rfl aeq0))))))) (Gh.sel [0, 1, 2, 3] rfl rfl))
                      · replace H := g_iff h39 H
                        refine RA_yesB rfl rfl rfl rfl (bno h39) (OA_v (v := .pointer (some ((⟨b20, 0, none⟩ : Addr).add 4))) rfl (V_fieldAddrN (B := ⟨b20, 0, none⟩) (m := 0) (o := 4) Try.underlying76 rfl nz5 rfl rfl) ?_)
                        refine RA_yesB rfl rfl rfl rfl (bno h39) (OA_r rfl (VR_load_blk (b := b20) (m := 4) (k := 3) Try.underlying5 rfl rfl rfl rfl) ?_)
                        refine RA_yesB rfl rfl rfl rfl (bno h39) (OA_v (v := .bool (decide (((rd a0.f2 x28_13).f2) = 0))) rfl (V_eql rfl rfl) ?_)
                        refine RA_yesB rfl rfl rfl rfl (bno h39) (OA_v (v := .bool (decide (((rd a0.f2 x28_13).f2) = 0))) rfl (V_move rfl) ?_)
                        by_cases h40 : ((rd a0.f2 x28_13).f2) = 0
                        · replace H := g_ift h40 H
                          refine RA_yesB rfl rfl rfl rfl (dec_t h40) (OA_v (v := .bool q30) rfl (V_move rfl) ?_)
                          refine RA_yesB rfl rfl rfl rfl (dec_t h40) (OA_v (v := .bool (!q30)) rfl (V_not rfl) ?_)
                          refine RA_yesB rfl rfl rfl rfl (bno h39) (OA_v rfl (V_pickT rfl (dec_t h40) rfl) ?_)
                          refine RA_step rfl (OA_v rfl (V_pickF rfl (bno h39) rfl) ?_)
                          have hr_ := Option.some.inj H
                          subst hr_
                          refine RA_nil ?_
                          exact at_normal (St.mk1 (aeq rfl (aeq rfl (aeq rfl (aeq rfl (aeq rfl (aeq rfl (aeq rfl aeq0))))))) (Gh.sel [0, 1, 2, 3] rfl rfl))
                        · replace H := g_iff h40 H
                          refine RA_noB rfl rfl rfl rfl (dec_f h40) rfl ?_
                          refine RA_noB rfl rfl rfl rfl (dec_f h40) rfl ?_
                          refine RA_yesB rfl rfl rfl rfl (bno h39) (OA_v rfl (V_pickF rfl (dec_f h40) rfl) ?_)
                          refine RA_step rfl (OA_v rfl (V_pickF rfl (bno h39) rfl) ?_)
                          have hr_ := Option.some.inj H
                          subst hr_
                          refine RA_nil ?_
                          exact at_normal (St.mk1 (aeq rfl (aeq rfl (aeq rfl (aeq rfl (aeq rfl (aeq rfl (aeq rfl aeq0))))))) (Gh.sel [0, 1, 2, 3] rfl rfl))
                    · rintro e ds As hst41
                      clear H
                      have H := Bq38
                      clear Bq38
                      refine RA_nil ?_
                      refine at_normal ?_
                      refine SA.of_St hst41 fun junk => ?_
                      by_cases h42 : q38 = true
                      · replace H := g_ift h42 H
                        refine SA_condTb rfl h42 ?_
                        refine SA_seq ?_
                        refine SA_region ?_
                        refine RA_step rfl (OA_v (v := .bool false) rfl (V_assign rfl) ?_)
                        refine RA_nil ?_
                        refine at_normal ?_
                        refine SA_ret ?_
                        refine thn_ret ?_
                        refine inb_ret ?_
                        refine thn_ret ?_
                        refine thn_ret ?_
                        refine inb_ret ?_
                        refine thn_ret ?_
                        refine thn_ret ?_
                        have hr_ := Option.some.inj H
                        subst hr_
                        have hb_ := el_ret Bt11
                        have hr_ := Option.some.inj hb_
                        clear hb_
                        subst hr_
                        exact BQ_R1 [] rfl rfl (Gh.sel [] rfl rfl) ⟨rfl, rfl⟩
                      · replace H := g_iff h42 H
                        refine SA_condFb rfl h42 ?_
                        refine SA_skip ?_
                        refine at_normal ?_
                        refine SA_region ?_
                        refine RA_step rfl (OA_r rfl (VR_loadA_blk (b := b20) (m := 0) (k := 3) (vs := (.int .i32 ((rd a0.f2 x28_13).f0) :: .int .i32 (((rd a0.f2 x28_13).f1).f0) :: .int .i32 (((rd a0.f2 x28_13).f1).f1) :: .int .i32 (((rd a0.f2 x28_13).f1).f2) :: .int .u8 ((rd a0.f2 x28_13).f2) :: .int .i64 (((rd a0.f2 x28_13).f3).f0) :: .int .i64 (((rd a0.f2 x28_13).f3).f1) :: .bool (((rd a0.f2 x28_13).f3).f2) :: .bool (((rd a0.f2 x28_13).f3).f3) :: .bool (((rd a0.f2 x28_13).f3).f4) :: .bool (((rd a0.f2 x28_13).f3).f5) :: .bool (((rd a0.f2 x28_13).f3).f6) :: .bool (((rd a0.f2 x28_13).f3).f7) :: .bool (((rd a0.f2 x28_13).f3).f8) :: .bool (((rd a0.f2 x28_13).f3).f9) :: [])) Try.underlying76 rfl sz76 rfl rfl rfl) ?_)
                        refine RA_step rfl (OA_st (b := b14) (m := 0) (k := 2) (vs := (.int .i32 ((rd a0.f2 x28_13).f0) :: .int .i32 (((rd a0.f2 x28_13).f1).f0) :: .int .i32 (((rd a0.f2 x28_13).f1).f1) :: .int .i32 (((rd a0.f2 x28_13).f1).f2) :: .int .u8 ((rd a0.f2 x28_13).f2) :: .int .i64 (((rd a0.f2 x28_13).f3).f0) :: .int .i64 (((rd a0.f2 x28_13).f3).f1) :: .bool (((rd a0.f2 x28_13).f3).f2) :: .bool (((rd a0.f2 x28_13).f3).f3) :: .bool (((rd a0.f2 x28_13).f3).f4) :: .bool (((rd a0.f2 x28_13).f3).f5) :: .bool (((rd a0.f2 x28_13).f3).f6) :: .bool (((rd a0.f2 x28_13).f3).f7) :: .bool (((rd a0.f2 x28_13).f3).f8) :: .bool (((rd a0.f2 x28_13).f3).f9) :: [])) (cs' := (.int .i32 ((rd a0.f2 x28_13).f0) :: .int .i32 (((rd a0.f2 x28_13).f1).f0) :: .int .i32 (((rd a0.f2 x28_13).f1).f1) :: .int .i32 (((rd a0.f2 x28_13).f1).f2) :: .int .u8 ((rd a0.f2 x28_13).f2) :: .int .i64 (((rd a0.f2 x28_13).f3).f0) :: .int .i64 (((rd a0.f2 x28_13).f3).f1) :: .bool (((rd a0.f2 x28_13).f3).f2) :: .bool (((rd a0.f2 x28_13).f3).f3) :: .bool (((rd a0.f2 x28_13).f3).f4) :: .bool (((rd a0.f2 x28_13).f3).f5) :: .bool (((rd a0.f2 x28_13).f3).f6) :: .bool (((rd a0.f2 x28_13).f3).f7) :: .bool (((rd a0.f2 x28_13).f3).f8) :: .bool (((rd a0.f2 x28_13).f3).f9) :: [])) rfl rfl rfl rfl rfl rfl sz76 rfl rfl ?_)
                        refine RA_nil ?_
                        refine inb_normal ?_
                        refine at_normal ?_
                        refine SA_region ?_
                        refine RA_step rfl (OA_v (v := .int .i64 (IntKind.i64.wrap (x28_13 + 1))) rfl (V_add rfl rfl) ?_)
                        refine RA_step rfl (OA_v (v := .int .i64 (IntKind.i64.wrap (x28_13 + 1))) rfl (V_move rfl) ?_)
                        refine RA_nil ?_
                        exact at_normal ⟨k15, Nat.lt_succ_self _, _, _, b14, H, St.mk1 (aeq rfl (aeq rfl (aeq rfl (aeq rfl (aeq rfl aeq0))))) (Gh.sel [0, 1, 2] rfl rfl)⟩
        · replace H := g_iff h17 H
          refine SA_condF rfl h17 ?_
          refine SA_exit ?_
          refine thn_exit ?_
          refine thn_exit ?_
          refine inb_hit ?_
          have hr_ := Option.some.inj H
          subst hr_
          exact at_normal ⟨x3_13, rfl, b14, St.mk1 (aeq rfl aeq0) (Gh.sel [2] rfl rfl)⟩
      · rintro e ds As ⟨s12, ht, b13, hst44⟩
        clear H
        subst ht
        replace Bt11 := el_go Bt11
        have H := Bt11
        clear Bt11
        refine at_normal ?_
        refine SA.of_St hst44 fun junk => ?_
        refine SA_seq ?_
        refine SA_region ?_
        refine RA_step rfl (OA_v (v := .pointer (some ((⟨b13, 0, none⟩ : Addr).add 4))) rfl (V_fieldAddrN (B := ⟨b13, 0, none⟩) (m := 0) (o := 4) Try.underlying76 rfl nz5 rfl rfl) ?_)
        refine RA_step rfl (OA_r rfl (VR_load_blk (b := b13) (m := 4) (k := 0) Try.underlying5 rfl rfl rfl rfl) ?_)
        refine RA_step rfl (OA_v (v := .bool (decide (s12.f2 ≠ 2))) rfl (V_neq rfl rfl) ?_)
        refine RA_step rfl (OA_v (v := .bool (decide (s12.f2 ≠ 2))) rfl (V_assign rfl) ?_)
        refine RA_nil ?_
        refine at_normal ?_
        refine SA_ret ?_
        have hr_ := Option.some.inj H
        subst hr_
        exact BQ_R1 [] rfl rfl (Gh.sel [] rfl rfl) ⟨rfl, rfl⟩

/-! ### function 91: slices.Equal[[]wayfarer/api.Cell,wayfarer/api.Cell] -/
def F91.l0 (l0 : (List S76)) (l1 : (List S76)) : Nat → Int → Option (Out (Bool) (Unit))
  | 0, _ => none
  | k + 1, x13_5 => if x13_5 < (l0.length : Int) then (if 0 ≤ x13_5 ∧ x13_5 < (l0.length : Int) then (if 0 ≤ x13_5 ∧ x13_5 < (l1.length : Int) then (if (rd l0 x13_5) ≠ (rd l1 x13_5) then (some (Out.ret (false))) else (F91.l0 l0 l1 k (IntKind.i64.wrap (x13_5 + 1)))) else none) else none) else (some (Out.go ()))
def F91.f (k : Nat) (l0 : (List S76)) (l1 : (List S76)) : Option (Bool) := if (l0.length : Int) ≠ (l1.length : Int) then (some (false)) else ((F91.l0 l0 l1 k 0 : Option (Out (Bool) (Unit))).bind (fun t4 => Out.el t4 (fun r_ => some r_) (fun s5 => some (true))))
set_option maxHeartbeats 2000000 in
set_option maxRecDepth 100000 in
theorem F91.ok {k : Nat} {l0 : (List S76)} {l1 : (List S76)} {A0 : Option Addr} {c0 : Nat} {A1 : Option Addr} {c1 : Nat} {r : Bool} (H : F91.f k l0 l1 = some r) : SCA Try.prog 91 #[.slice A0 l0.length c0, .slice A1 l1.length c1] [Ro k76 A0 c0 l0, Ro k76 A1 c1 l1] (fun v B => v = .bool r ∧ B = []) := by
  refine SCA_of_body Try.func91 rfl rfl ?_
  unfold F91.f at H
  refine SA_seq ?_
  refine SA_region ?_
  refine RA_step rfl (OA_v (v := .bool false) rfl (V_assign rfl) ?_)
  refine RA_nil ?_
  refine at_normal ?_
  refine SA_seq ?_
  refine SA_seq ?_
  refine SA_region ?_
  refine RA_step rfl (OA_v (v := .slice A0 l0.length c0) rfl (V_move rfl) ?_)
  refine RA_step rfl (OA_v (v := .int .i64 (l0.length : Int)) rfl (V_len Try.underlying65 rfl) ?_)
  refine RA_step rfl (OA_v (v := .slice A1 l1.length c1) rfl (V_move rfl) ?_)
  refine RA_step rfl (OA_v (v := .int .i64 (l1.length : Int)) rfl (V_len Try.underlying65 rfl) ?_)
  refine RA_step rfl (OA_v (v := .bool (decide ((l0.length : Int) ≠ (l1.length : Int)))) rfl (V_neq rfl rfl) ?_)
  refine RA_nil ?_
  refine at_normal ?_
  by_cases h3 : (l0.length : Int) ≠ (l1.length : Int)
  · replace H := g_ift h3 H
    refine SA_condT rfl h3 ?_
    refine SA_seq ?_
    refine SA_region ?_
    refine RA_step rfl (OA_v (v := .bool false) rfl (V_assign rfl) ?_)
    refine RA_nil ?_
    refine at_normal ?_
    refine SA_ret ?_
    refine thn_ret ?_
    have hr_ := Option.some.inj H
    subst hr_
    exact BQ_R1 [] rfl rfl (Gh.sel [] rfl rfl) ⟨rfl, rfl⟩
  · replace H := g_iff h3 H
    refine SA_condF rfl h3 ?_
    refine SA_skip ?_
    refine at_normal ?_
    refine SA_seq ?_
    refine SA_seq ?_
    refine SA_region ?_
    refine RA_step rfl (OA_v (v := .slice A0 l0.length c0) rfl (V_move rfl) ?_)
    refine RA_step rfl (OA_v (v := .int .i64 (l0.length : Int)) rfl (V_len Try.underlying65 rfl) ?_)
    refine RA_step rfl (OA_v (v := .int .i64 0) rfl (V_move rfl) ?_)
    refine RA_nil ?_
    refine at_normal ?_
    obtain ⟨t4, H, Bt4⟩ := g_bind H
    refine SA_mid (fun e ds As => ∃ (s5 : Unit), t4 = Out.go s5 ∧ St [] [] e ds As) ?_ ?_
    · refine SA_block ?_
      refine SA_loop (fun k_ e ds As => ∃ (x13_5 : Int), F91.l0 l0 l1 k_ x13_5 = some t4 ∧ St [(0, .slice A0 l0.length c0), (1, .slice A1 l1.length c1), (12, .int .i64 (l0.length : Int)), (13, .int .i64 x13_5)] [Ro k76 A0 c0 l0, Ro k76 A1 c1 l1] e ds As) (k := k) ⟨_, H, St.mk1 (aeq rfl (aeq rfl (aeq rfl (aeq rfl aeq0)))) (Gh.sel [0, 1] rfl rfl)⟩ ?_
      clear H
      rintro k6 e ds As ⟨x13_5, H, hst7⟩
      obtain _ | k6 := k6
      · cases H
      rw [F91.l0] at H
      refine SA.of_St hst7 fun junk => ?_
      refine SA_seq ?_
      refine SA_region ?_
      refine RA_step rfl (OA_v (v := .bool (decide (x13_5 < (l0.length : Int)))) rfl (V_lss rfl rfl) ?_)
      refine RA_nil ?_
      refine at_normal ?_
      refine SA_seq ?_
      by_cases h8 : x13_5 < (l0.length : Int)
      · replace H := g_ift h8 H
        refine SA_condT rfl h8 ?_
        refine SA_skip ?_
        refine at_normal ?_
        refine SA_seq ?_
        refine SA_block ?_
        refine SA_seq ?_
        refine SA_region ?_
        refine RA_step rfl (OA_v (v := .int .i64 x13_5) rfl (V_move rfl) ?_)
        refine RA_step rfl (OA_v (v := .int .i64 x13_5) rfl (V_assign rfl) ?_)
        refine RA_nil ?_
        refine at_normal ?_
        refine SA_seq ?_
        refine SA_drawH [0, 1, 2, 3, 4, 5, 6, 7, 8] #[[], [], [0, 1], [0, 1, 2], [], [], [4, 5], [4, 5, 6], [0, 1, 2, 3, 4, 5, 6, 7]] [0, 1] [0, 1] mixed rfl rfl rfl fun I0 hS h0 hh0 w0 sH dd => ?_
        refine DH_take (v := .slice A0 l0.length c0) 0 (by kernel_rfl) rfl rfl (.no rfl) (PanOk.thn (PanOk.inb (PanOk.thn (PanOk.thn (PanOk.inb (PanOk.thn (PanOk.thn PanOk.body))))))) sH rfl (VR.ofV (V_move rfl)) ?_
        refine DH_take (v := .int .i64 x13_5) 1 (by kernel_rfl) rfl rfl (.no rfl) (PanOk.thn (PanOk.inb (PanOk.thn (PanOk.thn (PanOk.inb (PanOk.thn (PanOk.thn PanOk.body))))))) sH rfl (VR.ofV (V_move rfl)) ?_
        obtain ⟨⟨g129, g130⟩, H⟩ := g_pos H
        refine DH_take 2 (by kernel_rfl) rfl rfl (.no rfl) (PanOk.thn (PanOk.inb (PanOk.thn (PanOk.thn (PanOk.inb (PanOk.thn (PanOk.thn PanOk.body))))))) sH rfl (VR_index (i := x13_5) Try.underlying65 sz76 rfl rfl (Src.ro (k := 0) rfl) g129 g130) ?_
        refine DH_take 3 (by kernel_rfl) rfl rfl (.no rfl) (PanOk.thn (PanOk.inb (PanOk.thn (PanOk.thn (PanOk.inb (PanOk.thn (PanOk.thn PanOk.body))))))) sH rfl (VR_loadA_el (enc := enc76) (i := x13_5) (j := x13_5.toNat * 15) (m := 0) (sz := 15) (vs := (.int .i32 ((rd l0 x13_5).f0) :: .int .i32 (((rd l0 x13_5).f1).f0) :: .int .i32 (((rd l0 x13_5).f1).f1) :: .int .i32 (((rd l0 x13_5).f1).f2) :: .int .u8 ((rd l0 x13_5).f2) :: .int .i64 (((rd l0 x13_5).f3).f0) :: .int .i64 (((rd l0 x13_5).f3).f1) :: .bool (((rd l0 x13_5).f3).f2) :: .bool (((rd l0 x13_5).f3).f3) :: .bool (((rd l0 x13_5).f3).f4) :: .bool (((rd l0 x13_5).f3).f5) :: .bool (((rd l0 x13_5).f3).f6) :: .bool (((rd l0 x13_5).f3).f7) :: .bool (((rd l0 x13_5).f3).f8) :: .bool (((rd l0 x13_5).f3).f9) :: [])) Try.underlying76 rfl sz76 rfl rfl rfl (Src.ro (k := 0) rfl) g129 g130 (fun _ _ h => h) rfl) ?_
        refine DH_take (v := .slice A1 l1.length c1) 4 (by kernel_rfl) rfl rfl (.no rfl) (PanOk.thn (PanOk.inb (PanOk.thn (PanOk.thn (PanOk.inb (PanOk.thn (PanOk.thn PanOk.body))))))) sH rfl (VR.ofV (V_move rfl)) ?_
        refine DH_take (v := .int .i64 x13_5) 5 (by kernel_rfl) rfl rfl (.no rfl) (PanOk.thn (PanOk.inb (PanOk.thn (PanOk.thn (PanOk.inb (PanOk.thn (PanOk.thn PanOk.body))))))) sH rfl (VR.ofV (V_move rfl)) ?_
        obtain ⟨⟨g369, g370⟩, H⟩ := g_pos H
        refine DH_take 6 (by kernel_rfl) rfl rfl (.no rfl) (PanOk.thn (PanOk.inb (PanOk.thn (PanOk.thn (PanOk.inb (PanOk.thn (PanOk.thn PanOk.body))))))) sH rfl (VR_index (i := x13_5) Try.underlying65 sz76 rfl rfl (Src.ro (k := 1) rfl) g369 g370) ?_
        refine DH_take 7 (by kernel_rfl) rfl rfl (.no rfl) (PanOk.thn (PanOk.inb (PanOk.thn (PanOk.thn (PanOk.inb (PanOk.thn (PanOk.thn PanOk.body))))))) sH rfl (VR_loadA_el (enc := enc76) (i := x13_5) (j := x13_5.toNat * 15) (m := 0) (sz := 15) (vs := (.int .i32 ((rd l1 x13_5).f0) :: .int .i32 (((rd l1 x13_5).f1).f0) :: .int .i32 (((rd l1 x13_5).f1).f1) :: .int .i32 (((rd l1 x13_5).f1).f2) :: .int .u8 ((rd l1 x13_5).f2) :: .int .i64 (((rd l1 x13_5).f3).f0) :: .int .i64 (((rd l1 x13_5).f3).f1) :: .bool (((rd l1 x13_5).f3).f2) :: .bool (((rd l1 x13_5).f3).f3) :: .bool (((rd l1 x13_5).f3).f4) :: .bool (((rd l1 x13_5).f3).f5) :: .bool (((rd l1 x13_5).f3).f6) :: .bool (((rd l1 x13_5).f3).f7) :: .bool (((rd l1 x13_5).f3).f8) :: .bool (((rd l1 x13_5).f3).f9) :: [])) Try.underlying76 rfl sz76 rfl rfl rfl (Src.ro (k := 1) rfl) g369 g370 (fun _ _ h => h) rfl) ?_
        refine DH_take (v := .bool (decide ((rd l0 x13_5) ≠ (rd l1 x13_5)))) 8 (by kernel_rfl) rfl rfl (.no rfl) (PanOk.thn (PanOk.inb (PanOk.thn (PanOk.thn (PanOk.inb (PanOk.thn (PanOk.thn PanOk.body))))))) sH rfl (VR.ofV (V_neqD (xs := (.int .i32 ((rd l0 x13_5).f0) :: .int .i32 (((rd l0 x13_5).f1).f0) :: .int .i32 (((rd l0 x13_5).f1).f1) :: .int .i32 (((rd l0 x13_5).f1).f2) :: .int .u8 ((rd l0 x13_5).f2) :: .int .i64 (((rd l0 x13_5).f3).f0) :: .int .i64 (((rd l0 x13_5).f3).f1) :: .bool (((rd l0 x13_5).f3).f2) :: .bool (((rd l0 x13_5).f3).f3) :: .bool (((rd l0 x13_5).f3).f4) :: .bool (((rd l0 x13_5).f3).f5) :: .bool (((rd l0 x13_5).f3).f6) :: .bool (((rd l0 x13_5).f3).f7) :: .bool (((rd l0 x13_5).f3).f8) :: .bool (((rd l0 x13_5).f3).f9) :: [])) (ys := (.int .i32 ((rd l1 x13_5).f0) :: .int .i32 (((rd l1 x13_5).f1).f0) :: .int .i32 (((rd l1 x13_5).f1).f1) :: .int .i32 (((rd l1 x13_5).f1).f2) :: .int .u8 ((rd l1 x13_5).f2) :: .int .i64 (((rd l1 x13_5).f3).f0) :: .int .i64 (((rd l1 x13_5).f3).f1) :: .bool (((rd l1 x13_5).f3).f2) :: .bool (((rd l1 x13_5).f3).f3) :: .bool (((rd l1 x13_5).f3).f4) :: .bool (((rd l1 x13_5).f3).f5) :: .bool (((rd l1 x13_5).f3).f6) :: .bool (((rd l1 x13_5).f3).f7) :: .bool (((rd l1 x13_5).f3).f8) :: .bool (((rd l1 x13_5).f3).f9) :: [])) (r := ((((rd l0 x13_5).f0) == ((rd l1 x13_5).f0)) && ((((((rd l0 x13_5).f1).f0) == (((rd l1 x13_5).f1).f0)) && (((((rd l0 x13_5).f1).f1) == (((rd l1 x13_5).f1).f1)) && (((((rd l0 x13_5).f1).f2) == (((rd l1 x13_5).f1).f2)) && true))) && ((((rd l0 x13_5).f2) == ((rd l1 x13_5).f2)) && ((((((rd l0 x13_5).f3).f0) == (((rd l1 x13_5).f3).f0)) && (((((rd l0 x13_5).f3).f1) == (((rd l1 x13_5).f3).f1)) && (((((rd l0 x13_5).f3).f2) == (((rd l1 x13_5).f3).f2)) && (((((rd l0 x13_5).f3).f3) == (((rd l1 x13_5).f3).f3)) && (((((rd l0 x13_5).f3).f4) == (((rd l1 x13_5).f3).f4)) && (((((rd l0 x13_5).f3).f5) == (((rd l1 x13_5).f3).f5)) && (((((rd l0 x13_5).f3).f6) == (((rd l1 x13_5).f3).f6)) && (((((rd l0 x13_5).f3).f7) == (((rd l1 x13_5).f3).f7)) && (((((rd l0 x13_5).f3).f8) == (((rd l1 x13_5).f3).f8)) && (((((rd l0 x13_5).f3).f9) == (((rd l1 x13_5).f3).f9)) && true)))))))))) && true))))) (p := (rd l0 x13_5) = (rd l1 x13_5)) eqg76 rfl rfl (by kernel_rfl) (eqv76 (x := rd l0 x13_5) (y := rd l1 x13_5)))) ?_
        refine DH_open dd sH ?_
        refine DN_done (by kernel_rfl) ?_
        refine at_normal ?_
        by_cases h550 : (rd l0 x13_5) ≠ (rd l1 x13_5)
        · replace H := g_ift h550 H
          refine SA_condT rfl h550 ?_
          refine SA_seq ?_
          refine SA_region ?_
          refine RA_step rfl (OA_v (v := .bool false) rfl (V_assign rfl) ?_)
          refine RA_nil ?_
          refine at_normal ?_
          refine SA_ret ?_
          refine inb_ret ?_
          refine thn_ret ?_
          refine thn_ret ?_
          refine inb_ret ?_
          refine thn_ret ?_
          refine thn_ret ?_
          have hr_ := Option.some.inj H
          subst hr_
          have hb_ := el_ret Bt4
          have hr_ := Option.some.inj hb_
          clear hb_
          subst hr_
          exact BQ_R1 [] rfl rfl (Gh.sel [] rfl rfl) ⟨rfl, rfl⟩
        · replace H := g_iff h550 H
          refine SA_condF rfl h550 ?_
          refine SA_skip ?_
          refine inb_normal ?_
          refine at_normal ?_
          refine SA_region ?_
          refine RA_step rfl (OA_v (v := .int .i64 (IntKind.i64.wrap (x13_5 + 1))) rfl (V_add rfl rfl) ?_)
          refine RA_step rfl (OA_v (v := .int .i64 (IntKind.i64.wrap (x13_5 + 1))) rfl (V_move rfl) ?_)
          refine RA_nil ?_
          exact at_normal ⟨k6, Nat.lt_succ_self _, _, H, St.mk1 (aeq rfl (aeq rfl (aeq rfl (aeq rfl aeq0)))) (Gh.sel [0, 1] rfl rfl)⟩
      · replace H := g_iff h8 H
        refine SA_condF rfl h8 ?_
        refine SA_exit ?_
        refine thn_exit ?_
        refine thn_exit ?_
        refine inb_hit ?_
        have hr_ := Option.some.inj H
        subst hr_
        exact at_normal ⟨(), rfl, St.mk1 aeq0 (Gh.sel [] rfl rfl)⟩
    · rintro e ds As ⟨s5, ht, hst551⟩
      clear H
      subst ht
      replace Bt4 := el_go Bt4
      have H := Bt4
      clear Bt4
      refine at_normal ?_
      refine SA.of_St hst551 fun junk => ?_
      refine SA_seq ?_
      refine SA_region ?_
      refine RA_step rfl (OA_v (v := .bool true) rfl (V_assign rfl) ?_)
      refine RA_nil ?_
      refine at_normal ?_
      refine SA_ret ?_
      have hr_ := Option.some.inj H
      subst hr_
      exact BQ_R1 [] rfl rfl (Gh.sel [] rfl rfl) ⟨rfl, rfl⟩

/-! ### function 50: wayfarer/grid.Same -/
def F50.f (k : Nat) (a0 : S67) (a1 : S67) : Option (Bool) := lt ((decide (a0.f0 = a1.f0)) && (decide (a0.f1 = a1.f1))) fun q7 => (if q7 = true then ((F91.f k a0.f2 a1.f2).bind (fun r12 => some r12)) else (some false) : Option Bool).bind (fun q10 => some (q10))
set_option maxHeartbeats 2000000 in
set_option maxRecDepth 100000 in
theorem F50.ok {k : Nat} {a0 : S67} {a1 : S67} {A0_0 : Option Addr} {c0_0 : Nat} {A1_0 : Option Addr} {c1_0 : Nat} {r : Bool} (H : F50.f k a0 a1 = some r) : SCA Try.prog 50 #[.agg #[.int .i64 a0.f0, .int .i64 a0.f1, .slice A0_0 a0.f2.length c0_0], .agg #[.int .i64 a1.f0, .int .i64 a1.f1, .slice A1_0 a1.f2.length c1_0]] [Ro k76 A0_0 c0_0 a0.f2, Ro k76 A1_0 c1_0 a1.f2] (fun v B => v = .bool r ∧ B = []) := by
  refine SCA_of_body Try.func50 rfl rfl ?_
  unfold F50.f at H
  refine SA_seq ?_
  refine SA_region ?_
  refine RA_step rfl (OA_box rfl rfl fun b3 => ?_)
  refine RA_step rfl (OA_box rfl rfl fun b5 => ?_)
  refine RA_step rfl (OA_v (v := .bool false) rfl (V_assign rfl) ?_)
  refine RA_nil ?_
  refine at_normal ?_
  refine SA_seq ?_
  refine SA_region ?_
  refine RA_step rfl (OA_v (v := .pointer (some ⟨b3, 0, none⟩)) rfl (V_fieldAddrN (B := ⟨b3, 0, none⟩) (m := 0) (o := 0) Try.underlying67 rfl nz3 rfl rfl) ?_)
  refine RA_step rfl (OA_r rfl (VR_load_blk (b := b3) (m := 0) (k := 2) Try.underlying3 rfl rfl rfl rfl) ?_)
  refine RA_step rfl (OA_v (v := .pointer (some ⟨b5, 0, none⟩)) rfl (V_fieldAddrN (B := ⟨b5, 0, none⟩) (m := 0) (o := 0) Try.underlying67 rfl nz3 rfl rfl) ?_)
  refine RA_step rfl (OA_r rfl (VR_load_blk (b := b5) (m := 0) (k := 3) Try.underlying3 rfl rfl rfl rfl) ?_)
  refine RA_step rfl (OA_v (v := .bool (decide (a0.f0 = a1.f0))) rfl (V_eql rfl rfl) ?_)
  refine RA_step rfl (OA_v (v := .bool (decide (a0.f0 = a1.f0))) rfl (V_move rfl) ?_)
  obtain ⟨q7, hq7, H⟩ := g_lt H
  refine RA_cut 6 (fun e ds As => St [(2, .pointer (some ⟨b3, 0, none⟩)), (3, .pointer (some ⟨b5, 0, none⟩)), (16, .bool q7)] [Blk b3 67 [.int .i64 a0.f0, .int .i64 a0.f1, .slice A0_0 a0.f2.length c0_0], Ro k76 A0_0 c0_0 a0.f2, Blk b5 67 [.int .i64 a1.f0, .int .i64 a1.f1, .slice A1_0 a1.f2.length c1_0], Ro k76 A1_0 c1_0 a1.f2] e ds As) ?_ ?_
  · by_cases h8 : a0.f0 = a1.f0
    · refine RA_yesB rfl rfl rfl rfl (dec_t h8) (OA_v (v := .pointer (some ((⟨b3, 0, none⟩ : Addr).add 1))) rfl (V_fieldAddrN (B := ⟨b3, 0, none⟩) (m := 0) (o := 1) Try.underlying67 rfl nz3 rfl rfl) ?_)
      refine RA_yesB rfl rfl rfl rfl (dec_t h8) (OA_r rfl (VR_load_blk (b := b3) (m := 1) (k := 2) Try.underlying3 rfl rfl rfl rfl) ?_)
      refine RA_yesB rfl rfl rfl rfl (dec_t h8) (OA_v (v := .pointer (some ((⟨b5, 0, none⟩ : Addr).add 1))) rfl (V_fieldAddrN (B := ⟨b5, 0, none⟩) (m := 0) (o := 1) Try.underlying67 rfl nz3 rfl rfl) ?_)
      refine RA_yesB rfl rfl rfl rfl (dec_t h8) (OA_r rfl (VR_load_blk (b := b5) (m := 1) (k := 3) Try.underlying3 rfl rfl rfl rfl) ?_)
      refine RA_yesB rfl rfl rfl rfl (dec_t h8) (OA_v (v := .bool (decide (a0.f1 = a1.f1))) rfl (V_eql rfl rfl) ?_)
      refine RA_step rfl (OA_v rfl (V_pickT rfl (dec_t h8) rfl) ?_)
      refine RA_nil ?_
      exact at_normal (St.mk1 (aeq rfl (aeq rfl (aeq (congrArg Value.bool (and_t hq7 (dec_t h8))) aeq0))) (Gh.sel [2, 0, 3, 1] rfl rfl))
    · refine RA_noB rfl rfl rfl rfl (dec_f h8) rfl ?_
      refine RA_noB rfl rfl rfl rfl (dec_f h8) rfl ?_
      refine RA_noB rfl rfl rfl rfl (dec_f h8) rfl ?_
      refine RA_noB rfl rfl rfl rfl (dec_f h8) rfl ?_
      refine RA_noB rfl rfl rfl rfl (dec_f h8) rfl ?_
      refine RA_step rfl (OA_v rfl (V_pickF rfl (dec_f h8) rfl) ?_)
      refine RA_nil ?_
      exact at_normal (St.mk1 (aeq rfl (aeq rfl (aeq (congrArg Value.bool (and_f hq7 (dec_f h8))) aeq0))) (Gh.sel [2, 0, 3, 1] rfl rfl))
  · rintro e ds As hst9
    refine RA.of_St rfl hst9 fun junk => ?_
    refine RA_step rfl (OA_v (v := .bool q7) rfl (V_move rfl) ?_)
    obtain ⟨q10, H, Bq10⟩ := g_bind H
    refine RA_cut 6 (fun e ds As => St [(23, .bool q10)] [] e ds As) ?_ ?_
    · by_cases h11 : q7 = true
      · replace H := g_ift h11 H
        refine RA_yesB rfl rfl rfl rfl (h11) (OA_v (v := .pointer (some ((⟨b3, 0, none⟩ : Addr).add 2))) rfl (V_fieldAddrN (B := ⟨b3, 0, none⟩) (m := 0) (o := 2) Try.underlying67 rfl nz65 rfl rfl) ?_)
        refine RA_yesB rfl rfl rfl rfl (h11) (OA_r rfl (VR_load_blk (b := b3) (m := 2) (k := 0) Try.underlying65 rfl rfl rfl rfl) ?_)
        refine RA_yesB rfl rfl rfl rfl (h11) (OA_v (v := .pointer (some ((⟨b5, 0, none⟩ : Addr).add 2))) rfl (V_fieldAddrN (B := ⟨b5, 0, none⟩) (m := 0) (o := 2) Try.underlying67 rfl nz65 rfl rfl) ?_)
        refine RA_yesB rfl rfl rfl rfl (h11) (OA_r rfl (VR_load_blk (b := b5) (m := 2) (k := 2) Try.underlying65 rfl rfl rfl rfl) ?_)
        obtain ⟨r12, C13, H⟩ := g_bind H
        refine RA_yesB rfl rfl rfl rfl (h11) (OA_callA [1, 3] [0, 1, 2, 3] rfl (X_fn (vs := [.slice A0_0 a0.f2.length c0_0, .slice A1_0 a1.f2.length c1_0]) Try.func91 nm91 rfl rfl) rfl (F91.ok (l0 := a0.f2) (A0 := A0_0) (c0 := c0_0) (l1 := a1.f2) (A1 := A1_0) (c1 := c1_0) C13) rfl ?_)
        rintro _ _ ⟨rfl, rfl⟩
        refine RA_step rfl (OA_v rfl (V_pickT rfl (h11) rfl) ?_)
        have hr_ := Option.some.inj H
        subst hr_
        refine RA_nil ?_
        exact at_normal (St.mk1 (aeq rfl aeq0) (Gh.sel [] rfl rfl))
      · replace H := g_iff h11 H
        refine RA_noB rfl rfl rfl rfl (bno h11) rfl ?_
        refine RA_noB rfl rfl rfl rfl (bno h11) rfl ?_
        refine RA_noB rfl rfl rfl rfl (bno h11) rfl ?_
        refine RA_noB rfl rfl rfl rfl (bno h11) rfl ?_
        refine RA_noB rfl rfl rfl rfl (bno h11) rfl ?_
        refine RA_step rfl (OA_v rfl (V_pickF rfl (bno h11) rfl) ?_)
        have hr_ := Option.some.inj H
        subst hr_
        refine RA_nil ?_
        exact at_normal (St.mk1 (aeq rfl aeq0) (Gh.sel [] rfl rfl))
    · rintro e ds As hst14
      clear H
      have H := Bq10
      clear Bq10
      refine RA.of_St rfl hst14 fun junk => ?_
      refine RA_step rfl (OA_v (v := .bool q10) rfl (V_assign rfl) ?_)
      refine RA_nil ?_
      refine at_normal ?_
      refine SA_ret ?_
      have hr_ := Option.some.inj H
      subst hr_
      exact BQ_R1 [] rfl rfl (Gh.sel [] rfl rfl) ⟨rfl, rfl⟩

/-! ### function 119: slices.IndexFunc[[]rune,rune] -/
def F119.l0 (l0 : (List Int)) (g1 : Int → Option (Bool)) : Nat → Int → Option (Out (Int) (Unit))
  | 0, _ => none
  | k + 1, x8_4 => if x8_4 < (l0.length : Int) then (if 0 ≤ x8_4 ∧ x8_4 < (l0.length : Int) then ((g1 (rd l0 x8_4)).bind (fun r10 => if r10 = true then (some (Out.ret (x8_4))) else (F119.l0 l0 g1 k (IntKind.i64.wrap (x8_4 + 1))))) else none) else (some (Out.go ()))
def F119.f (k : Nat) (l0 : (List Int)) (g1 : Int → Option (Bool)) : Option (Int) := (F119.l0 l0 g1 k 0 : Option (Out (Int) (Unit))).bind (fun t3 => Out.el t3 (fun r_ => some r_) (fun s4 => some ((-1))))
set_option maxHeartbeats 2000000 in
set_option maxRecDepth 100000 in
theorem F119.ok {k : Nat} {l0 : (List Int)} {g1 : Int → Option (Bool)} {A0 : Option Addr} {c0 : Nat} {fv1 : Value} {Fr1 : Asrt} (hg1 : ∀ {x0_ : Int} {r_ : Bool}, g1 x0_ = some r_ → FC Try.prog fv1 [.int .i32 x0_] [Fr1] (fun v B => ∃ B0, (v = .bool r_ ∧ B0 = []) ∧ B = B0 ++ [Fr1])) {r : Int} (H : F119.f k l0 g1 = some r) : SCA Try.prog 119 #[.slice A0 l0.length c0, fv1] [Ro (Kd.int .i32) A0 c0 l0, Fr1] (fun v B => v = .int .i64 r ∧ B = [Fr1]) := by
  refine SCA_of_body Try.func119 rfl rfl ?_
  unfold F119.f at H
  refine SA_seq ?_
  refine SA_region ?_
  refine RA_step rfl (OA_v (v := .int .i64 0) rfl (V_assign rfl) ?_)
  refine RA_nil ?_
  refine at_normal ?_
  refine SA_seq ?_
  refine SA_seq ?_
  refine SA_region ?_
  refine RA_step rfl (OA_v (v := .slice A0 l0.length c0) rfl (V_move rfl) ?_)
  refine RA_step rfl (OA_v (v := .int .i64 (l0.length : Int)) rfl (V_len Try.underlying81 rfl) ?_)
  refine RA_step rfl (OA_v (v := .int .i64 0) rfl (V_move rfl) ?_)
  refine RA_nil ?_
  refine at_normal ?_
  obtain ⟨t3, H, Bt3⟩ := g_bind H
  refine SA_mid (fun e ds As => ∃ (s4 : Unit), t3 = Out.go s4 ∧ St [] [Fr1] e ds As) ?_ ?_
  · refine SA_block ?_
    refine SA_loop (fun k_ e ds As => ∃ (x8_4 : Int), F119.l0 l0 g1 k_ x8_4 = some t3 ∧ St [(0, .slice A0 l0.length c0), (1, fv1), (7, .int .i64 (l0.length : Int)), (8, .int .i64 x8_4)] [Fr1, Ro (Kd.int .i32) A0 c0 l0] e ds As) (k := k) ⟨_, H, St.mk1 (aeq rfl (aeq rfl (aeq rfl (aeq rfl aeq0)))) (Gh.sel [1, 0] rfl rfl)⟩ ?_
    clear H
    rintro k5 e ds As ⟨x8_4, H, hst6⟩
    obtain _ | k5 := k5
    · cases H
    rw [F119.l0] at H
    refine SA.of_St hst6 fun junk => ?_
    refine SA_seq ?_
    refine SA_region ?_
    refine RA_step rfl (OA_v (v := .bool (decide (x8_4 < (l0.length : Int)))) rfl (V_lss rfl rfl) ?_)
    refine RA_nil ?_
    refine at_normal ?_
    refine SA_seq ?_
    by_cases h7 : x8_4 < (l0.length : Int)
    · replace H := g_ift h7 H
      refine SA_condT rfl h7 ?_
      refine SA_skip ?_
      refine at_normal ?_
      refine SA_seq ?_
      refine SA_block ?_
      refine SA_seq ?_
      refine SA_region ?_
      refine RA_step rfl (OA_v (v := .int .i64 x8_4) rfl (V_move rfl) ?_)
      refine RA_step rfl (OA_v (v := .int .i64 x8_4) rfl (V_assign rfl) ?_)
      refine RA_nil ?_
      refine at_normal ?_
      refine SA_seq ?_
      refine SA_region ?_
      refine RA_step rfl (OA_v (v := fv1) rfl (V_move rfl) ?_)
      refine RA_step rfl (OA_v (v := .slice A0 l0.length c0) rfl (V_move rfl) ?_)
      refine RA_step rfl (OA_v (v := .int .i64 x8_4) rfl (V_move rfl) ?_)
      obtain ⟨⟨g8, g9⟩, H⟩ := g_pos H
      refine RA_step rfl (OA_r rfl (VR_index (i := x8_4) Try.underlying81 sz21 rfl rfl (Src.ro (k := 1) rfl) g8 g9) ?_)
      refine RA_step rfl (OA_r rfl (VR_load_el (enc := (fun x_ : Int => [Value.int .i32 x_])) (i := x8_4) (j := x8_4.toNat * 1) (m := 0) (sz := 1) Try.underlying21 rfl rfl rfl rfl (Src.ro (k := 1) rfl) g8 g9 (fun _ _ h => h) rfl) ?_)
      obtain ⟨r10, C12, H⟩ := g_bind H
      refine RA_step rfl (OA_callF (vs := [.int .i32 (rd l0 x8_4)]) [0] [1] rfl rfl rfl rfl (hg1 (x0_ := rd l0 x8_4) C12) rfl ?_)
      rintro _ _ ⟨_, ⟨rfl, rfl⟩, rfl⟩
      refine RA_nil ?_
      refine at_normal ?_
      by_cases h11 : r10 = true
      · replace H := g_ift h11 H
        refine SA_condTb rfl h11 ?_
        refine SA_seq ?_
        refine SA_region ?_
        refine RA_step rfl (OA_v (v := .int .i64 x8_4) rfl (V_move rfl) ?_)
        refine RA_step rfl (OA_v (v := .int .i64 x8_4) rfl (V_assign rfl) ?_)
        refine RA_nil ?_
        refine at_normal ?_
        refine SA_ret ?_
        refine inb_ret ?_
        refine thn_ret ?_
        refine thn_ret ?_
        refine inb_ret ?_
        refine thn_ret ?_
        refine thn_ret ?_
        have hr_ := Option.some.inj H
        subst hr_
        have hb_ := el_ret Bt3
        have hr_ := Option.some.inj hb_
        clear hb_
        subst hr_
        exact BQ_R1 [Fr1] rfl rfl (Gh.sel [0] rfl rfl) ⟨rfl, rfl⟩
      · replace H := g_iff h11 H
        refine SA_condFb rfl h11 ?_
        refine SA_skip ?_
        refine inb_normal ?_
        refine at_normal ?_
        refine SA_region ?_
        refine RA_step rfl (OA_v (v := .int .i64 (IntKind.i64.wrap (x8_4 + 1))) rfl (V_add rfl rfl) ?_)
        refine RA_step rfl (OA_v (v := .int .i64 (IntKind.i64.wrap (x8_4 + 1))) rfl (V_move rfl) ?_)
        refine RA_nil ?_
        exact at_normal ⟨k5, Nat.lt_succ_self _, _, H, St.mk1 (aeq rfl (aeq rfl (aeq rfl (aeq rfl aeq0)))) (Gh.sel [0, 1] rfl rfl)⟩
    · replace H := g_iff h7 H
      refine SA_condF rfl h7 ?_
      refine SA_exit ?_
      refine thn_exit ?_
      refine thn_exit ?_
      refine inb_hit ?_
      have hr_ := Option.some.inj H
      subst hr_
      exact at_normal ⟨(), rfl, St.mk1 aeq0 (Gh.sel [0] rfl rfl)⟩
  · rintro e ds As ⟨s4, ht, hst13⟩
    clear H
    subst ht
    replace Bt3 := el_go Bt3
    have H := Bt3
    clear Bt3
    refine at_normal ?_
    refine SA.of_St hst13 fun junk => ?_
    refine SA_seq ?_
    refine SA_region ?_
    refine RA_step rfl (OA_v (v := .int .i64 (-1)) rfl (V_assign rfl) ?_)
    refine RA_nil ?_
    refine at_normal ?_
    refine SA_ret ?_
    have hr_ := Option.some.inj H
    subst hr_
    exact BQ_R1 [Fr1] rfl rfl (Gh.sel [0] rfl rfl) ⟨rfl, rfl⟩

/-! ### function 106: slices.ContainsFunc[[]rune,rune] -/
def F106.f (k : Nat) (l0 : (List Int)) (g1 : Int → Option (Bool)) : Option (Bool) := (F119.f k l0 g1).bind (fun r3 => some (decide (r3 ≥ 0)))
set_option maxHeartbeats 2000000 in
set_option maxRecDepth 100000 in
theorem F106.ok {k : Nat} {l0 : (List Int)} {g1 : Int → Option (Bool)} {A0 : Option Addr} {c0 : Nat} {fv1 : Value} {Fr1 : Asrt} (hg1 : ∀ {x0_ : Int} {r_ : Bool}, g1 x0_ = some r_ → FC Try.prog fv1 [.int .i32 x0_] [Fr1] (fun v B => ∃ B0, (v = .bool r_ ∧ B0 = []) ∧ B = B0 ++ [Fr1])) {r : Bool} (H : F106.f k l0 g1 = some r) : SCA Try.prog 106 #[.slice A0 l0.length c0, fv1] [Ro (Kd.int .i32) A0 c0 l0, Fr1] (fun v B => v = .bool r ∧ B = [Fr1]) := by
  refine SCA_of_body Try.func106 rfl rfl ?_
  unfold F106.f at H
  refine SA_seq ?_
  refine SA_region ?_
  refine RA_step rfl (OA_v (v := .bool false) rfl (V_assign rfl) ?_)
  refine RA_nil ?_
  refine at_normal ?_
  refine SA_seq ?_
  refine SA_region ?_
  refine RA_step rfl (OA_v (v := .slice A0 l0.length c0) rfl (V_move rfl) ?_)
  refine RA_step rfl (OA_v (v := fv1) rfl (V_move rfl) ?_)
  obtain ⟨r3, C4, H⟩ := g_bind H
  refine RA_step rfl (OA_callA [0, 1] [0] rfl (X_fn (vs := [.slice A0 l0.length c0, fv1]) Try.func119 nm119 rfl rfl) rfl (F119.ok (l0 := l0) (A0 := A0) (c0 := c0) (g1 := g1) (fv1 := fv1) (Fr1 := Fr1) (hg1 := hg1) C4) rfl ?_)
  rintro _ _ ⟨rfl, rfl⟩
  refine RA_step rfl (OA_v (v := .bool (decide (r3 ≥ 0))) rfl (V_geq rfl rfl) ?_)
  refine RA_step rfl (OA_v (v := .bool (decide (r3 ≥ 0))) rfl (V_assign rfl) ?_)
  refine RA_nil ?_
  refine at_normal ?_
  refine SA_ret ?_
  have hr_ := Option.some.inj H
  subst hr_
  exact BQ_R1 [Fr1] rfl rfl (Gh.sel [0] rfl rfl) ⟨rfl, rfl⟩

/-! ### function 107: wayfarer/screen.May$1 -/
def F107.f (a0 : Int) : Option (Bool) := some (decide (a0 < 0))
set_option maxHeartbeats 2000000 in
set_option maxRecDepth 100000 in
theorem F107.ok {a0 : Int} {r : Bool} (H : F107.f a0 = some r) : SCA Try.prog 107 #[.int .i32 a0] [] (fun v B => v = .bool r ∧ B = []) := by
  refine SCA_of_body Try.func107 rfl rfl ?_
  unfold F107.f at H
  refine SA_seq ?_
  refine SA_region ?_
  refine RA_step rfl (OA_v (v := .bool false) rfl (V_assign rfl) ?_)
  refine RA_nil ?_
  refine at_normal ?_
  refine SA_seq ?_
  refine SA_region ?_
  refine RA_step rfl (OA_v (v := .int .i32 a0) rfl (V_move rfl) ?_)
  refine RA_step rfl (OA_v (v := .bool (decide (a0 < 0))) rfl (V_lss rfl rfl) ?_)
  refine RA_step rfl (OA_v (v := .bool (decide (a0 < 0))) rfl (V_assign rfl) ?_)
  refine RA_nil ?_
  refine at_normal ?_
  refine SA_ret ?_
  have hr_ := Option.some.inj H
  subst hr_
  exact BQ_R1 [] rfl rfl (Gh.sel [] rfl rfl) ⟨rfl, rfl⟩
end Go.Proofs.Ytodkeoibebimgaa.Kc

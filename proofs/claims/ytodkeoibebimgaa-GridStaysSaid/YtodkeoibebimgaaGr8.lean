/- What functions compute, and that they do: 33, 48, 73b0. -/
import Derived.Test.YtodkeoibebimgaaGr0
import Derived.Test.YtodkeoibebimgaaGr1
import Derived.Test.YtodkeoibebimgaaGr2
import Derived.Test.YtodkeoibebimgaaGr3
import Derived.Test.YtodkeoibebimgaaGr5
import Derived.Test.YtodkeoibebimgaaGr6
namespace Go.Proofs.Ytodkeoibebimgaa.Gr
open Go Go.RowKit Go.Proofs.Ytodkeoibebimgaa.SL
set_option linter.unusedVariables false
set_option linter.unusedSimpArgs false
attribute [local irreducible] IntKind.wrap minI maxI shrI shlI andI orI xorI andNotI cplI rd sub bytesOf strOf slA
/-! ### function 48: wayfarer/wayfarerref15.Shift -/
def F48.l0 (a0 : S67) (a1 : Int) (a2 : Int) (a3 : Int) (a4 : S70) (r17 : S67) : Nat → Int → (List S76) → Option ((List S76))
  | 0, _, _ => none
  | k + 1, x13_23, z12_2_23 => if z12_2_23.length = r17.f2.length then (if x13_23 < a0.f0 then ((F70.f a4).bind (fun r27 => lt ((decide (a3 ≥ (IntKind.i64.wrap (0 - a0.f0)))) && (decide (a3 ≤ a0.f0))) fun q30 => lt (q30 && (decide ((IntKind.i64.wrap (x13_23 - a3)) ≥ a2))) fun q33 => lt (q33 && (decide ((IntKind.i64.wrap (x13_23 - a3)) < a0.f0))) fun q36 => (if q36 = true then ((F83.f a0 a1).bind (fun r43 => if 0 ≤ (IntKind.i64.wrap (x13_23 - a3)) ∧ (IntKind.i64.wrap (x13_23 - a3)) < (r43.length : Int) then (some (S76.mk ((rd r43 (IntKind.i64.wrap (x13_23 - a3))).f0) ((rd r43 (IntKind.i64.wrap (x13_23 - a3))).f1) ((rd r43 (IntKind.i64.wrap (x13_23 - a3))).f2) ((rd r43 (IntKind.i64.wrap (x13_23 - a3))).f3))) else none)) else (some r27) : Option (S76)).bind (fun t39 => (F83b0.f (S67.mk r17.f0 r17.f1 z12_2_23) a1).bind (fun r172 => if (0 ≤ r172.1 ∧ 0 ≤ r172.2 ∧ r172.1 + r172.2 ≤ (z12_2_23.length : Int)) then (if 0 ≤ x13_23 ∧ x13_23 < r172.2 then (lt (z12_2_23.set (r172.1 + x13_23).toNat t39) fun n412 => (lt (IntKind.i64.wrap (x13_23 + 1)) fun n473 => F48.l0 a0 a1 a2 a3 a4 r17 k n473 n412)) else none) else none)))) else (some z12_2_23)) else none
def F48.f (k : Nat) (a0 : S67) (a1 : Int) (a2 : Int) (a3 : Int) (a4 : S70) : Option (S67 × Int) := (F82.f k a0 a4 a1).bind (fun r8 => lt (r8 || (decide (a2 < 0))) fun q9 => lt (q9 || (decide (a2 ≥ a0.f0))) fun q12 => if q12 = true then (some (((S67.mk 0 0 ([] : (List S76))), 2))) else ((F36.f a0).bind (fun r17 => (F48.l0 a0 a1 a2 a3 a4 r17 k a2 r17.f2 : Option ((List S76))).bind (fun t23 => if t23.length = r17.f2.length then ((F83b0.f (S67.mk r17.f0 r17.f1 t23) a1).bind (fun r478 => if (0 ≤ r478.1 ∧ 0 ≤ r478.2 ∧ r478.1 + r478.2 ≤ (t23.length : Int)) then ((F90w0.f k t23 r478.1 r478.2).bind (fun r483 => if r483.length = t23.length then (some (((S67.mk r17.f0 r17.f1 r483), 0))) else none)) else none)) else none))))
set_option maxHeartbeats 2000000 in
set_option maxRecDepth 100000 in
theorem F48.ok {k : Nat} {a0 : S67} {a1 : Int} {a2 : Int} {a3 : Int} {a4 : S70} {A0_0 : Option Addr} {c0_0 : Nat} {r : S67 × Int} (H : F48.f k a0 a1 a2 a3 a4 = some r) : SCA Try.prog 48 #[.agg #[.int .i64 a0.f0, .int .i64 a0.f1, .slice A0_0 a0.f2.length c0_0], .int .i64 a1, .int .i64 a2, .int .i64 a3, .agg #[.int .i64 a4.f0, .int .i64 a4.f1, .bool a4.f2, .bool a4.f3, .bool a4.f4, .bool a4.f5, .bool a4.f6, .bool a4.f7, .bool a4.f8, .bool a4.f9]] [Ro k76 A0_0 c0_0 a0.f2] (fun v B => ∃ (A0_0_ : Option Addr) (c0_0_ : Nat), v = .tuple #[.agg #[.int .i64 r.1.f0, .int .i64 r.1.f1, .slice A0_0_ r.1.f2.length c0_0_], .int .i64 r.2] ∧ B = [Buf k76 76 A0_0_ c0_0_ r.1.f2]) := by
  refine SCA_of_body Try.func48 rfl rfl ?_
  unfold F48.f at H
  refine SA_seq ?_
  refine SA_region ?_
  refine RA_step rfl (OA_box rfl rfl fun b2 => ?_)
  refine RA_step rfl (OA_box rfl rfl fun b4 => ?_)
  refine RA_step rfl (OA_alloc rfl zero67 fun b6 => ?_)
  refine RA_step rfl (OA_v (v := .int .i64 0) rfl (V_assign rfl) ?_)
  refine RA_nil ?_
  refine at_normal ?_
  refine SA_seq ?_
  refine SA_seq ?_
  refine SA_region ?_
  refine RA_step rfl (OA_r rfl (VR_loadA_blk (b := b2) (m := 0) (k := 1) (vs := [.int .i64 a0.f0, .int .i64 a0.f1, .slice A0_0 a0.f2.length c0_0]) Try.underlying67 rfl sz67 rfl rfl rfl) ?_)
  refine RA_step rfl (OA_r rfl (VR_loadA_blk (b := b4) (m := 0) (k := 2) (vs := [.int .i64 a4.f0, .int .i64 a4.f1, .bool a4.f2, .bool a4.f3, .bool a4.f4, .bool a4.f5, .bool a4.f6, .bool a4.f7, .bool a4.f8, .bool a4.f9]) Try.underlying70 rfl sz70 rfl rfl rfl) ?_)
  refine RA_step rfl (OA_v (v := .int .i64 a1) rfl (V_move rfl) ?_)
  obtain ⟨r8, C489, H⟩ := g_bind H
  refine RA_step rfl (OA_callA [0] [0, 1, 2, 3] rfl (X_fn (vs := [.agg #[.int .i64 a0.f0, .int .i64 a0.f1, .slice A0_0 a0.f2.length c0_0], .agg #[.int .i64 a4.f0, .int .i64 a4.f1, .bool a4.f2, .bool a4.f3, .bool a4.f4, .bool a4.f5, .bool a4.f6, .bool a4.f7, .bool a4.f8, .bool a4.f9], .int .i64 a1]) Try.func82 nm82 rfl rfl) rfl (F82.ok (a0 := a0) (A0_0 := A0_0) (c0_0 := c0_0) (a1 := a4) (a2 := a1) C489) rfl ?_)
  rintro _ _ ⟨rfl, rfl⟩
  refine RA_step rfl (OA_v (v := .bool r8) rfl (V_move rfl) ?_)
  obtain ⟨q9, hq9, H⟩ := g_lt H
  refine RA_cut 3 (fun e ds As => St [(1, .int .i64 a1), (2, .int .i64 a2), (3, .int .i64 a3), (5, .pointer (some ⟨b2, 0, none⟩)), (9, .pointer (some ⟨b4, 0, none⟩)), (10, .pointer (some ⟨b6, 0, none⟩)), (22, .bool q9)] [Blk b2 67 [.int .i64 a0.f0, .int .i64 a0.f1, .slice A0_0 a0.f2.length c0_0], Ro k76 A0_0 c0_0 a0.f2, Blk b4 70 [.int .i64 a4.f0, .int .i64 a4.f1, .bool a4.f2, .bool a4.f3, .bool a4.f4, .bool a4.f5, .bool a4.f6, .bool a4.f7, .bool a4.f8, .bool a4.f9], Blk b6 67 [.int .i64 0, .int .i64 0, .slice none 0 0]] e ds As) ?_ ?_
  · by_cases h10 : r8 = true
    · refine RA_noB rfl rfl rfl rfl (h10) rfl ?_
      refine RA_noB rfl rfl rfl rfl (h10) rfl ?_
      refine RA_step rfl (OA_v rfl (V_pickT rfl (h10) rfl) ?_)
      refine RA_nil ?_
      exact at_normal (St.mk1 (aeq rfl (aeq rfl (aeq rfl (aeq rfl (aeq rfl (aeq rfl (aeq (congrArg Value.bool (or_t hq9 (h10))) aeq0))))))) (Gh.sel [1, 0, 2, 3] rfl rfl))
    refine RA_yesB rfl rfl rfl rfl (bno h10) (OA_v (v := .int .i64 a2) rfl (V_move rfl) ?_)
    refine RA_yesB rfl rfl rfl rfl (bno h10) (OA_v (v := .bool (decide (a2 < 0))) rfl (V_lss rfl rfl) ?_)
    refine RA_step rfl (OA_v rfl (V_pickF rfl (bno h10) rfl) ?_)
    refine RA_nil ?_
    exact at_normal (St.mk1 (aeq rfl (aeq rfl (aeq rfl (aeq rfl (aeq rfl (aeq rfl (aeq (congrArg Value.bool (or_f hq9 (bno h10))) aeq0))))))) (Gh.sel [1, 0, 2, 3] rfl rfl))
  rintro e ds As hst11
  refine RA.of_St rfl hst11 fun junk => ?_
  refine RA_step rfl (OA_v (v := .bool q9) rfl (V_move rfl) ?_)
  obtain ⟨q12, hq12, H⟩ := g_lt H
  refine RA_cut 5 (fun e ds As => St [(1, .int .i64 a1), (2, .int .i64 a2), (3, .int .i64 a3), (5, .pointer (some ⟨b2, 0, none⟩)), (9, .pointer (some ⟨b4, 0, none⟩)), (10, .pointer (some ⟨b6, 0, none⟩)), (28, .bool q12)] [Blk b2 67 [.int .i64 a0.f0, .int .i64 a0.f1, .slice A0_0 a0.f2.length c0_0], Ro k76 A0_0 c0_0 a0.f2, Blk b4 70 [.int .i64 a4.f0, .int .i64 a4.f1, .bool a4.f2, .bool a4.f3, .bool a4.f4, .bool a4.f5, .bool a4.f6, .bool a4.f7, .bool a4.f8, .bool a4.f9], Blk b6 67 [.int .i64 0, .int .i64 0, .slice none 0 0]] e ds As) ?_ ?_
  · by_cases h13 : q9 = true
    · refine RA_noB rfl rfl rfl rfl (h13) rfl ?_
      refine RA_noB rfl rfl rfl rfl (h13) rfl ?_
      refine RA_noB rfl rfl rfl rfl (h13) rfl ?_
      refine RA_noB rfl rfl rfl rfl (h13) rfl ?_
      refine RA_step rfl (OA_v rfl (V_pickT rfl (h13) rfl) ?_)
      refine RA_nil ?_
      exact at_normal (St.mk1 (aeq rfl (aeq rfl (aeq rfl (aeq rfl (aeq rfl (aeq rfl (aeq (congrArg Value.bool (or_t hq12 (h13))) aeq0))))))) (Gh.sel [0, 1, 2, 3] rfl rfl))
    refine RA_yesB rfl rfl rfl rfl (bno h13) (OA_v (v := .int .i64 a2) rfl (V_move rfl) ?_)
    refine RA_yesB rfl rfl rfl rfl (bno h13) (OA_v (v := .pointer (some ⟨b2, 0, none⟩)) rfl (V_fieldAddrN (B := ⟨b2, 0, none⟩) (m := 0) (o := 0) Try.underlying67 rfl nz3 rfl rfl) ?_)
    refine RA_yesB rfl rfl rfl rfl (bno h13) (OA_r rfl (VR_load_blk (b := b2) (m := 0) (k := 0) Try.underlying3 rfl rfl rfl rfl) ?_)
    refine RA_yesB rfl rfl rfl rfl (bno h13) (OA_v (v := .bool (decide (a2 ≥ a0.f0))) rfl (V_geq rfl rfl) ?_)
    refine RA_step rfl (OA_v rfl (V_pickF rfl (bno h13) rfl) ?_)
    refine RA_nil ?_
    exact at_normal (St.mk1 (aeq rfl (aeq rfl (aeq rfl (aeq rfl (aeq rfl (aeq rfl (aeq (congrArg Value.bool (or_f hq12 (bno h13))) aeq0))))))) (Gh.sel [0, 1, 2, 3] rfl rfl))
  rintro e ds As hst14
  refine RA_nil ?_
  refine at_normal ?_
  refine SA.of_St hst14 fun junk => ?_
  by_cases h15 : q12 = true
  · replace H := g_ift h15 H
    refine SA_condTb rfl h15 ?_
    refine SA_seq ?_
    refine SA_region ?_
    refine RA_step rfl (OA_v (v := .agg #[.int .i64 0, .int .i64 0, .slice none 0 0]) rfl (V_build (cells := [.int .i64 0, .int .i64 0, .slice none 0 0]) zero67 Try.underlying67 plc67 (by kernel_rfl)) ?_)
    refine RA_step rfl (OA_st (b := b6) (m := 0) (k := 3) (vs := [.int .i64 0, .int .i64 0, .slice none 0 0]) (cs' := [.int .i64 0, .int .i64 0, .slice none 0 0]) rfl rfl rfl rfl rfl rfl sz67 rfl rfl ?_)
    refine RA_step rfl (OA_v (v := .int .i64 2) rfl (V_assign rfl) ?_)
    refine RA_nil ?_
    refine at_normal ?_
    refine SA_ret ?_
    refine thn_ret ?_
    have hr_ := Option.some.inj H
    subst hr_
    exact BQ_RL (rs := [.cell 10 67, .tmp 11]) (vs := [.agg #[.int .i64 0, .int .i64 0, .slice none 0 0], .int .i64 2]) [Buf k76 76 none 0 ([] : (List S76))] rfl ⟨RV.cell (k := 3) rfl rfl Try.underlying67 rfl sz67, RV.tmp rfl, trivial⟩ rfl ((Gh.nilBuf k76 76).trans (Gh.sel [4] rfl rfl)) ⟨none, 0, rfl, rfl⟩
  replace H := g_iff h15 H
  refine SA_condFb rfl h15 ?_
  refine SA_skip ?_
  refine at_normal ?_
  refine SA_seq ?_
  refine SA_region ?_
  refine RA_step rfl (OA_r rfl (VR_loadA_blk (b := b2) (m := 0) (k := 0) (vs := [.int .i64 a0.f0, .int .i64 a0.f1, .slice A0_0 a0.f2.length c0_0]) Try.underlying67 rfl sz67 rfl rfl rfl) ?_)
  obtain ⟨r17, C488, H⟩ := g_bind H
  refine RA_step rfl (OA_callA [1] [0, 1, 2, 3] rfl (X_fn (vs := [.agg #[.int .i64 a0.f0, .int .i64 a0.f1, .slice A0_0 a0.f2.length c0_0]]) Try.func36 nm36 rfl rfl) rfl (F36.ok (a0 := a0) (A0_0 := A0_0) (c0_0 := c0_0) C488) rfl ?_)
  rintro _ _ ⟨A18, c19, rfl, rfl⟩
  refine RA_step rfl (OA_alloc rfl zero67 fun b21 => ?_)
  refine RA_step rfl (OA_st (b := b21) (m := 0) (k := 5) (vs := [.int .i64 r17.f0, .int .i64 r17.f1, .slice A18 r17.f2.length c19]) (cs' := [.int .i64 r17.f0, .int .i64 r17.f1, .slice A18 r17.f2.length c19]) rfl rfl rfl rfl rfl rfl sz67 rfl rfl ?_)
  refine RA_nil ?_
  refine at_normal ?_
  refine SA_seq ?_
  refine SA_seq ?_
  refine SA_region ?_
  refine RA_step rfl (OA_v (v := .int .i64 a2) rfl (V_move rfl) ?_)
  refine RA_step rfl (OA_v (v := .int .i64 a2) rfl (V_assign rfl) ?_)
  refine RA_nil ?_
  refine at_normal ?_
  obtain ⟨t23, H, Bt23⟩ := g_bind H
  refine SA_mid (fun e ds As => St [(1, .int .i64 a1), (10, .pointer (some ⟨b6, 0, none⟩)), (12, .pointer (some ⟨b21, 0, none⟩))] [Blk b6 67 [.int .i64 0, .int .i64 0, .slice none 0 0], Blk b21 67 [.int .i64 r17.f0, .int .i64 r17.f1, .slice A18 t23.length c19], Buf k76 76 A18 c19 t23] e ds As) ?_ ?_
  · refine SA_block ?_
    refine SA_loop (fun k_ e ds As => ∃ (x13_23 : Int) (z12_2_23 : (List S76)), F48.l0 a0 a1 a2 a3 a4 r17 k_ x13_23 z12_2_23 = some t23 ∧ St [(1, .int .i64 a1), (2, .int .i64 a2), (3, .int .i64 a3), (5, .pointer (some ⟨b2, 0, none⟩)), (9, .pointer (some ⟨b4, 0, none⟩)), (10, .pointer (some ⟨b6, 0, none⟩)), (12, .pointer (some ⟨b21, 0, none⟩)), (13, .int .i64 x13_23)] [Blk b2 67 [.int .i64 a0.f0, .int .i64 a0.f1, .slice A0_0 a0.f2.length c0_0], Ro k76 A0_0 c0_0 a0.f2, Blk b4 70 [.int .i64 a4.f0, .int .i64 a4.f1, .bool a4.f2, .bool a4.f3, .bool a4.f4, .bool a4.f5, .bool a4.f6, .bool a4.f7, .bool a4.f8, .bool a4.f9], Blk b6 67 [.int .i64 0, .int .i64 0, .slice none 0 0], Blk b21 67 [.int .i64 r17.f0, .int .i64 r17.f1, .slice A18 z12_2_23.length c19], Buf k76 76 A18 c19 z12_2_23] e ds As) (k := k) ⟨_, _, H, St.mk1 (aeq rfl (aeq rfl (aeq rfl (aeq rfl (aeq rfl (aeq rfl (aeq rfl (aeq rfl aeq0)))))))) (Gh.sel [1, 2, 3, 4, 5, 0] rfl rfl)⟩ ?_
    clear H
    rintro k24 e ds As ⟨x13_23, z12_2_23, H, hst25⟩
    obtain _ | k24 := k24
    · cases H
    rw [F48.l0] at H
    obtain ⟨hl475, H⟩ := g_pos H
    refine SA.of_St hst25 fun junk => ?_
    refine SA_seq ?_
    refine SA_seq ?_
    refine SA_region ?_
    refine RA_step rfl (OA_v (v := .int .i64 x13_23) rfl (V_move rfl) ?_)
    refine RA_step rfl (OA_v (v := .pointer (some ⟨b2, 0, none⟩)) rfl (V_fieldAddrN (B := ⟨b2, 0, none⟩) (m := 0) (o := 0) Try.underlying67 rfl nz3 rfl rfl) ?_)
    refine RA_step rfl (OA_r rfl (VR_load_blk (b := b2) (m := 0) (k := 0) Try.underlying3 rfl rfl rfl rfl) ?_)
    refine RA_step rfl (OA_v (v := .bool (decide (x13_23 < a0.f0))) rfl (V_lss rfl rfl) ?_)
    refine RA_nil ?_
    refine at_normal ?_
    by_cases h26 : x13_23 < a0.f0
    · replace H := g_ift h26 H
      refine SA_condT rfl h26 ?_
      refine SA_skip ?_
      refine at_normal ?_
      refine SA_seq ?_
      refine SA_block ?_
      refine SA_seq ?_
      refine SA_region ?_
      refine RA_step rfl (OA_r rfl (VR_loadA_blk (b := b4) (m := 0) (k := 2) (vs := [.int .i64 a4.f0, .int .i64 a4.f1, .bool a4.f2, .bool a4.f3, .bool a4.f4, .bool a4.f5, .bool a4.f6, .bool a4.f7, .bool a4.f8, .bool a4.f9]) Try.underlying70 rfl sz70 rfl rfl rfl) ?_)
      obtain ⟨r27, C474, H⟩ := g_bind H
      refine RA_step rfl (OA_callA [] [0, 1, 2, 3, 4, 5] rfl (X_fn (vs := [.agg #[.int .i64 a4.f0, .int .i64 a4.f1, .bool a4.f2, .bool a4.f3, .bool a4.f4, .bool a4.f5, .bool a4.f6, .bool a4.f7, .bool a4.f8, .bool a4.f9]]) Try.func70 nm70 rfl rfl) rfl (F70.ok (a0 := a4) C474) rfl ?_)
      rintro _ _ ⟨rfl, rfl⟩
      refine RA_step rfl (OA_alloc rfl zero76 fun b28 => ?_)
      refine RA_step rfl (OA_st (b := b28) (m := 0) (k := 6) (vs := (.int .i32 r27.f0 :: .int .i32 r27.f1.f0 :: .int .i32 r27.f1.f1 :: .int .i32 r27.f1.f2 :: .int .u8 r27.f2 :: .int .i64 r27.f3.f0 :: .int .i64 r27.f3.f1 :: .bool r27.f3.f2 :: .bool r27.f3.f3 :: .bool r27.f3.f4 :: .bool r27.f3.f5 :: .bool r27.f3.f6 :: .bool r27.f3.f7 :: .bool r27.f3.f8 :: .bool r27.f3.f9 :: [])) (cs' := (.int .i32 r27.f0 :: .int .i32 r27.f1.f0 :: .int .i32 r27.f1.f1 :: .int .i32 r27.f1.f2 :: .int .u8 r27.f2 :: .int .i64 r27.f3.f0 :: .int .i64 r27.f3.f1 :: .bool r27.f3.f2 :: .bool r27.f3.f3 :: .bool r27.f3.f4 :: .bool r27.f3.f5 :: .bool r27.f3.f6 :: .bool r27.f3.f7 :: .bool r27.f3.f8 :: .bool r27.f3.f9 :: [])) rfl rfl rfl rfl rfl rfl sz76 rfl rfl ?_)
      refine RA_nil ?_
      refine at_normal ?_
      refine SA_seq ?_
      refine SA_seq ?_
      refine SA_region ?_
      refine RA_step rfl (OA_v (v := .int .i64 a3) rfl (V_move rfl) ?_)
      refine RA_step rfl (OA_v (v := .pointer (some ⟨b2, 0, none⟩)) rfl (V_fieldAddrN (B := ⟨b2, 0, none⟩) (m := 0) (o := 0) Try.underlying67 rfl nz3 rfl rfl) ?_)
      refine RA_step rfl (OA_r rfl (VR_load_blk (b := b2) (m := 0) (k := 0) Try.underlying3 rfl rfl rfl rfl) ?_)
      refine RA_step rfl (OA_v (v := .int .i64 (IntKind.i64.wrap (0 - a0.f0))) rfl (V_neg rfl) ?_)
      refine RA_step rfl (OA_v (v := .bool (decide (a3 ≥ (IntKind.i64.wrap (0 - a0.f0))))) rfl (V_geq rfl rfl) ?_)
      refine RA_step rfl (OA_v (v := .bool (decide (a3 ≥ (IntKind.i64.wrap (0 - a0.f0))))) rfl (V_move rfl) ?_)
      obtain ⟨q30, hq30, H⟩ := g_lt H
      refine RA_cut 5 (fun e ds As => St [(1, .int .i64 a1), (2, .int .i64 a2), (3, .int .i64 a3), (5, .pointer (some ⟨b2, 0, none⟩)), (9, .pointer (some ⟨b4, 0, none⟩)), (10, .pointer (some ⟨b6, 0, none⟩)), (12, .pointer (some ⟨b21, 0, none⟩)), (13, .int .i64 x13_23), (14, .pointer (some ⟨b28, 0, none⟩)), (51, .bool q30)] [Blk b2 67 [.int .i64 a0.f0, .int .i64 a0.f1, .slice A0_0 a0.f2.length c0_0], Ro k76 A0_0 c0_0 a0.f2, Blk b4 70 [.int .i64 a4.f0, .int .i64 a4.f1, .bool a4.f2, .bool a4.f3, .bool a4.f4, .bool a4.f5, .bool a4.f6, .bool a4.f7, .bool a4.f8, .bool a4.f9], Blk b6 67 [.int .i64 0, .int .i64 0, .slice none 0 0], Blk b21 67 [.int .i64 r17.f0, .int .i64 r17.f1, .slice A18 z12_2_23.length c19], Buf k76 76 A18 c19 z12_2_23, Blk b28 76 (.int .i32 r27.f0 :: .int .i32 r27.f1.f0 :: .int .i32 r27.f1.f1 :: .int .i32 r27.f1.f2 :: .int .u8 r27.f2 :: .int .i64 r27.f3.f0 :: .int .i64 r27.f3.f1 :: .bool r27.f3.f2 :: .bool r27.f3.f3 :: .bool r27.f3.f4 :: .bool r27.f3.f5 :: .bool r27.f3.f6 :: .bool r27.f3.f7 :: .bool r27.f3.f8 :: .bool r27.f3.f9 :: [])] e ds As) ?_ ?_
      · by_cases h31 : a3 ≥ (IntKind.i64.wrap (0 - a0.f0))
        · refine RA_yesB rfl rfl rfl rfl (dec_t h31) (OA_v (v := .int .i64 a3) rfl (V_move rfl) ?_)
          refine RA_yesB rfl rfl rfl rfl (dec_t h31) (OA_v (v := .pointer (some ⟨b2, 0, none⟩)) rfl (V_fieldAddrN (B := ⟨b2, 0, none⟩) (m := 0) (o := 0) Try.underlying67 rfl nz3 rfl rfl) ?_)
          refine RA_yesB rfl rfl rfl rfl (dec_t h31) (OA_r rfl (VR_load_blk (b := b2) (m := 0) (k := 0) Try.underlying3 rfl rfl rfl rfl) ?_)
          refine RA_yesB rfl rfl rfl rfl (dec_t h31) (OA_v (v := .bool (decide (a3 ≤ a0.f0))) rfl (V_leq rfl rfl) ?_)
          refine RA_step rfl (OA_v rfl (V_pickT rfl (dec_t h31) rfl) ?_)
          refine RA_nil ?_
          exact at_normal (St.mk1 (aeq rfl (aeq rfl (aeq rfl (aeq rfl (aeq rfl (aeq rfl (aeq rfl (aeq rfl (aeq rfl (aeq (congrArg Value.bool (and_t hq30 (dec_t h31))) aeq0)))))))))) (Gh.sel [0, 1, 2, 3, 4, 5, 6] rfl rfl))
        refine RA_noB rfl rfl rfl rfl (dec_f h31) rfl ?_
        refine RA_noB rfl rfl rfl rfl (dec_f h31) rfl ?_
        refine RA_noB rfl rfl rfl rfl (dec_f h31) rfl ?_
        refine RA_noB rfl rfl rfl rfl (dec_f h31) rfl ?_
        refine RA_step rfl (OA_v rfl (V_pickF rfl (dec_f h31) rfl) ?_)
        refine RA_nil ?_
        exact at_normal (St.mk1 (aeq rfl (aeq rfl (aeq rfl (aeq rfl (aeq rfl (aeq rfl (aeq rfl (aeq rfl (aeq rfl (aeq (congrArg Value.bool (and_f hq30 (dec_f h31))) aeq0)))))))))) (Gh.sel [0, 1, 2, 3, 4, 5, 6] rfl rfl))
      rintro e ds As hst32
      refine RA.of_St rfl hst32 fun junk => ?_
      refine RA_step rfl (OA_v (v := .bool q30) rfl (V_move rfl) ?_)
      obtain ⟨q33, hq33, H⟩ := g_lt H
      refine RA_cut 6 (fun e ds As => St [(1, .int .i64 a1), (2, .int .i64 a2), (3, .int .i64 a3), (5, .pointer (some ⟨b2, 0, none⟩)), (9, .pointer (some ⟨b4, 0, none⟩)), (10, .pointer (some ⟨b6, 0, none⟩)), (12, .pointer (some ⟨b21, 0, none⟩)), (13, .int .i64 x13_23), (14, .pointer (some ⟨b28, 0, none⟩)), (58, .bool q33)] [Blk b2 67 [.int .i64 a0.f0, .int .i64 a0.f1, .slice A0_0 a0.f2.length c0_0], Ro k76 A0_0 c0_0 a0.f2, Blk b4 70 [.int .i64 a4.f0, .int .i64 a4.f1, .bool a4.f2, .bool a4.f3, .bool a4.f4, .bool a4.f5, .bool a4.f6, .bool a4.f7, .bool a4.f8, .bool a4.f9], Blk b6 67 [.int .i64 0, .int .i64 0, .slice none 0 0], Blk b21 67 [.int .i64 r17.f0, .int .i64 r17.f1, .slice A18 z12_2_23.length c19], Buf k76 76 A18 c19 z12_2_23, Blk b28 76 (.int .i32 r27.f0 :: .int .i32 r27.f1.f0 :: .int .i32 r27.f1.f1 :: .int .i32 r27.f1.f2 :: .int .u8 r27.f2 :: .int .i64 r27.f3.f0 :: .int .i64 r27.f3.f1 :: .bool r27.f3.f2 :: .bool r27.f3.f3 :: .bool r27.f3.f4 :: .bool r27.f3.f5 :: .bool r27.f3.f6 :: .bool r27.f3.f7 :: .bool r27.f3.f8 :: .bool r27.f3.f9 :: [])] e ds As) ?_ ?_
      · by_cases h34 : q30 = true
        · refine RA_yesB rfl rfl rfl rfl (h34) (OA_v (v := .int .i64 x13_23) rfl (V_move rfl) ?_)
          refine RA_yesB rfl rfl rfl rfl (h34) (OA_v (v := .int .i64 a3) rfl (V_move rfl) ?_)
          refine RA_yesB rfl rfl rfl rfl (h34) (OA_v (v := .int .i64 (IntKind.i64.wrap (x13_23 - a3))) rfl (V_sub rfl rfl) ?_)
          refine RA_yesB rfl rfl rfl rfl (h34) (OA_v (v := .int .i64 a2) rfl (V_move rfl) ?_)
          refine RA_yesB rfl rfl rfl rfl (h34) (OA_v (v := .bool (decide ((IntKind.i64.wrap (x13_23 - a3)) ≥ a2))) rfl (V_geq rfl rfl) ?_)
          refine RA_step rfl (OA_v rfl (V_pickT rfl (h34) rfl) ?_)
          refine RA_nil ?_
          exact at_normal (St.mk1 (aeq rfl (aeq rfl (aeq rfl (aeq rfl (aeq rfl (aeq rfl (aeq rfl (aeq rfl (aeq rfl (aeq (congrArg Value.bool (and_t hq33 (h34))) aeq0)))))))))) (Gh.sel [0, 1, 2, 3, 4, 5, 6] rfl rfl))
        refine RA_noB rfl rfl rfl rfl (bno h34) rfl ?_
        refine RA_noB rfl rfl rfl rfl (bno h34) rfl ?_
        refine RA_noB rfl rfl rfl rfl (bno h34) rfl ?_
        refine RA_noB rfl rfl rfl rfl (bno h34) rfl ?_
        refine RA_noB rfl rfl rfl rfl (bno h34) rfl ?_
        refine RA_step rfl (OA_v rfl (V_pickF rfl (bno h34) rfl) ?_)
        refine RA_nil ?_
        exact at_normal (St.mk1 (aeq rfl (aeq rfl (aeq rfl (aeq rfl (aeq rfl (aeq rfl (aeq rfl (aeq rfl (aeq rfl (aeq (congrArg Value.bool (and_f hq33 (bno h34))) aeq0)))))))))) (Gh.sel [0, 1, 2, 3, 4, 5, 6] rfl rfl))
      rintro e ds As hst35
      refine RA.of_St rfl hst35 fun junk => ?_
      refine RA_step rfl (OA_v (v := .bool q33) rfl (V_move rfl) ?_)
      obtain ⟨q36, hq36, H⟩ := g_lt H
      refine RA_cut 7 (fun e ds As => St [(1, .int .i64 a1), (2, .int .i64 a2), (3, .int .i64 a3), (5, .pointer (some ⟨b2, 0, none⟩)), (9, .pointer (some ⟨b4, 0, none⟩)), (10, .pointer (some ⟨b6, 0, none⟩)), (12, .pointer (some ⟨b21, 0, none⟩)), (13, .int .i64 x13_23), (14, .pointer (some ⟨b28, 0, none⟩)), (66, .bool q36)] [Blk b2 67 [.int .i64 a0.f0, .int .i64 a0.f1, .slice A0_0 a0.f2.length c0_0], Ro k76 A0_0 c0_0 a0.f2, Blk b4 70 [.int .i64 a4.f0, .int .i64 a4.f1, .bool a4.f2, .bool a4.f3, .bool a4.f4, .bool a4.f5, .bool a4.f6, .bool a4.f7, .bool a4.f8, .bool a4.f9], Blk b6 67 [.int .i64 0, .int .i64 0, .slice none 0 0], Blk b21 67 [.int .i64 r17.f0, .int .i64 r17.f1, .slice A18 z12_2_23.length c19], Buf k76 76 A18 c19 z12_2_23, Blk b28 76 (.int .i32 r27.f0 :: .int .i32 r27.f1.f0 :: .int .i32 r27.f1.f1 :: .int .i32 r27.f1.f2 :: .int .u8 r27.f2 :: .int .i64 r27.f3.f0 :: .int .i64 r27.f3.f1 :: .bool r27.f3.f2 :: .bool r27.f3.f3 :: .bool r27.f3.f4 :: .bool r27.f3.f5 :: .bool r27.f3.f6 :: .bool r27.f3.f7 :: .bool r27.f3.f8 :: .bool r27.f3.f9 :: [])] e ds As) ?_ ?_
      · by_cases h37 : q33 = true
        · refine RA_yesB rfl rfl rfl rfl (h37) (OA_v (v := .int .i64 x13_23) rfl (V_move rfl) ?_)
          refine RA_yesB rfl rfl rfl rfl (h37) (OA_v (v := .int .i64 a3) rfl (V_move rfl) ?_)
          refine RA_yesB rfl rfl rfl rfl (h37) (OA_v (v := .int .i64 (IntKind.i64.wrap (x13_23 - a3))) rfl (V_sub rfl rfl) ?_)
          refine RA_yesB rfl rfl rfl rfl (h37) (OA_v (v := .pointer (some ⟨b2, 0, none⟩)) rfl (V_fieldAddrN (B := ⟨b2, 0, none⟩) (m := 0) (o := 0) Try.underlying67 rfl nz3 rfl rfl) ?_)
          refine RA_yesB rfl rfl rfl rfl (h37) (OA_r rfl (VR_load_blk (b := b2) (m := 0) (k := 0) Try.underlying3 rfl rfl rfl rfl) ?_)
          refine RA_yesB rfl rfl rfl rfl (h37) (OA_v (v := .bool (decide ((IntKind.i64.wrap (x13_23 - a3)) < a0.f0))) rfl (V_lss rfl rfl) ?_)
          refine RA_step rfl (OA_v rfl (V_pickT rfl (h37) rfl) ?_)
          refine RA_nil ?_
          exact at_normal (St.mk1 (aeq rfl (aeq rfl (aeq rfl (aeq rfl (aeq rfl (aeq rfl (aeq rfl (aeq rfl (aeq rfl (aeq (congrArg Value.bool (and_t hq36 (h37))) aeq0)))))))))) (Gh.sel [0, 1, 2, 3, 4, 5, 6] rfl rfl))
        refine RA_noB rfl rfl rfl rfl (bno h37) rfl ?_
        refine RA_noB rfl rfl rfl rfl (bno h37) rfl ?_
        refine RA_noB rfl rfl rfl rfl (bno h37) rfl ?_
        refine RA_noB rfl rfl rfl rfl (bno h37) rfl ?_
        refine RA_noB rfl rfl rfl rfl (bno h37) rfl ?_
        refine RA_noB rfl rfl rfl rfl (bno h37) rfl ?_
        refine RA_step rfl (OA_v rfl (V_pickF rfl (bno h37) rfl) ?_)
        refine RA_nil ?_
        exact at_normal (St.mk1 (aeq rfl (aeq rfl (aeq rfl (aeq rfl (aeq rfl (aeq rfl (aeq rfl (aeq rfl (aeq rfl (aeq (congrArg Value.bool (and_f hq36 (bno h37))) aeq0)))))))))) (Gh.sel [0, 1, 2, 3, 4, 5, 6] rfl rfl))
      rintro e ds As hst38
      refine RA_nil ?_
      refine at_normal ?_
      refine SA.of_St hst38 fun junk => ?_
      obtain ⟨t39, H, Bt39⟩ := g_bind H
      refine SA_mid (fun e ds As => ∃ (b40 : Nat), St [(1, .int .i64 a1), (2, .int .i64 a2), (3, .int .i64 a3), (5, .pointer (some ⟨b2, 0, none⟩)), (9, .pointer (some ⟨b4, 0, none⟩)), (10, .pointer (some ⟨b6, 0, none⟩)), (12, .pointer (some ⟨b21, 0, none⟩)), (13, .int .i64 x13_23), (14, .pointer (some ⟨b40, 0, none⟩))] [Blk b40 76 (.int .i32 t39.f0 :: .int .i32 t39.f1.f0 :: .int .i32 t39.f1.f1 :: .int .i32 t39.f1.f2 :: .int .u8 t39.f2 :: .int .i64 t39.f3.f0 :: .int .i64 t39.f3.f1 :: .bool t39.f3.f2 :: .bool t39.f3.f3 :: .bool t39.f3.f4 :: .bool t39.f3.f5 :: .bool t39.f3.f6 :: .bool t39.f3.f7 :: .bool t39.f3.f8 :: .bool t39.f3.f9 :: []), Blk b2 67 [.int .i64 a0.f0, .int .i64 a0.f1, .slice A0_0 a0.f2.length c0_0], Ro k76 A0_0 c0_0 a0.f2, Blk b4 70 [.int .i64 a4.f0, .int .i64 a4.f1, .bool a4.f2, .bool a4.f3, .bool a4.f4, .bool a4.f5, .bool a4.f6, .bool a4.f7, .bool a4.f8, .bool a4.f9], Blk b6 67 [.int .i64 0, .int .i64 0, .slice none 0 0], Blk b21 67 [.int .i64 r17.f0, .int .i64 r17.f1, .slice A18 z12_2_23.length c19], Buf k76 76 A18 c19 z12_2_23] e ds As) ?_ ?_
      · by_cases h41 : q36 = true
        · replace H := g_ift h41 H
          refine SA_condTb rfl h41 ?_
          refine SA.fact (cap_of (k := 5) rfl) fun hc42 => ?_
          refine SA_region ?_
          refine RA_step rfl (OA_r rfl (VR_loadA_blk (b := b2) (m := 0) (k := 0) (vs := [.int .i64 a0.f0, .int .i64 a0.f1, .slice A0_0 a0.f2.length c0_0]) Try.underlying67 rfl sz67 rfl rfl rfl) ?_)
          refine RA_step rfl (OA_v (v := .int .i64 a1) rfl (V_move rfl) ?_)
          obtain ⟨r43, C49, H⟩ := g_bind H
          refine RA_step rfl (OA_callA [1] [0, 1, 2, 3, 4, 5, 6] rfl (X_fn (vs := [.agg #[.int .i64 a0.f0, .int .i64 a0.f1, .slice A0_0 a0.f2.length c0_0], .int .i64 a1]) Try.func83 nm83 rfl rfl) rfl (F83.ok (a0 := a0) (A0_0 := A0_0) (c0_0 := c0_0) (a1 := a1) C49) rfl ?_)
          rintro _ _ ⟨A44, c45, rfl, rfl⟩
          refine RA_step rfl (OA_v (v := .int .i64 x13_23) rfl (V_move rfl) ?_)
          refine RA_step rfl (OA_v (v := .int .i64 a3) rfl (V_move rfl) ?_)
          refine RA_step rfl (OA_v (v := .int .i64 (IntKind.i64.wrap (x13_23 - a3))) rfl (V_sub rfl rfl) ?_)
          obtain ⟨⟨g47, g48⟩, H⟩ := g_pos H
          refine RA_step rfl (OA_r rfl (VR_index (i := IntKind.i64.wrap (x13_23 - a3)) Try.underlying65 sz76 rfl rfl (Src.ro (k := 0) rfl) g47 g48) ?_)
          refine RA_step rfl (OA_r rfl (VR_loadA_el (enc := enc76) (i := IntKind.i64.wrap (x13_23 - a3)) (j := (IntKind.i64.wrap (x13_23 - a3)).toNat * 15) (m := 0) (sz := 15) (vs := (.int .i32 ((rd r43 (IntKind.i64.wrap (x13_23 - a3))).f0) :: .int .i32 (((rd r43 (IntKind.i64.wrap (x13_23 - a3))).f1).f0) :: .int .i32 (((rd r43 (IntKind.i64.wrap (x13_23 - a3))).f1).f1) :: .int .i32 (((rd r43 (IntKind.i64.wrap (x13_23 - a3))).f1).f2) :: .int .u8 ((rd r43 (IntKind.i64.wrap (x13_23 - a3))).f2) :: .int .i64 (((rd r43 (IntKind.i64.wrap (x13_23 - a3))).f3).f0) :: .int .i64 (((rd r43 (IntKind.i64.wrap (x13_23 - a3))).f3).f1) :: .bool (((rd r43 (IntKind.i64.wrap (x13_23 - a3))).f3).f2) :: .bool (((rd r43 (IntKind.i64.wrap (x13_23 - a3))).f3).f3) :: .bool (((rd r43 (IntKind.i64.wrap (x13_23 - a3))).f3).f4) :: .bool (((rd r43 (IntKind.i64.wrap (x13_23 - a3))).f3).f5) :: .bool (((rd r43 (IntKind.i64.wrap (x13_23 - a3))).f3).f6) :: .bool (((rd r43 (IntKind.i64.wrap (x13_23 - a3))).f3).f7) :: .bool (((rd r43 (IntKind.i64.wrap (x13_23 - a3))).f3).f8) :: .bool (((rd r43 (IntKind.i64.wrap (x13_23 - a3))).f3).f9) :: [])) Try.underlying76 rfl sz76 rfl rfl rfl (Src.ro (k := 0) rfl) g47 g48 (fun _ _ h => h) rfl) ?_)
          refine RA_step rfl (OA_st (b := b28) (m := 0) (k := 7) (vs := (.int .i32 ((rd r43 (IntKind.i64.wrap (x13_23 - a3))).f0) :: .int .i32 (((rd r43 (IntKind.i64.wrap (x13_23 - a3))).f1).f0) :: .int .i32 (((rd r43 (IntKind.i64.wrap (x13_23 - a3))).f1).f1) :: .int .i32 (((rd r43 (IntKind.i64.wrap (x13_23 - a3))).f1).f2) :: .int .u8 ((rd r43 (IntKind.i64.wrap (x13_23 - a3))).f2) :: .int .i64 (((rd r43 (IntKind.i64.wrap (x13_23 - a3))).f3).f0) :: .int .i64 (((rd r43 (IntKind.i64.wrap (x13_23 - a3))).f3).f1) :: .bool (((rd r43 (IntKind.i64.wrap (x13_23 - a3))).f3).f2) :: .bool (((rd r43 (IntKind.i64.wrap (x13_23 - a3))).f3).f3) :: .bool (((rd r43 (IntKind.i64.wrap (x13_23 - a3))).f3).f4) :: .bool (((rd r43 (IntKind.i64.wrap (x13_23 - a3))).f3).f5) :: .bool (((rd r43 (IntKind.i64.wrap (x13_23 - a3))).f3).f6) :: .bool (((rd r43 (IntKind.i64.wrap (x13_23 - a3))).f3).f7) :: .bool (((rd r43 (IntKind.i64.wrap (x13_23 - a3))).f3).f8) :: .bool (((rd r43 (IntKind.i64.wrap (x13_23 - a3))).f3).f9) :: [])) (cs' := (.int .i32 ((rd r43 (IntKind.i64.wrap (x13_23 - a3))).f0) :: .int .i32 (((rd r43 (IntKind.i64.wrap (x13_23 - a3))).f1).f0) :: .int .i32 (((rd r43 (IntKind.i64.wrap (x13_23 - a3))).f1).f1) :: .int .i32 (((rd r43 (IntKind.i64.wrap (x13_23 - a3))).f1).f2) :: .int .u8 ((rd r43 (IntKind.i64.wrap (x13_23 - a3))).f2) :: .int .i64 (((rd r43 (IntKind.i64.wrap (x13_23 - a3))).f3).f0) :: .int .i64 (((rd r43 (IntKind.i64.wrap (x13_23 - a3))).f3).f1) :: .bool (((rd r43 (IntKind.i64.wrap (x13_23 - a3))).f3).f2) :: .bool (((rd r43 (IntKind.i64.wrap (x13_23 - a3))).f3).f3) :: .bool (((rd r43 (IntKind.i64.wrap (x13_23 - a3))).f3).f4) :: .bool (((rd r43 (IntKind.i64.wrap (x13_23 - a3))).f3).f5) :: .bool (((rd r43 (IntKind.i64.wrap (x13_23 - a3))).f3).f6) :: .bool (((rd r43 (IntKind.i64.wrap (x13_23 - a3))).f3).f7) :: .bool (((rd r43 (IntKind.i64.wrap (x13_23 - a3))).f3).f8) :: .bool (((rd r43 (IntKind.i64.wrap (x13_23 - a3))).f3).f9) :: [])) rfl rfl rfl rfl rfl rfl sz76 rfl rfl ?_)
          refine RA_nil ?_
          have hr_ := Option.some.inj H
          subst hr_
          exact at_normal ⟨b28, St.mk1 (aeq rfl (aeq rfl (aeq rfl (aeq rfl (aeq rfl (aeq rfl (aeq rfl (aeq rfl (aeq rfl aeq0))))))))) (Gh.sel [7, 1, 2, 3, 4, 5, 6] rfl rfl)⟩
        replace H := g_iff h41 H
        refine SA_condFb rfl h41 ?_
        refine SA_skip ?_
        have hr_ := Option.some.inj H
        subst hr_
        exact at_normal ⟨b28, St.mk1 (aeq rfl (aeq rfl (aeq rfl (aeq rfl (aeq rfl (aeq rfl (aeq rfl (aeq rfl (aeq rfl aeq0))))))))) (Gh.sel [6, 0, 1, 2, 3, 4, 5] rfl rfl)⟩
      rintro e ds As ⟨b40, hst50⟩
      clear H
      have H := Bt39
      clear Bt39
      refine at_normal ?_
      refine SA.of_St hst50 fun junk => ?_
      refine SA.fact (cap_of (k := 6) rfl) fun hc51 => ?_
      refine SA_drawHq [0, 1, 3, 4] #[[], [], [0, 1], [], [], [0, 1, 3, 4], [0, 1, 3, 4]] [0, 2, 5] [1, 2, 3, 4, 6] mixed rfl rfl rfl (PanOk.inb (PanOk.thn (PanOk.thn (PanOk.inb (PanOk.thn (PanOk.thn PanOk.body)))))) fun I0 hS h0 hh0 w0 sH dd pk => ?_
      refine DH_take 0 (by kernel_rfl) rfl rfl (.no rfl) pk sH rfl (VR_loadA_blk (b := b21) (m := 0) (k := 2) (vs := [.int .i64 r17.f0, .int .i64 r17.f1, .slice A18 z12_2_23.length c19]) Try.underlying67 rfl sz67 rfl rfl rfl) ?_
      refine DH_take (v := .int .i64 a1) 1 (by kernel_rfl) rfl rfl (.no rfl) pk sH rfl (VR.ofV (V_move rfl)) ?_
      refine DH_take (v := .int .i64 x13_23) 3 (by kernel_rfl) rfl rfl (.no rfl) pk sH rfl (VR.ofV (V_move rfl)) ?_
      refine DH_take 4 (by kernel_rfl) rfl rfl (.no rfl) pk sH rfl (VR_loadA_blk (b := b40) (m := 0) (k := 0) (vs := (.int .i32 t39.f0 :: .int .i32 t39.f1.f0 :: .int .i32 t39.f1.f1 :: .int .i32 t39.f1.f2 :: .int .u8 t39.f2 :: .int .i64 t39.f3.f0 :: .int .i64 t39.f3.f1 :: .bool t39.f3.f2 :: .bool t39.f3.f3 :: .bool t39.f3.f4 :: .bool t39.f3.f5 :: .bool t39.f3.f6 :: .bool t39.f3.f7 :: .bool t39.f3.f8 :: .bool t39.f3.f9 :: [])) Try.underlying76 rfl sz76 rfl rfl rfl) ?_
      obtain ⟨r172, C177, H⟩ := g_bind H
      obtain ⟨⟨hl176a, hl176b, hl176c⟩, H⟩ := g_pos H
      refine DH_one 2 dd (by kernel_rfl) rfl (.no rfl) (OA_callA [4] [0, 1, 2, 3] rfl (X_fn (vs := [.agg #[.int .i64 r17.f0, .int .i64 r17.f1, .slice A18 z12_2_23.length c19], .int .i64 a1]) Try.func83 nm83 rfl rfl) rfl (F83b0.ok (a0 := (S67.mk r17.f0 r17.f1 z12_2_23)) (A0_0 := A18) (c0_0 := c19) (a1 := a1) C177) rfl ?_)
      rintro _ _ ⟨V173, v174, hW175, rfl, rfl⟩
      obtain ⟨⟨g352, g353⟩, H⟩ := g_pos H
      have g354 : 0 ≤ r172.1 + x13_23 := by omega
      have g355 : r172.1 + x13_23 < (z12_2_23.length : Int) := by omega
      refine DH_one 5 dd (by kernel_rfl) rfl (.no rfl) (OA_r rfl (VR_indexW (l := r172.1) (m := r172.2) (i := x13_23) (sz := 15) hW175 Try.underlying65 sz76 rfl rfl (Src.buf (k := 0) rfl) g352 g353 (by omega)) ?_)
      obtain ⟨n412, hn412, H⟩ := g_lt H
      have hl_n412 : n412.length = z12_2_23.length := by rw [hn412]; exact List.length_set
      refine DH_one 6 dd (by kernel_rfl) rfl (.no rfl) (OA_stEl (k := 0) (i := r172.1 + x13_23) (j := (r172.1 + x13_23).toNat * 15) (m := 0) (sz := 15) (xs := z12_2_23) (vs := (.int .i32 t39.f0 :: .int .i32 t39.f1.f0 :: .int .i32 t39.f1.f1 :: .int .i32 t39.f1.f2 :: .int .u8 t39.f2 :: .int .i64 t39.f3.f0 :: .int .i64 t39.f3.f1 :: .bool t39.f3.f2 :: .bool t39.f3.f3 :: .bool t39.f3.f4 :: .bool t39.f3.f5 :: .bool t39.f3.f6 :: .bool t39.f3.f7 :: .bool t39.f3.f8 :: .bool t39.f3.f9 :: [])) t39 rfl rfl rfl rfl rfl rfl rfl rfl sz76 g354 g355 rfl (fun _ _ h_ => by subst h_; rfl) ?_)
      rewrite [← hn412]
      try rewrite [← hl_n412]
      try rewrite [← hl_n412] at sH
      refine DH_open dd sH ?_
      refine DN_done (by kernel_rfl) ?_
      refine inb_normal ?_
      refine at_normal ?_
      refine SA_region ?_
      refine RA_step rfl (OA_v (v := .int .i64 x13_23) rfl (V_move rfl) ?_)
      refine RA_step rfl (OA_v (v := .int .i64 (IntKind.i64.wrap (x13_23 + 1))) rfl (V_add rfl rfl) ?_)
      obtain ⟨n473, hn473, H⟩ := g_lt H
      refine RA_step rfl (OA_v (v := .int .i64 n473) rfl (V_assign (v := .int .i64 n473) (congrArg (Value.int .i64) hn473.symm)) ?_)
      refine RA_nil ?_
      exact at_normal ⟨k24, Nat.lt_succ_self _, _, _, H, St.mk1 (aeq rfl (aeq rfl (aeq rfl (aeq rfl (aeq rfl (aeq rfl (aeq rfl (aeq rfl aeq0)))))))) (Gh.sel [4, 1, 6, 7, 2, 3] rfl rfl)⟩
    replace H := g_iff h26 H
    refine SA_condF rfl h26 ?_
    refine SA_exit ?_
    refine thn_exit ?_
    refine thn_exit ?_
    refine inb_hit ?_
    have hr_ := Option.some.inj H
    subst hr_
    exact at_normal (St.mk1 (aeq rfl (aeq rfl (aeq rfl aeq0))) (Gh.sel [3, 4, 5] rfl rfl))
  rintro e ds As hst476
  clear H
  have H := Bt23
  clear Bt23
  obtain ⟨hl487, H⟩ := g_pos H
  refine at_normal ?_
  refine SA.of_St hst476 fun junk => ?_
  refine SA_seq ?_
  refine SA.fact (cap_of (k := 2) rfl) fun hc477 => ?_
  refine SA_region ?_
  refine RA_step rfl (OA_r rfl (VR_loadA_blk (b := b21) (m := 0) (k := 1) (vs := [.int .i64 r17.f0, .int .i64 r17.f1, .slice A18 t23.length c19]) Try.underlying67 rfl sz67 rfl rfl rfl) ?_)
  refine RA_step rfl (OA_v (v := .int .i64 a1) rfl (V_move rfl) ?_)
  obtain ⟨r478, C486, H⟩ := g_bind H
  obtain ⟨⟨hl482a, hl482b, hl482c⟩, H⟩ := g_pos H
  refine RA_step rfl (OA_callA [2] [0, 1] rfl (X_fn (vs := [.agg #[.int .i64 r17.f0, .int .i64 r17.f1, .slice A18 t23.length c19], .int .i64 a1]) Try.func83 nm83 rfl rfl) rfl (F83b0.ok (a0 := (S67.mk r17.f0 r17.f1 t23)) (A0_0 := A18) (c0_0 := c19) (a1 := a1) C486) rfl ?_)
  rintro _ _ ⟨V479, v480, hW481, rfl, rfl⟩
  obtain ⟨r483, C485, H⟩ := g_bind H
  obtain ⟨hl484, H⟩ := g_pos H
  refine RA_step rfl (OA_callA [0] [1, 2] rfl (X_fn (vs := [.slice V479 r478.2.toNat v480]) Try.func90 nm90 rfl rfl) rfl (F90w0.ok (l0 := t23) (o0 := r478.1) (n0 := r478.2) (A0 := A18) (c0 := c19) (V0 := V479) (v0 := v480) (hw0 := hW481) C485) rfl ?_)
  rintro _ _ ⟨rfl, rfl⟩
  try rewrite [← hl484]
  refine RA_nil ?_
  refine at_normal ?_
  refine SA_seq ?_
  refine SA_region ?_
  refine RA_step rfl (OA_r rfl (VR_loadA_blk (b := b21) (m := 0) (k := 2) (vs := [.int .i64 r17.f0, .int .i64 r17.f1, .slice A18 r483.length c19]) Try.underlying67 rfl sz67 rfl rfl rfl) ?_)
  refine RA_step rfl (OA_st (b := b6) (m := 0) (k := 1) (vs := [.int .i64 r17.f0, .int .i64 r17.f1, .slice A18 r483.length c19]) (cs' := [.int .i64 r17.f0, .int .i64 r17.f1, .slice A18 r483.length c19]) rfl rfl rfl rfl rfl rfl sz67 rfl rfl ?_)
  refine RA_step rfl (OA_v (v := .int .i64 0) rfl (V_assign rfl) ?_)
  refine RA_nil ?_
  refine at_normal ?_
  refine SA_ret ?_
  have hr_ := Option.some.inj H
  subst hr_
  exact BQ_RL (rs := [.cell 10 67, .tmp 11]) (vs := [.agg #[.int .i64 r17.f0, .int .i64 r17.f1, .slice A18 r483.length c19], .int .i64 0]) [Buf k76 76 A18 c19 r483] rfl ⟨RV.cell (k := 1) rfl rfl Try.underlying67 rfl sz67, RV.tmp rfl, trivial⟩ rfl (Gh.sel [0] rfl rfl) ⟨A18, c19, rfl, rfl⟩

/-! ### function 73: wayfarer/grid.Up -/
def F73b0.f (k : Nat) (p0 : S67) (a1 : Int) (a2 : Int) (a3 : Int) (a4 : S70) : Option (S67) := lt (IntKind.i64.wrap ((IntKind.i64.wrap (a2 - a1)) + 1)) fun n5 => lt (IntKind.i64.wrap ((maxI (IntKind.i64.wrap (0 - n5)) (minI a3 n5)) * p0.f0)) fun n6 => if 0 ≤ (IntKind.i64.wrap (a1 * p0.f0)) ∧ (IntKind.i64.wrap (a1 * p0.f0)) ≤ (IntKind.i64.wrap ((IntKind.i64.wrap (a2 + 1)) * p0.f0)) ∧ (IntKind.i64.wrap ((IntKind.i64.wrap (a2 + 1)) * p0.f0)) ≤ (p0.f2.length : Int) then (if n6 ≥ 0 then (if 0 ≤ n6 ∧ n6 ≤ ((IntKind.i64.wrap ((IntKind.i64.wrap (a2 + 1)) * p0.f0)) - (IntKind.i64.wrap (a1 * p0.f0))) ∧ ((IntKind.i64.wrap ((IntKind.i64.wrap (a2 + 1)) * p0.f0)) - (IntKind.i64.wrap (a1 * p0.f0))) ≤ ((IntKind.i64.wrap ((IntKind.i64.wrap (a2 + 1)) * p0.f0)) - (IntKind.i64.wrap (a1 * p0.f0))) then (lt (over p0.f2 (0 + (IntKind.i64.wrap (a1 * p0.f0))).toNat ((sub p0.f2 ((0 + (IntKind.i64.wrap (a1 * p0.f0))) + n6) (((0 + (IntKind.i64.wrap (a1 * p0.f0))) + n6) + (((IntKind.i64.wrap ((IntKind.i64.wrap (a2 + 1)) * p0.f0)) - (IntKind.i64.wrap (a1 * p0.f0))) - n6))).take ((IntKind.i64.wrap ((IntKind.i64.wrap (a2 + 1)) * p0.f0)) - (IntKind.i64.wrap (a1 * p0.f0))).toNat)) fun n1156 => (if 0 ≤ (IntKind.i64.wrap (((IntKind.i64.wrap ((IntKind.i64.wrap (a2 + 1)) * p0.f0)) - (IntKind.i64.wrap (a1 * p0.f0))) - n6)) ∧ (IntKind.i64.wrap (((IntKind.i64.wrap ((IntKind.i64.wrap (a2 + 1)) * p0.f0)) - (IntKind.i64.wrap (a1 * p0.f0))) - n6)) ≤ ((IntKind.i64.wrap ((IntKind.i64.wrap (a2 + 1)) * p0.f0)) - (IntKind.i64.wrap (a1 * p0.f0))) ∧ ((IntKind.i64.wrap ((IntKind.i64.wrap (a2 + 1)) * p0.f0)) - (IntKind.i64.wrap (a1 * p0.f0))) ≤ ((IntKind.i64.wrap ((IntKind.i64.wrap (a2 + 1)) * p0.f0)) - (IntKind.i64.wrap (a1 * p0.f0))) then ((F105w0.f k n1156 ((0 + (IntKind.i64.wrap (a1 * p0.f0))) + (IntKind.i64.wrap (((IntKind.i64.wrap ((IntKind.i64.wrap (a2 + 1)) * p0.f0)) - (IntKind.i64.wrap (a1 * p0.f0))) - n6))) (((IntKind.i64.wrap ((IntKind.i64.wrap (a2 + 1)) * p0.f0)) - (IntKind.i64.wrap (a1 * p0.f0))) - (IntKind.i64.wrap (((IntKind.i64.wrap ((IntKind.i64.wrap (a2 + 1)) * p0.f0)) - (IntKind.i64.wrap (a1 * p0.f0))) - n6))) a4).bind (fun r1577 => if r1577.length = n1156.length then (some ((S67.mk p0.f0 p0.f1 r1577))) else none)) else none)) else none) else (if 0 ≤ (IntKind.i64.wrap (0 - n6)) ∧ (IntKind.i64.wrap (0 - n6)) ≤ ((IntKind.i64.wrap ((IntKind.i64.wrap (a2 + 1)) * p0.f0)) - (IntKind.i64.wrap (a1 * p0.f0))) ∧ ((IntKind.i64.wrap ((IntKind.i64.wrap (a2 + 1)) * p0.f0)) - (IntKind.i64.wrap (a1 * p0.f0))) ≤ ((IntKind.i64.wrap ((IntKind.i64.wrap (a2 + 1)) * p0.f0)) - (IntKind.i64.wrap (a1 * p0.f0))) then (lt (over p0.f2 ((0 + (IntKind.i64.wrap (a1 * p0.f0))) + (IntKind.i64.wrap (0 - n6))).toNat ((sub p0.f2 (0 + (IntKind.i64.wrap (a1 * p0.f0))) ((0 + (IntKind.i64.wrap (a1 * p0.f0))) + ((IntKind.i64.wrap ((IntKind.i64.wrap (a2 + 1)) * p0.f0)) - (IntKind.i64.wrap (a1 * p0.f0))))).take (((IntKind.i64.wrap ((IntKind.i64.wrap (a2 + 1)) * p0.f0)) - (IntKind.i64.wrap (a1 * p0.f0))) - (IntKind.i64.wrap (0 - n6))).toNat)) fun n1644 => (if 0 ≤ (0 : Int) ∧ (0 : Int) ≤ (IntKind.i64.wrap (0 - n6)) ∧ (IntKind.i64.wrap (0 - n6)) ≤ ((IntKind.i64.wrap ((IntKind.i64.wrap (a2 + 1)) * p0.f0)) - (IntKind.i64.wrap (a1 * p0.f0))) then ((F105w0.f k n1644 ((0 + (IntKind.i64.wrap (a1 * p0.f0))) + (0 : Int)) ((IntKind.i64.wrap (0 - n6)) - (0 : Int)) a4).bind (fun r1945 => if r1945.length = n1644.length then (some ((S67.mk p0.f0 p0.f1 r1945))) else none)) else none)) else none)) else none
set_option maxHeartbeats 2000000 in
set_option maxRecDepth 100000 in
theorem F73b0.ok {k : Nat} {p0 : S67} {a1 : Int} {a2 : Int} {a3 : Int} {a4 : S70} {b0_ : Nat} {A0_0 : Option Addr} {c0_0 : Nat} {r : S67} (H : F73b0.f k p0 a1 a2 a3 a4 = some r) : SCA Try.prog 73 #[.pointer (some ⟨b0_, 0, none⟩), .int .i64 a1, .int .i64 a2, .int .i64 a3, .agg #[.int .i64 a4.f0, .int .i64 a4.f1, .bool a4.f2, .bool a4.f3, .bool a4.f4, .bool a4.f5, .bool a4.f6, .bool a4.f7, .bool a4.f8, .bool a4.f9]] [Blk b0_ 67 [.int .i64 p0.f0, .int .i64 p0.f1, .slice A0_0 p0.f2.length c0_0], Buf k76 76 A0_0 c0_0 p0.f2] (fun v B => ∃ (P0_0_ : Option Addr) (q0_0_ : Nat), v = .tuple #[] ∧ B = [Blk b0_ 67 [.int .i64 r.f0, .int .i64 r.f1, .slice P0_0_ r.f2.length q0_0_], Buf k76 76 P0_0_ q0_0_ r.f2]) := by
  refine SCA_of_body Try.func73 rfl rfl ?_
  unfold F73b0.f at H
  refine SA_seq ?_
  refine SA_region ?_
  refine RA_step rfl (OA_box rfl rfl fun b3 => ?_)
  refine RA_nil ?_
  refine at_normal ?_
  refine SA_seq ?_
  refine SA_region ?_
  refine RA_step rfl (OA_v (v := .int .i64 a2) rfl (V_move rfl) ?_)
  refine RA_step rfl (OA_v (v := .int .i64 a1) rfl (V_move rfl) ?_)
  refine RA_step rfl (OA_v (v := .int .i64 (IntKind.i64.wrap (a2 - a1))) rfl (V_sub rfl rfl) ?_)
  refine RA_step rfl (OA_v (v := .int .i64 (IntKind.i64.wrap ((IntKind.i64.wrap (a2 - a1)) + 1))) rfl (V_add rfl rfl) ?_)
  obtain ⟨n5, hn5, H⟩ := g_lt H
  refine RA_step rfl (OA_v (v := .int .i64 n5) rfl (V_assign (v := .int .i64 n5) (congrArg (Value.int .i64) hn5.symm)) ?_)
  refine RA_nil ?_
  refine at_normal ?_
  refine SA_seq ?_
  refine SA_region ?_
  refine RA_step rfl (OA_v (v := .int .i64 n5) rfl (V_move rfl) ?_)
  refine RA_step rfl (OA_v (v := .int .i64 (IntKind.i64.wrap (0 - n5))) rfl (V_neg rfl) ?_)
  refine RA_step rfl (OA_v (v := .int .i64 a3) rfl (V_move rfl) ?_)
  refine RA_step rfl (OA_v (v := .int .i64 n5) rfl (V_move rfl) ?_)
  refine RA_step rfl (OA_v (v := .int .i64 (minI a3 n5)) rfl (V_min rfl rfl) ?_)
  refine RA_step rfl (OA_v (v := .int .i64 (maxI (IntKind.i64.wrap (0 - n5)) (minI a3 n5))) rfl (V_max rfl rfl) ?_)
  refine RA_step rfl (OA_v (v := .pointer (some ⟨b0_, 0, none⟩)) rfl (V_move rfl) ?_)
  refine RA_step rfl (OA_v (v := .pointer (some ⟨b0_, 0, none⟩)) rfl (V_nilCheck rfl) ?_)
  refine RA_step rfl (OA_v (v := .pointer (some ⟨b0_, 0, none⟩)) rfl (V_fieldAddrN (B := ⟨b0_, 0, none⟩) (m := 0) (o := 0) Try.underlying67 rfl nz3 rfl rfl) ?_)
  refine RA_step rfl (OA_r rfl (VR_load_blk (b := b0_) (m := 0) (k := 0) Try.underlying3 rfl rfl rfl rfl) ?_)
  refine RA_step rfl (OA_v (v := .int .i64 (IntKind.i64.wrap ((maxI (IntKind.i64.wrap (0 - n5)) (minI a3 n5)) * p0.f0))) rfl (V_mul rfl rfl) ?_)
  obtain ⟨n6, hn6, H⟩ := g_lt H
  refine RA_step rfl (OA_v (v := .int .i64 n6) rfl (V_assign (v := .int .i64 n6) (congrArg (Value.int .i64) hn6.symm)) ?_)
  refine RA_nil ?_
  refine at_normal ?_
  refine SA_seq ?_
  refine SA.fact (cap_of (k := 1) rfl) fun hc7 => ?_
  refine SA_drawHq (0 :: 1 :: 2 :: 3 :: 4 :: 5 :: 6 :: 7 :: 8 :: 9 :: 10 :: 11 :: 12 :: 13 :: 14 :: 15 :: 16 :: 17 :: 18 :: []) (List.toArray ([] :: [0] :: [0, 1] :: [0, 1, 2] :: [] :: [] :: [5] :: [5, 6] :: [5, 6, 7] :: [4, 5, 6, 7, 8] :: [] :: [10] :: [] :: [12] :: [12, 13] :: [12, 13, 14] :: [10, 11, 12, 13, 14, 15] :: (0 :: 1 :: 2 :: 3 :: 4 :: 5 :: 6 :: 7 :: 8 :: 9 :: 10 :: 11 :: 12 :: 13 :: 14 :: 15 :: 16 :: []) :: (0 :: 1 :: 2 :: 3 :: 4 :: 5 :: 6 :: 7 :: 8 :: 9 :: 10 :: 11 :: 12 :: 13 :: 14 :: 15 :: 16 :: 17 :: []) :: [])) [0] [1, 2] mixed rfl rfl rfl (PanOk.thn PanOk.body) fun I0 hS h0 hh0 w0 sH dd pk => ?_
  refine DH_take (v := .pointer (some ⟨b0_, 0, none⟩)) 0 (by kernel_rfl) rfl rfl (.no rfl) pk sH rfl (VR.ofV (V_move rfl)) ?_
  refine DH_take (v := .pointer (some ⟨b0_, 0, none⟩)) 1 (by kernel_rfl) rfl rfl (.no rfl) pk sH rfl (VR.ofV (V_nilCheck rfl)) ?_
  refine DH_take (v := .pointer (some ((⟨b0_, 0, none⟩ : Addr).add 2))) 2 (by kernel_rfl) rfl rfl (.no rfl) pk sH rfl (VR.ofV (V_fieldAddrN (B := ⟨b0_, 0, none⟩) (m := 0) (o := 2) Try.underlying67 rfl nz65 rfl rfl)) ?_
  refine DH_take 3 (by kernel_rfl) rfl rfl (.no rfl) pk sH rfl (VR_load_blk (b := b0_) (m := 2) (k := 0) Try.underlying65 rfl rfl rfl rfl) ?_
  refine DH_take (v := .int .i64 a1) 4 (by kernel_rfl) rfl rfl (.no rfl) pk sH rfl (VR.ofV (V_move rfl)) ?_
  refine DH_take (v := .pointer (some ⟨b0_, 0, none⟩)) 5 (by kernel_rfl) rfl rfl (.no rfl) pk sH rfl (VR.ofV (V_move rfl)) ?_
  refine DH_take (v := .pointer (some ⟨b0_, 0, none⟩)) 6 (by kernel_rfl) rfl rfl (.no rfl) pk sH rfl (VR.ofV (V_nilCheck rfl)) ?_
  refine DH_take (v := .pointer (some ⟨b0_, 0, none⟩)) 7 (by kernel_rfl) rfl rfl (.no rfl) pk sH rfl (VR.ofV (V_fieldAddrN (B := ⟨b0_, 0, none⟩) (m := 0) (o := 0) Try.underlying67 rfl nz3 rfl rfl)) ?_
  refine DH_take 8 (by kernel_rfl) rfl rfl (.no rfl) pk sH rfl (VR_load_blk (b := b0_) (m := 0) (k := 0) Try.underlying3 rfl rfl rfl rfl) ?_
  refine DH_take (v := .int .i64 (IntKind.i64.wrap (a1 * p0.f0))) 9 (by kernel_rfl) rfl rfl (.no rfl) pk sH rfl (VR.ofV (V_mul rfl rfl)) ?_
  refine DH_take (v := .int .i64 a2) 10 (by kernel_rfl) rfl rfl (.no rfl) pk sH rfl (VR.ofV (V_move rfl)) ?_
  refine DH_take (v := .int .i64 (IntKind.i64.wrap (a2 + 1))) 11 (by kernel_rfl) rfl rfl (.no rfl) pk sH rfl (VR.ofV (V_add rfl rfl)) ?_
  refine DH_take (v := .pointer (some ⟨b0_, 0, none⟩)) 12 (by kernel_rfl) rfl rfl (.no rfl) pk sH rfl (VR.ofV (V_move rfl)) ?_
  refine DH_take (v := .pointer (some ⟨b0_, 0, none⟩)) 13 (by kernel_rfl) rfl rfl (.no rfl) pk sH rfl (VR.ofV (V_nilCheck rfl)) ?_
  refine DH_take (v := .pointer (some ⟨b0_, 0, none⟩)) 14 (by kernel_rfl) rfl rfl (.no rfl) pk sH rfl (VR.ofV (V_fieldAddrN (B := ⟨b0_, 0, none⟩) (m := 0) (o := 0) Try.underlying67 rfl nz3 rfl rfl)) ?_
  refine DH_take 15 (by kernel_rfl) rfl rfl (.no rfl) pk sH rfl (VR_load_blk (b := b0_) (m := 0) (k := 0) Try.underlying3 rfl rfl rfl rfl) ?_
  refine DH_take (v := .int .i64 (IntKind.i64.wrap ((IntKind.i64.wrap (a2 + 1)) * p0.f0))) 16 (by kernel_rfl) rfl rfl (.no rfl) pk sH rfl (VR.ofV (V_mul rfl rfl)) ?_
  obtain ⟨⟨g1028, g1029, g1030⟩, H⟩ := g_pos H
  refine DH_take (v := .slice (slA A0_0 (IntKind.i64.wrap (a1 * p0.f0)) ((c0_0 : Nat) : Int) 15) ((IntKind.i64.wrap ((IntKind.i64.wrap (a2 + 1)) * p0.f0)) - (IntKind.i64.wrap (a1 * p0.f0))).toNat (((c0_0 : Nat) : Int).toNat - (IntKind.i64.wrap (a1 * p0.f0)).toNat)) 17 (by kernel_rfl) rfl rfl (.no rfl) pk sH rfl (VR.ofV (V_sliceW (l := 0) (m := (p0.f2.length : Int)) (a := IntKind.i64.wrap (a1 * p0.f0)) (b := IntKind.i64.wrap ((IntKind.i64.wrap (a2 + 1)) * p0.f0)) (q := ((c0_0 : Nat) : Int)) (Win.whole (sz := 15) (xs := p0.f2) (c := c0_0) (by omega)) Try.underlying65 sz76 rfl rfl rfl rfl (.inr ⟨_, rfl⟩) (.inr ⟨_, rfl⟩) (.inl ⟨rfl, rfl⟩) g1028 g1029 g1030)) ?_
  have hW1033 : Win A0_0 (slA A0_0 (IntKind.i64.wrap (a1 * p0.f0)) ((c0_0 : Nat) : Int) 15) 15 (0 + (IntKind.i64.wrap (a1 * p0.f0))) ((IntKind.i64.wrap ((IntKind.i64.wrap (a2 + 1)) * p0.f0)) - (IntKind.i64.wrap (a1 * p0.f0))) (((c0_0 : Nat) : Int).toNat - (IntKind.i64.wrap (a1 * p0.f0)).toNat) := Win.sub (Win.whole (sz := 15) (xs := p0.f2) (c := c0_0) (by omega)) g1028 g1029 g1030 (.inl rfl)
  refine DH_take (v := .slice (slA A0_0 (IntKind.i64.wrap (a1 * p0.f0)) ((c0_0 : Nat) : Int) 15) ((IntKind.i64.wrap ((IntKind.i64.wrap (a2 + 1)) * p0.f0)) - (IntKind.i64.wrap (a1 * p0.f0))).toNat (((c0_0 : Nat) : Int).toNat - (IntKind.i64.wrap (a1 * p0.f0)).toNat)) 18 (by kernel_rfl) rfl rfl (.no rfl) pk sH rfl (VR.ofV (V_assign rfl)) ?_
  refine DH_open dd sH ?_
  refine DN_done (by kernel_rfl) ?_
  refine at_normal ?_
  refine SA.of_St (l := [(3, .int .i64 n6), (9, .pointer (some ⟨b3, 0, none⟩)), (11, .slice (slA A0_0 (IntKind.i64.wrap (a1 * p0.f0)) ((c0_0 : Nat) : Int) 15) ((IntKind.i64.wrap ((IntKind.i64.wrap (a2 + 1)) * p0.f0)) - (IntKind.i64.wrap (a1 * p0.f0))).toNat (((c0_0 : Nat) : Int).toNat - (IntKind.i64.wrap (a1 * p0.f0)).toNat))]) (B := [Blk b0_ 67 [.int .i64 p0.f0, .int .i64 p0.f1, .slice A0_0 p0.f2.length c0_0], Buf k76 76 A0_0 c0_0 p0.f2, Blk b3 70 [.int .i64 a4.f0, .int .i64 a4.f1, .bool a4.f2, .bool a4.f3, .bool a4.f4, .bool a4.f5, .bool a4.f6, .bool a4.f7, .bool a4.f8, .bool a4.f9]]) (St.mk1 (aeq rfl (aeq rfl (aeq rfl aeq0))) (Gh.sel [0, 1, 2] (by kernel_rfl) (by kernel_rfl))) fun junk => ?_
  refine SA_seq ?_
  refine SA_region ?_
  refine RA_step rfl (OA_v (v := .int .i64 n6) rfl (V_move rfl) ?_)
  refine RA_step rfl (OA_v (v := .bool (decide (n6 ≥ 0))) rfl (V_geq rfl rfl) ?_)
  refine RA_nil ?_
  refine at_normal ?_
  by_cases h1149 : n6 ≥ 0
  · replace H := g_ift h1149 H
    refine SA_condT rfl h1149 ?_
    refine SA_seq ?_
    refine SA_region ?_
    refine RA_step rfl (OA_v (v := .slice (slA A0_0 (IntKind.i64.wrap (a1 * p0.f0)) ((c0_0 : Nat) : Int) 15) ((IntKind.i64.wrap ((IntKind.i64.wrap (a2 + 1)) * p0.f0)) - (IntKind.i64.wrap (a1 * p0.f0))).toNat (((c0_0 : Nat) : Int).toNat - (IntKind.i64.wrap (a1 * p0.f0)).toNat)) rfl (V_move rfl) ?_)
    refine RA_step rfl (OA_v (v := .slice (slA A0_0 (IntKind.i64.wrap (a1 * p0.f0)) ((c0_0 : Nat) : Int) 15) ((IntKind.i64.wrap ((IntKind.i64.wrap (a2 + 1)) * p0.f0)) - (IntKind.i64.wrap (a1 * p0.f0))).toNat (((c0_0 : Nat) : Int).toNat - (IntKind.i64.wrap (a1 * p0.f0)).toNat)) rfl (V_move rfl) ?_)
    refine RA_step rfl (OA_v (v := .int .i64 n6) rfl (V_move rfl) ?_)
    obtain ⟨⟨g1150, g1151, g1152⟩, H⟩ := g_pos H
    refine RA_step rfl (OA_v (v := .slice (slA (slA A0_0 (IntKind.i64.wrap (a1 * p0.f0)) ((c0_0 : Nat) : Int) 15) n6 ((((c0_0 : Nat) : Int).toNat - (IntKind.i64.wrap (a1 * p0.f0)).toNat : Nat) : Int) 15) (((IntKind.i64.wrap ((IntKind.i64.wrap (a2 + 1)) * p0.f0)) - (IntKind.i64.wrap (a1 * p0.f0))) - n6).toNat (((((c0_0 : Nat) : Int).toNat - (IntKind.i64.wrap (a1 * p0.f0)).toNat : Nat) : Int).toNat - n6.toNat)) rfl (V_sliceW (l := 0 + (IntKind.i64.wrap (a1 * p0.f0))) (m := (IntKind.i64.wrap ((IntKind.i64.wrap (a2 + 1)) * p0.f0)) - (IntKind.i64.wrap (a1 * p0.f0))) (a := n6) (b := (IntKind.i64.wrap ((IntKind.i64.wrap (a2 + 1)) * p0.f0)) - (IntKind.i64.wrap (a1 * p0.f0))) (q := ((((c0_0 : Nat) : Int).toNat - (IntKind.i64.wrap (a1 * p0.f0)).toNat : Nat) : Int)) hW1033 Try.underlying65 sz76 rfl rfl rfl rfl (.inr ⟨_, rfl⟩) (.inl ⟨rfl, rfl, rfl⟩) (.inl ⟨rfl, rfl⟩) g1150 g1151 g1152) ?_)
    have hW1155 : Win A0_0 (slA (slA A0_0 (IntKind.i64.wrap (a1 * p0.f0)) ((c0_0 : Nat) : Int) 15) n6 ((((c0_0 : Nat) : Int).toNat - (IntKind.i64.wrap (a1 * p0.f0)).toNat : Nat) : Int) 15) 15 ((0 + (IntKind.i64.wrap (a1 * p0.f0))) + n6) (((IntKind.i64.wrap ((IntKind.i64.wrap (a2 + 1)) * p0.f0)) - (IntKind.i64.wrap (a1 * p0.f0))) - n6) (((((c0_0 : Nat) : Int).toNat - (IntKind.i64.wrap (a1 * p0.f0)).toNat : Nat) : Int).toNat - n6.toNat) := Win.sub hW1033 g1150 g1151 g1152 (.inl rfl)
    obtain ⟨n1156, hn1156, H⟩ := g_lt H
    have hl_n1156 : n1156.length = p0.f2.length := by rw [hn1156]; exact over_len (by rw [List.length_take]; omega)
    refine RA_step rfl (OA_copyV (k := 1) (l := 0 + (IntKind.i64.wrap (a1 * p0.f0))) (m := (IntKind.i64.wrap ((IntKind.i64.wrap (a2 + 1)) * p0.f0)) - (IntKind.i64.wrap (a1 * p0.f0))) (xs := p0.f2) (ys := sub p0.f2 ((0 + (IntKind.i64.wrap (a1 * p0.f0))) + n6) (((0 + (IntKind.i64.wrap (a1 * p0.f0))) + n6) + (((IntKind.i64.wrap ((IntKind.i64.wrap (a2 + 1)) * p0.f0)) - (IntKind.i64.wrap (a1 * p0.f0))) - n6))) n1156 hn1156 hW1033 rfl Try.underlying65 sz76 rfl rfl rfl (by omega) rfl (Cpy.win (Src.buf (k := 1) rfl) hW1155 rfl (by omega)) ?_)
    try rewrite [← hl_n1156]
    refine RA_nil ?_
    refine at_normal ?_
    refine SA_drawHq [0, 1, 2, 3, 4, 5, 6] #[[], [], [1], [], [1, 2, 3], [0, 1, 2, 3, 4], [], [0, 1, 2, 3, 4, 5, 6]] [2] [0, 1] mixed rfl rfl rfl PanOk.body fun I0 hS h0 hh0 w0 sH dd pk => ?_
    refine DH_take (v := .slice (slA A0_0 (IntKind.i64.wrap (a1 * p0.f0)) ((c0_0 : Nat) : Int) 15) ((IntKind.i64.wrap ((IntKind.i64.wrap (a2 + 1)) * p0.f0)) - (IntKind.i64.wrap (a1 * p0.f0))).toNat (((c0_0 : Nat) : Int).toNat - (IntKind.i64.wrap (a1 * p0.f0)).toNat)) 0 (by kernel_rfl) rfl rfl (.no rfl) pk sH rfl (VR.ofV (V_move rfl)) ?_
    refine DH_take (v := .slice (slA A0_0 (IntKind.i64.wrap (a1 * p0.f0)) ((c0_0 : Nat) : Int) 15) ((IntKind.i64.wrap ((IntKind.i64.wrap (a2 + 1)) * p0.f0)) - (IntKind.i64.wrap (a1 * p0.f0))).toNat (((c0_0 : Nat) : Int).toNat - (IntKind.i64.wrap (a1 * p0.f0)).toNat)) 1 (by kernel_rfl) rfl rfl (.no rfl) pk sH rfl (VR.ofV (V_move rfl)) ?_
    refine DH_take (v := .int .i64 ((IntKind.i64.wrap ((IntKind.i64.wrap (a2 + 1)) * p0.f0)) - (IntKind.i64.wrap (a1 * p0.f0)))) 2 (by kernel_rfl) rfl rfl (.no rfl) pk sH rfl (VR.ofV (V_lenW hW1033 Try.underlying65 rfl)) ?_
    refine DH_take (v := .int .i64 n6) 3 (by kernel_rfl) rfl rfl (.no rfl) pk sH rfl (VR.ofV (V_move rfl)) ?_
    refine DH_take (v := .int .i64 (IntKind.i64.wrap (((IntKind.i64.wrap ((IntKind.i64.wrap (a2 + 1)) * p0.f0)) - (IntKind.i64.wrap (a1 * p0.f0))) - n6))) 4 (by kernel_rfl) rfl rfl (.no rfl) pk sH rfl (VR.ofV (V_sub rfl rfl)) ?_
    obtain ⟨⟨g1457, g1458, g1459⟩, H⟩ := g_pos H
    refine DH_take (v := .slice (slA (slA A0_0 (IntKind.i64.wrap (a1 * p0.f0)) ((c0_0 : Nat) : Int) 15) (IntKind.i64.wrap (((IntKind.i64.wrap ((IntKind.i64.wrap (a2 + 1)) * p0.f0)) - (IntKind.i64.wrap (a1 * p0.f0))) - n6)) ((((c0_0 : Nat) : Int).toNat - (IntKind.i64.wrap (a1 * p0.f0)).toNat : Nat) : Int) 15) (((IntKind.i64.wrap ((IntKind.i64.wrap (a2 + 1)) * p0.f0)) - (IntKind.i64.wrap (a1 * p0.f0))) - (IntKind.i64.wrap (((IntKind.i64.wrap ((IntKind.i64.wrap (a2 + 1)) * p0.f0)) - (IntKind.i64.wrap (a1 * p0.f0))) - n6))).toNat (((((c0_0 : Nat) : Int).toNat - (IntKind.i64.wrap (a1 * p0.f0)).toNat : Nat) : Int).toNat - (IntKind.i64.wrap (((IntKind.i64.wrap ((IntKind.i64.wrap (a2 + 1)) * p0.f0)) - (IntKind.i64.wrap (a1 * p0.f0))) - n6)).toNat)) 5 (by kernel_rfl) rfl rfl (.no rfl) pk sH rfl (VR.ofV (V_sliceW (l := 0 + (IntKind.i64.wrap (a1 * p0.f0))) (m := (IntKind.i64.wrap ((IntKind.i64.wrap (a2 + 1)) * p0.f0)) - (IntKind.i64.wrap (a1 * p0.f0))) (a := IntKind.i64.wrap (((IntKind.i64.wrap ((IntKind.i64.wrap (a2 + 1)) * p0.f0)) - (IntKind.i64.wrap (a1 * p0.f0))) - n6)) (b := (IntKind.i64.wrap ((IntKind.i64.wrap (a2 + 1)) * p0.f0)) - (IntKind.i64.wrap (a1 * p0.f0))) (q := ((((c0_0 : Nat) : Int).toNat - (IntKind.i64.wrap (a1 * p0.f0)).toNat : Nat) : Int)) hW1033 Try.underlying65 sz76 rfl rfl rfl rfl (.inr ⟨_, rfl⟩) (.inl ⟨rfl, rfl, rfl⟩) (.inl ⟨rfl, rfl⟩) g1457 g1458 g1459)) ?_
    have hW1462 : Win A0_0 (slA (slA A0_0 (IntKind.i64.wrap (a1 * p0.f0)) ((c0_0 : Nat) : Int) 15) (IntKind.i64.wrap (((IntKind.i64.wrap ((IntKind.i64.wrap (a2 + 1)) * p0.f0)) - (IntKind.i64.wrap (a1 * p0.f0))) - n6)) ((((c0_0 : Nat) : Int).toNat - (IntKind.i64.wrap (a1 * p0.f0)).toNat : Nat) : Int) 15) 15 ((0 + (IntKind.i64.wrap (a1 * p0.f0))) + (IntKind.i64.wrap (((IntKind.i64.wrap ((IntKind.i64.wrap (a2 + 1)) * p0.f0)) - (IntKind.i64.wrap (a1 * p0.f0))) - n6))) (((IntKind.i64.wrap ((IntKind.i64.wrap (a2 + 1)) * p0.f0)) - (IntKind.i64.wrap (a1 * p0.f0))) - (IntKind.i64.wrap (((IntKind.i64.wrap ((IntKind.i64.wrap (a2 + 1)) * p0.f0)) - (IntKind.i64.wrap (a1 * p0.f0))) - n6))) (((((c0_0 : Nat) : Int).toNat - (IntKind.i64.wrap (a1 * p0.f0)).toNat : Nat) : Int).toNat - (IntKind.i64.wrap (((IntKind.i64.wrap ((IntKind.i64.wrap (a2 + 1)) * p0.f0)) - (IntKind.i64.wrap (a1 * p0.f0))) - n6)).toNat) := Win.sub hW1033 g1457 g1458 g1459 (.inl rfl)
    refine DH_take 6 (by kernel_rfl) rfl rfl (.no rfl) pk sH rfl (VR_loadA_blk (b := b3) (m := 0) (k := 0) (vs := [.int .i64 a4.f0, .int .i64 a4.f1, .bool a4.f2, .bool a4.f3, .bool a4.f4, .bool a4.f5, .bool a4.f6, .bool a4.f7, .bool a4.f8, .bool a4.f9]) Try.underlying70 rfl sz70 rfl rfl rfl) ?_
    obtain ⟨r1577, C1579, H⟩ := g_bind H
    obtain ⟨hl1578, H⟩ := g_pos H
    refine DH_one 7 dd (by kernel_rfl) rfl (.no rfl) (OA_callA [1] [0] rfl (X_fn (vs := [.slice (slA (slA A0_0 (IntKind.i64.wrap (a1 * p0.f0)) ((c0_0 : Nat) : Int) 15) (IntKind.i64.wrap (((IntKind.i64.wrap ((IntKind.i64.wrap (a2 + 1)) * p0.f0)) - (IntKind.i64.wrap (a1 * p0.f0))) - n6)) ((((c0_0 : Nat) : Int).toNat - (IntKind.i64.wrap (a1 * p0.f0)).toNat : Nat) : Int) 15) (((IntKind.i64.wrap ((IntKind.i64.wrap (a2 + 1)) * p0.f0)) - (IntKind.i64.wrap (a1 * p0.f0))) - (IntKind.i64.wrap (((IntKind.i64.wrap ((IntKind.i64.wrap (a2 + 1)) * p0.f0)) - (IntKind.i64.wrap (a1 * p0.f0))) - n6))).toNat (((((c0_0 : Nat) : Int).toNat - (IntKind.i64.wrap (a1 * p0.f0)).toNat : Nat) : Int).toNat - (IntKind.i64.wrap (((IntKind.i64.wrap ((IntKind.i64.wrap (a2 + 1)) * p0.f0)) - (IntKind.i64.wrap (a1 * p0.f0))) - n6)).toNat), .agg #[.int .i64 a4.f0, .int .i64 a4.f1, .bool a4.f2, .bool a4.f3, .bool a4.f4, .bool a4.f5, .bool a4.f6, .bool a4.f7, .bool a4.f8, .bool a4.f9]]) Try.func105 nm105 rfl rfl) rfl (F105w0.ok (l0 := n1156) (o0 := (0 + (IntKind.i64.wrap (a1 * p0.f0))) + (IntKind.i64.wrap (((IntKind.i64.wrap ((IntKind.i64.wrap (a2 + 1)) * p0.f0)) - (IntKind.i64.wrap (a1 * p0.f0))) - n6))) (n0 := ((IntKind.i64.wrap ((IntKind.i64.wrap (a2 + 1)) * p0.f0)) - (IntKind.i64.wrap (a1 * p0.f0))) - (IntKind.i64.wrap (((IntKind.i64.wrap ((IntKind.i64.wrap (a2 + 1)) * p0.f0)) - (IntKind.i64.wrap (a1 * p0.f0))) - n6))) (A0 := A0_0) (c0 := c0_0) (V0 := slA (slA A0_0 (IntKind.i64.wrap (a1 * p0.f0)) ((c0_0 : Nat) : Int) 15) (IntKind.i64.wrap (((IntKind.i64.wrap ((IntKind.i64.wrap (a2 + 1)) * p0.f0)) - (IntKind.i64.wrap (a1 * p0.f0))) - n6)) ((((c0_0 : Nat) : Int).toNat - (IntKind.i64.wrap (a1 * p0.f0)).toNat : Nat) : Int) 15) (v0 := ((((c0_0 : Nat) : Int).toNat - (IntKind.i64.wrap (a1 * p0.f0)).toNat : Nat) : Int).toNat - (IntKind.i64.wrap (((IntKind.i64.wrap ((IntKind.i64.wrap (a2 + 1)) * p0.f0)) - (IntKind.i64.wrap (a1 * p0.f0))) - n6)).toNat) (hw0 := hW1462) (a1 := a4) C1579) rfl ?_)
    rintro _ _ ⟨rfl, rfl⟩
    try rewrite [← hl1578]
    try rewrite [← hl1578] at sH
    refine DH_open dd sH ?_
    refine DN_done (by kernel_rfl) ?_
    have hr_ := Option.some.inj H
    subst hr_
    exact BQ_n0 [Blk b0_ 67 [.int .i64 p0.f0, .int .i64 p0.f1, .slice A0_0 r1577.length c0_0], Buf k76 76 A0_0 c0_0 r1577] rfl (Gh.sel [2, 1] rfl rfl) ⟨A0_0, c0_0, rfl, rfl⟩
  replace H := g_iff h1149 H
  refine SA_condF rfl h1149 ?_
  refine SA_seq ?_
  refine SA_region ?_
  refine RA_step rfl (OA_v (v := .slice (slA A0_0 (IntKind.i64.wrap (a1 * p0.f0)) ((c0_0 : Nat) : Int) 15) ((IntKind.i64.wrap ((IntKind.i64.wrap (a2 + 1)) * p0.f0)) - (IntKind.i64.wrap (a1 * p0.f0))).toNat (((c0_0 : Nat) : Int).toNat - (IntKind.i64.wrap (a1 * p0.f0)).toNat)) rfl (V_move rfl) ?_)
  refine RA_step rfl (OA_v (v := .int .i64 n6) rfl (V_move rfl) ?_)
  refine RA_step rfl (OA_v (v := .int .i64 (IntKind.i64.wrap (0 - n6))) rfl (V_neg rfl) ?_)
  obtain ⟨⟨g1638, g1639, g1640⟩, H⟩ := g_pos H
  refine RA_step rfl (OA_v (v := .slice (slA (slA A0_0 (IntKind.i64.wrap (a1 * p0.f0)) ((c0_0 : Nat) : Int) 15) (IntKind.i64.wrap (0 - n6)) ((((c0_0 : Nat) : Int).toNat - (IntKind.i64.wrap (a1 * p0.f0)).toNat : Nat) : Int) 15) (((IntKind.i64.wrap ((IntKind.i64.wrap (a2 + 1)) * p0.f0)) - (IntKind.i64.wrap (a1 * p0.f0))) - (IntKind.i64.wrap (0 - n6))).toNat (((((c0_0 : Nat) : Int).toNat - (IntKind.i64.wrap (a1 * p0.f0)).toNat : Nat) : Int).toNat - (IntKind.i64.wrap (0 - n6)).toNat)) rfl (V_sliceW (l := 0 + (IntKind.i64.wrap (a1 * p0.f0))) (m := (IntKind.i64.wrap ((IntKind.i64.wrap (a2 + 1)) * p0.f0)) - (IntKind.i64.wrap (a1 * p0.f0))) (a := IntKind.i64.wrap (0 - n6)) (b := (IntKind.i64.wrap ((IntKind.i64.wrap (a2 + 1)) * p0.f0)) - (IntKind.i64.wrap (a1 * p0.f0))) (q := ((((c0_0 : Nat) : Int).toNat - (IntKind.i64.wrap (a1 * p0.f0)).toNat : Nat) : Int)) hW1033 Try.underlying65 sz76 rfl rfl rfl rfl (.inr ⟨_, rfl⟩) (.inl ⟨rfl, rfl, rfl⟩) (.inl ⟨rfl, rfl⟩) g1638 g1639 g1640) ?_)
  have hW1643 : Win A0_0 (slA (slA A0_0 (IntKind.i64.wrap (a1 * p0.f0)) ((c0_0 : Nat) : Int) 15) (IntKind.i64.wrap (0 - n6)) ((((c0_0 : Nat) : Int).toNat - (IntKind.i64.wrap (a1 * p0.f0)).toNat : Nat) : Int) 15) 15 ((0 + (IntKind.i64.wrap (a1 * p0.f0))) + (IntKind.i64.wrap (0 - n6))) (((IntKind.i64.wrap ((IntKind.i64.wrap (a2 + 1)) * p0.f0)) - (IntKind.i64.wrap (a1 * p0.f0))) - (IntKind.i64.wrap (0 - n6))) (((((c0_0 : Nat) : Int).toNat - (IntKind.i64.wrap (a1 * p0.f0)).toNat : Nat) : Int).toNat - (IntKind.i64.wrap (0 - n6)).toNat) := Win.sub hW1033 g1638 g1639 g1640 (.inl rfl)
  refine RA_step rfl (OA_v (v := .slice (slA A0_0 (IntKind.i64.wrap (a1 * p0.f0)) ((c0_0 : Nat) : Int) 15) ((IntKind.i64.wrap ((IntKind.i64.wrap (a2 + 1)) * p0.f0)) - (IntKind.i64.wrap (a1 * p0.f0))).toNat (((c0_0 : Nat) : Int).toNat - (IntKind.i64.wrap (a1 * p0.f0)).toNat)) rfl (V_move rfl) ?_)
  obtain ⟨n1644, hn1644, H⟩ := g_lt H
  have hl_n1644 : n1644.length = p0.f2.length := by rw [hn1644]; exact over_len (by rw [List.length_take]; omega)
  refine RA_step rfl (OA_copyV (k := 1) (l := (0 + (IntKind.i64.wrap (a1 * p0.f0))) + (IntKind.i64.wrap (0 - n6))) (m := ((IntKind.i64.wrap ((IntKind.i64.wrap (a2 + 1)) * p0.f0)) - (IntKind.i64.wrap (a1 * p0.f0))) - (IntKind.i64.wrap (0 - n6))) (xs := p0.f2) (ys := sub p0.f2 (0 + (IntKind.i64.wrap (a1 * p0.f0))) ((0 + (IntKind.i64.wrap (a1 * p0.f0))) + ((IntKind.i64.wrap ((IntKind.i64.wrap (a2 + 1)) * p0.f0)) - (IntKind.i64.wrap (a1 * p0.f0))))) n1644 hn1644 hW1643 rfl Try.underlying65 sz76 rfl rfl rfl (by omega) rfl (Cpy.win (Src.buf (k := 1) rfl) hW1033 rfl (by omega)) ?_)
  try rewrite [← hl_n1644]
  refine RA_nil ?_
  refine at_normal ?_
  refine SA_drawHq [0, 1, 2, 3, 4] #[[], [], [1], [0, 1, 2], [], [0, 1, 2, 3, 4]] [2] [0, 1] mixed rfl rfl rfl PanOk.body fun I0 hS h0 hh0 w0 sH dd pk => ?_
  refine DH_take (v := .slice (slA A0_0 (IntKind.i64.wrap (a1 * p0.f0)) ((c0_0 : Nat) : Int) 15) ((IntKind.i64.wrap ((IntKind.i64.wrap (a2 + 1)) * p0.f0)) - (IntKind.i64.wrap (a1 * p0.f0))).toNat (((c0_0 : Nat) : Int).toNat - (IntKind.i64.wrap (a1 * p0.f0)).toNat)) 0 (by kernel_rfl) rfl rfl (.no rfl) pk sH rfl (VR.ofV (V_move rfl)) ?_
  refine DH_take (v := .int .i64 n6) 1 (by kernel_rfl) rfl rfl (.no rfl) pk sH rfl (VR.ofV (V_move rfl)) ?_
  refine DH_take (v := .int .i64 (IntKind.i64.wrap (0 - n6))) 2 (by kernel_rfl) rfl rfl (.no rfl) pk sH rfl (VR.ofV (V_neg rfl)) ?_
  obtain ⟨⟨g1825, g1826, g1827⟩, H⟩ := g_pos H
  refine DH_take (v := .slice (slA (slA A0_0 (IntKind.i64.wrap (a1 * p0.f0)) ((c0_0 : Nat) : Int) 15) (0 : Int) ((((c0_0 : Nat) : Int).toNat - (IntKind.i64.wrap (a1 * p0.f0)).toNat : Nat) : Int) 15) ((IntKind.i64.wrap (0 - n6)) - (0 : Int)).toNat (((((c0_0 : Nat) : Int).toNat - (IntKind.i64.wrap (a1 * p0.f0)).toNat : Nat) : Int).toNat - (0 : Int).toNat)) 3 (by kernel_rfl) rfl rfl (.no rfl) pk sH rfl (VR.ofV (V_sliceW (l := 0 + (IntKind.i64.wrap (a1 * p0.f0))) (m := (IntKind.i64.wrap ((IntKind.i64.wrap (a2 + 1)) * p0.f0)) - (IntKind.i64.wrap (a1 * p0.f0))) (a := (0 : Int)) (b := IntKind.i64.wrap (0 - n6)) (q := ((((c0_0 : Nat) : Int).toNat - (IntKind.i64.wrap (a1 * p0.f0)).toNat : Nat) : Int)) hW1033 Try.underlying65 sz76 rfl rfl rfl rfl (.inl ⟨rfl, rfl⟩) (.inr ⟨_, rfl⟩) (.inl ⟨rfl, rfl⟩) g1825 g1826 g1827)) ?_
  have hW1830 : Win A0_0 (slA (slA A0_0 (IntKind.i64.wrap (a1 * p0.f0)) ((c0_0 : Nat) : Int) 15) (0 : Int) ((((c0_0 : Nat) : Int).toNat - (IntKind.i64.wrap (a1 * p0.f0)).toNat : Nat) : Int) 15) 15 ((0 + (IntKind.i64.wrap (a1 * p0.f0))) + (0 : Int)) ((IntKind.i64.wrap (0 - n6)) - (0 : Int)) (((((c0_0 : Nat) : Int).toNat - (IntKind.i64.wrap (a1 * p0.f0)).toNat : Nat) : Int).toNat - (0 : Int).toNat) := Win.sub hW1033 g1825 g1826 g1827 (.inl rfl)
  refine DH_take 4 (by kernel_rfl) rfl rfl (.no rfl) pk sH rfl (VR_loadA_blk (b := b3) (m := 0) (k := 0) (vs := [.int .i64 a4.f0, .int .i64 a4.f1, .bool a4.f2, .bool a4.f3, .bool a4.f4, .bool a4.f5, .bool a4.f6, .bool a4.f7, .bool a4.f8, .bool a4.f9]) Try.underlying70 rfl sz70 rfl rfl rfl) ?_
  obtain ⟨r1945, C1947, H⟩ := g_bind H
  obtain ⟨hl1946, H⟩ := g_pos H
  refine DH_one 5 dd (by kernel_rfl) rfl (.no rfl) (OA_callA [1] [0] rfl (X_fn (vs := [.slice (slA (slA A0_0 (IntKind.i64.wrap (a1 * p0.f0)) ((c0_0 : Nat) : Int) 15) (0 : Int) ((((c0_0 : Nat) : Int).toNat - (IntKind.i64.wrap (a1 * p0.f0)).toNat : Nat) : Int) 15) ((IntKind.i64.wrap (0 - n6)) - (0 : Int)).toNat (((((c0_0 : Nat) : Int).toNat - (IntKind.i64.wrap (a1 * p0.f0)).toNat : Nat) : Int).toNat - (0 : Int).toNat), .agg #[.int .i64 a4.f0, .int .i64 a4.f1, .bool a4.f2, .bool a4.f3, .bool a4.f4, .bool a4.f5, .bool a4.f6, .bool a4.f7, .bool a4.f8, .bool a4.f9]]) Try.func105 nm105 rfl rfl) rfl (F105w0.ok (l0 := n1644) (o0 := (0 + (IntKind.i64.wrap (a1 * p0.f0))) + (0 : Int)) (n0 := (IntKind.i64.wrap (0 - n6)) - (0 : Int)) (A0 := A0_0) (c0 := c0_0) (V0 := slA (slA A0_0 (IntKind.i64.wrap (a1 * p0.f0)) ((c0_0 : Nat) : Int) 15) (0 : Int) ((((c0_0 : Nat) : Int).toNat - (IntKind.i64.wrap (a1 * p0.f0)).toNat : Nat) : Int) 15) (v0 := ((((c0_0 : Nat) : Int).toNat - (IntKind.i64.wrap (a1 * p0.f0)).toNat : Nat) : Int).toNat - (0 : Int).toNat) (hw0 := hW1830) (a1 := a4) C1947) rfl ?_)
  rintro _ _ ⟨rfl, rfl⟩
  try rewrite [← hl1946]
  try rewrite [← hl1946] at sH
  refine DH_open dd sH ?_
  refine DN_done (by kernel_rfl) ?_
  have hr_ := Option.some.inj H
  subst hr_
  exact BQ_n0 [Blk b0_ 67 [.int .i64 p0.f0, .int .i64 p0.f1, .slice A0_0 r1945.length c0_0], Buf k76 76 A0_0 c0_0 r1945] rfl (Gh.sel [2, 1] rfl rfl) ⟨A0_0, c0_0, rfl, rfl⟩

/-! ### function 33: wayfarer/grid.Scroll -/
def F33.f (k : Nat) (a0 : S67) (a1 : Int) (a2 : Int) (a3 : Int) (a4 : S70) : Option (S67 × Int) := (F41.f k a0).bind (fun r8 => lt ((!r8) || (decide (a1 < 0))) fun q9 => lt (q9 || (decide (a1 > a2))) fun q12 => lt (q12 || (decide (a2 ≥ a0.f1))) fun q15 => (if q15 = true then (some true) else ((F71.f a4).bind (fun r20 => some (!r20))) : Option Bool).bind (fun q18 => if q18 = true then (some (((S67.mk 0 0 ([] : (List S76))), 2))) else ((F72.f a0).bind (fun r25 => (F73b0.f k r25 a1 a2 a3 a4).bind (fun r30 => some ((r30, 0)))))))
set_option maxHeartbeats 2000000 in
set_option maxRecDepth 100000 in
theorem F33.ok {k : Nat} {a0 : S67} {a1 : Int} {a2 : Int} {a3 : Int} {a4 : S70} {A0_0 : Option Addr} {c0_0 : Nat} {r : S67 × Int} (H : F33.f k a0 a1 a2 a3 a4 = some r) : SCA Try.prog 33 #[.agg #[.int .i64 a0.f0, .int .i64 a0.f1, .slice A0_0 a0.f2.length c0_0], .int .i64 a1, .int .i64 a2, .int .i64 a3, .agg #[.int .i64 a4.f0, .int .i64 a4.f1, .bool a4.f2, .bool a4.f3, .bool a4.f4, .bool a4.f5, .bool a4.f6, .bool a4.f7, .bool a4.f8, .bool a4.f9]] [Ro k76 A0_0 c0_0 a0.f2] (fun v B => ∃ (A0_0_ : Option Addr) (c0_0_ : Nat), v = .tuple #[.agg #[.int .i64 r.1.f0, .int .i64 r.1.f1, .slice A0_0_ r.1.f2.length c0_0_], .int .i64 r.2] ∧ B = [Buf k76 76 A0_0_ c0_0_ r.1.f2]) := by
  refine SCA_of_body Try.func33 rfl rfl ?_
  unfold F33.f at H
  refine SA_seq ?_
  refine SA_region ?_
  refine RA_step rfl (OA_box rfl rfl fun b2 => ?_)
  refine RA_step rfl (OA_box rfl rfl fun b4 => ?_)
  refine RA_step rfl (OA_alloc rfl zero67 fun b6 => ?_)
  refine RA_step rfl (OA_v (v := .int .i64 0) rfl (V_assign rfl) ?_)
  refine RA_nil ?_
  refine at_normal ?_
  refine SA_seq ?_
  refine SA_seq ?_
  refine SA_region ?_
  refine RA_step rfl (OA_r rfl (VR_loadA_blk (b := b2) (m := 0) (k := 1) (vs := [.int .i64 a0.f0, .int .i64 a0.f1, .slice A0_0 a0.f2.length c0_0]) Try.underlying67 rfl sz67 rfl rfl rfl) ?_)
  obtain ⟨r8, C36, H⟩ := g_bind H
  refine RA_step rfl (OA_callA [0] [0, 1, 2, 3] rfl (X_fn (vs := [.agg #[.int .i64 a0.f0, .int .i64 a0.f1, .slice A0_0 a0.f2.length c0_0]]) Try.func41 nm41 rfl rfl) rfl (F41.ok (a0 := a0) (A0_0 := A0_0) (c0_0 := c0_0) C36) rfl ?_)
  rintro _ _ ⟨rfl, rfl⟩
  refine RA_step rfl (OA_v (v := .bool (!r8)) rfl (V_not rfl) ?_)
  refine RA_step rfl (OA_v (v := .bool (!r8)) rfl (V_move rfl) ?_)
  obtain ⟨q9, hq9, H⟩ := g_lt H
  refine RA_cut 3 (fun e ds As => St [(1, .int .i64 a1), (2, .int .i64 a2), (3, .int .i64 a3), (5, .pointer (some ⟨b2, 0, none⟩)), (9, .pointer (some ⟨b4, 0, none⟩)), (10, .pointer (some ⟨b6, 0, none⟩)), (18, .bool q9)] [Blk b2 67 [.int .i64 a0.f0, .int .i64 a0.f1, .slice A0_0 a0.f2.length c0_0], Ro k76 A0_0 c0_0 a0.f2, Blk b4 70 [.int .i64 a4.f0, .int .i64 a4.f1, .bool a4.f2, .bool a4.f3, .bool a4.f4, .bool a4.f5, .bool a4.f6, .bool a4.f7, .bool a4.f8, .bool a4.f9], Blk b6 67 [.int .i64 0, .int .i64 0, .slice none 0 0]] e ds As) ?_ ?_
  · by_cases h10 : (!r8) = true
    · refine RA_noB rfl rfl rfl rfl (h10) rfl ?_
      refine RA_noB rfl rfl rfl rfl (h10) rfl ?_
      refine RA_step rfl (OA_v rfl (V_pickT rfl (h10) rfl) ?_)
      refine RA_nil ?_
      exact at_normal (St.mk1 (aeq rfl (aeq rfl (aeq rfl (aeq rfl (aeq rfl (aeq rfl (aeq (congrArg Value.bool (or_t hq9 (h10))) aeq0))))))) (Gh.sel [1, 0, 2, 3] rfl rfl))
    refine RA_yesB rfl rfl rfl rfl (bno h10) (OA_v (v := .int .i64 a1) rfl (V_move rfl) ?_)
    refine RA_yesB rfl rfl rfl rfl (bno h10) (OA_v (v := .bool (decide (a1 < 0))) rfl (V_lss rfl rfl) ?_)
    refine RA_step rfl (OA_v rfl (V_pickF rfl (bno h10) rfl) ?_)
    refine RA_nil ?_
    exact at_normal (St.mk1 (aeq rfl (aeq rfl (aeq rfl (aeq rfl (aeq rfl (aeq rfl (aeq (congrArg Value.bool (or_f hq9 (bno h10))) aeq0))))))) (Gh.sel [1, 0, 2, 3] rfl rfl))
  rintro e ds As hst11
  refine RA.of_St rfl hst11 fun junk => ?_
  refine RA_step rfl (OA_v (v := .bool q9) rfl (V_move rfl) ?_)
  obtain ⟨q12, hq12, H⟩ := g_lt H
  refine RA_cut 4 (fun e ds As => St [(1, .int .i64 a1), (2, .int .i64 a2), (3, .int .i64 a3), (5, .pointer (some ⟨b2, 0, none⟩)), (9, .pointer (some ⟨b4, 0, none⟩)), (10, .pointer (some ⟨b6, 0, none⟩)), (23, .bool q12)] [Blk b2 67 [.int .i64 a0.f0, .int .i64 a0.f1, .slice A0_0 a0.f2.length c0_0], Ro k76 A0_0 c0_0 a0.f2, Blk b4 70 [.int .i64 a4.f0, .int .i64 a4.f1, .bool a4.f2, .bool a4.f3, .bool a4.f4, .bool a4.f5, .bool a4.f6, .bool a4.f7, .bool a4.f8, .bool a4.f9], Blk b6 67 [.int .i64 0, .int .i64 0, .slice none 0 0]] e ds As) ?_ ?_
  · by_cases h13 : q9 = true
    · refine RA_noB rfl rfl rfl rfl (h13) rfl ?_
      refine RA_noB rfl rfl rfl rfl (h13) rfl ?_
      refine RA_noB rfl rfl rfl rfl (h13) rfl ?_
      refine RA_step rfl (OA_v rfl (V_pickT rfl (h13) rfl) ?_)
      refine RA_nil ?_
      exact at_normal (St.mk1 (aeq rfl (aeq rfl (aeq rfl (aeq rfl (aeq rfl (aeq rfl (aeq (congrArg Value.bool (or_t hq12 (h13))) aeq0))))))) (Gh.sel [0, 1, 2, 3] rfl rfl))
    refine RA_yesB rfl rfl rfl rfl (bno h13) (OA_v (v := .int .i64 a1) rfl (V_move rfl) ?_)
    refine RA_yesB rfl rfl rfl rfl (bno h13) (OA_v (v := .int .i64 a2) rfl (V_move rfl) ?_)
    refine RA_yesB rfl rfl rfl rfl (bno h13) (OA_v (v := .bool (decide (a1 > a2))) rfl (V_gtr rfl rfl) ?_)
    refine RA_step rfl (OA_v rfl (V_pickF rfl (bno h13) rfl) ?_)
    refine RA_nil ?_
    exact at_normal (St.mk1 (aeq rfl (aeq rfl (aeq rfl (aeq rfl (aeq rfl (aeq rfl (aeq (congrArg Value.bool (or_f hq12 (bno h13))) aeq0))))))) (Gh.sel [0, 1, 2, 3] rfl rfl))
  rintro e ds As hst14
  refine RA.of_St rfl hst14 fun junk => ?_
  refine RA_step rfl (OA_v (v := .bool q12) rfl (V_move rfl) ?_)
  obtain ⟨q15, hq15, H⟩ := g_lt H
  refine RA_cut 5 (fun e ds As => St [(1, .int .i64 a1), (2, .int .i64 a2), (3, .int .i64 a3), (5, .pointer (some ⟨b2, 0, none⟩)), (9, .pointer (some ⟨b4, 0, none⟩)), (10, .pointer (some ⟨b6, 0, none⟩)), (29, .bool q15)] [Blk b2 67 [.int .i64 a0.f0, .int .i64 a0.f1, .slice A0_0 a0.f2.length c0_0], Ro k76 A0_0 c0_0 a0.f2, Blk b4 70 [.int .i64 a4.f0, .int .i64 a4.f1, .bool a4.f2, .bool a4.f3, .bool a4.f4, .bool a4.f5, .bool a4.f6, .bool a4.f7, .bool a4.f8, .bool a4.f9], Blk b6 67 [.int .i64 0, .int .i64 0, .slice none 0 0]] e ds As) ?_ ?_
  · by_cases h16 : q12 = true
    · refine RA_noB rfl rfl rfl rfl (h16) rfl ?_
      refine RA_noB rfl rfl rfl rfl (h16) rfl ?_
      refine RA_noB rfl rfl rfl rfl (h16) rfl ?_
      refine RA_noB rfl rfl rfl rfl (h16) rfl ?_
      refine RA_step rfl (OA_v rfl (V_pickT rfl (h16) rfl) ?_)
      refine RA_nil ?_
      exact at_normal (St.mk1 (aeq rfl (aeq rfl (aeq rfl (aeq rfl (aeq rfl (aeq rfl (aeq (congrArg Value.bool (or_t hq15 (h16))) aeq0))))))) (Gh.sel [0, 1, 2, 3] rfl rfl))
    refine RA_yesB rfl rfl rfl rfl (bno h16) (OA_v (v := .int .i64 a2) rfl (V_move rfl) ?_)
    refine RA_yesB rfl rfl rfl rfl (bno h16) (OA_v (v := .pointer (some ((⟨b2, 0, none⟩ : Addr).add 1))) rfl (V_fieldAddrN (B := ⟨b2, 0, none⟩) (m := 0) (o := 1) Try.underlying67 rfl nz3 rfl rfl) ?_)
    refine RA_yesB rfl rfl rfl rfl (bno h16) (OA_r rfl (VR_load_blk (b := b2) (m := 1) (k := 0) Try.underlying3 rfl rfl rfl rfl) ?_)
    refine RA_yesB rfl rfl rfl rfl (bno h16) (OA_v (v := .bool (decide (a2 ≥ a0.f1))) rfl (V_geq rfl rfl) ?_)
    refine RA_step rfl (OA_v rfl (V_pickF rfl (bno h16) rfl) ?_)
    refine RA_nil ?_
    exact at_normal (St.mk1 (aeq rfl (aeq rfl (aeq rfl (aeq rfl (aeq rfl (aeq rfl (aeq (congrArg Value.bool (or_f hq15 (bno h16))) aeq0))))))) (Gh.sel [0, 1, 2, 3] rfl rfl))
  rintro e ds As hst17
  refine RA.of_St rfl hst17 fun junk => ?_
  refine RA_step rfl (OA_v (v := .bool q15) rfl (V_move rfl) ?_)
  obtain ⟨q18, H, Bq18⟩ := g_bind H
  refine RA_cut 4 (fun e ds As => St [(1, .int .i64 a1), (2, .int .i64 a2), (3, .int .i64 a3), (5, .pointer (some ⟨b2, 0, none⟩)), (9, .pointer (some ⟨b4, 0, none⟩)), (10, .pointer (some ⟨b6, 0, none⟩)), (34, .bool q18)] [Blk b2 67 [.int .i64 a0.f0, .int .i64 a0.f1, .slice A0_0 a0.f2.length c0_0], Ro k76 A0_0 c0_0 a0.f2, Blk b4 70 [.int .i64 a4.f0, .int .i64 a4.f1, .bool a4.f2, .bool a4.f3, .bool a4.f4, .bool a4.f5, .bool a4.f6, .bool a4.f7, .bool a4.f8, .bool a4.f9], Blk b6 67 [.int .i64 0, .int .i64 0, .slice none 0 0]] e ds As) ?_ ?_
  · by_cases h19 : q15 = true
    · replace H := g_ift h19 H
      refine RA_noB rfl rfl rfl rfl (h19) rfl ?_
      refine RA_noB rfl rfl rfl rfl (h19) rfl ?_
      refine RA_noB rfl rfl rfl rfl (h19) rfl ?_
      refine RA_step rfl (OA_v rfl (V_pickT rfl (h19) rfl) ?_)
      have hr_ := Option.some.inj H
      subst hr_
      refine RA_nil ?_
      exact at_normal (St.mk1 (aeq rfl (aeq rfl (aeq rfl (aeq rfl (aeq rfl (aeq rfl (aeq rfl aeq0))))))) (Gh.sel [0, 1, 2, 3] rfl rfl))
    replace H := g_iff h19 H
    refine RA_yesB rfl rfl rfl rfl (bno h19) (OA_r rfl (VR_loadA_blk (b := b4) (m := 0) (k := 2) (vs := [.int .i64 a4.f0, .int .i64 a4.f1, .bool a4.f2, .bool a4.f3, .bool a4.f4, .bool a4.f5, .bool a4.f6, .bool a4.f7, .bool a4.f8, .bool a4.f9]) Try.underlying70 rfl sz70 rfl rfl rfl) ?_)
    obtain ⟨r20, C21, H⟩ := g_bind H
    refine RA_yesB rfl rfl rfl rfl (bno h19) (OA_callA [] [0, 1, 2, 3] rfl (X_fn (vs := [.agg #[.int .i64 a4.f0, .int .i64 a4.f1, .bool a4.f2, .bool a4.f3, .bool a4.f4, .bool a4.f5, .bool a4.f6, .bool a4.f7, .bool a4.f8, .bool a4.f9]]) Try.func71 nm71 rfl rfl) rfl (F71.ok (a0 := a4) C21) rfl ?_)
    rintro _ _ ⟨rfl, rfl⟩
    refine RA_yesB rfl rfl rfl rfl (bno h19) (OA_v (v := .bool (!r20)) rfl (V_not rfl) ?_)
    refine RA_step rfl (OA_v rfl (V_pickF rfl (bno h19) rfl) ?_)
    have hr_ := Option.some.inj H
    subst hr_
    refine RA_nil ?_
    exact at_normal (St.mk1 (aeq rfl (aeq rfl (aeq rfl (aeq rfl (aeq rfl (aeq rfl (aeq rfl aeq0))))))) (Gh.sel [0, 1, 2, 3] rfl rfl))
  rintro e ds As hst22
  clear H
  have H := Bq18
  clear Bq18
  refine RA_nil ?_
  refine at_normal ?_
  refine SA.of_St hst22 fun junk => ?_
  by_cases h23 : q18 = true
  · replace H := g_ift h23 H
    refine SA_condTb rfl h23 ?_
    refine SA_seq ?_
    refine SA_region ?_
    refine RA_step rfl (OA_v (v := .agg #[.int .i64 0, .int .i64 0, .slice none 0 0]) rfl (V_build (cells := [.int .i64 0, .int .i64 0, .slice none 0 0]) zero67 Try.underlying67 plc67 (by kernel_rfl)) ?_)
    refine RA_step rfl (OA_st (b := b6) (m := 0) (k := 3) (vs := [.int .i64 0, .int .i64 0, .slice none 0 0]) (cs' := [.int .i64 0, .int .i64 0, .slice none 0 0]) rfl rfl rfl rfl rfl rfl sz67 rfl rfl ?_)
    refine RA_step rfl (OA_v (v := .int .i64 2) rfl (V_assign rfl) ?_)
    refine RA_nil ?_
    refine at_normal ?_
    refine SA_ret ?_
    refine thn_ret ?_
    have hr_ := Option.some.inj H
    subst hr_
    exact BQ_RL (rs := [.cell 10 67, .tmp 11]) (vs := [.agg #[.int .i64 0, .int .i64 0, .slice none 0 0], .int .i64 2]) [Buf k76 76 none 0 ([] : (List S76))] rfl ⟨RV.cell (k := 3) rfl rfl Try.underlying67 rfl sz67, RV.tmp rfl, trivial⟩ rfl ((Gh.nilBuf k76 76).trans (Gh.sel [4] rfl rfl)) ⟨none, 0, rfl, rfl⟩
  replace H := g_iff h23 H
  refine SA_condFb rfl h23 ?_
  refine SA_skip ?_
  refine at_normal ?_
  refine SA_seq ?_
  refine SA_region ?_
  refine RA_step rfl (OA_r rfl (VR_loadA_blk (b := b2) (m := 0) (k := 0) (vs := [.int .i64 a0.f0, .int .i64 a0.f1, .slice A0_0 a0.f2.length c0_0]) Try.underlying67 rfl sz67 rfl rfl rfl) ?_)
  obtain ⟨r25, C35, H⟩ := g_bind H
  refine RA_step rfl (OA_callA [1] [0, 1, 2, 3] rfl (X_fn (vs := [.agg #[.int .i64 a0.f0, .int .i64 a0.f1, .slice A0_0 a0.f2.length c0_0]]) Try.func72 nm72 rfl rfl) rfl (F72.ok (a0 := a0) (A0_0 := A0_0) (c0_0 := c0_0) C35) rfl ?_)
  rintro _ _ ⟨A26, c27, rfl, rfl⟩
  refine RA_step rfl (OA_st (b := b2) (m := 0) (k := 1) (vs := [.int .i64 r25.f0, .int .i64 r25.f1, .slice A26 r25.f2.length c27]) (cs' := [.int .i64 r25.f0, .int .i64 r25.f1, .slice A26 r25.f2.length c27]) rfl rfl rfl rfl rfl rfl sz67 rfl rfl ?_)
  refine RA_nil ?_
  refine at_normal ?_
  refine SA_seq ?_
  refine SA.fact (cap_of (k := 0) rfl) fun hc29 => ?_
  refine SA_region ?_
  refine RA_step rfl (OA_v (v := .int .i64 a1) rfl (V_move rfl) ?_)
  refine RA_step rfl (OA_v (v := .int .i64 a2) rfl (V_move rfl) ?_)
  refine RA_step rfl (OA_v (v := .int .i64 a3) rfl (V_move rfl) ?_)
  refine RA_step rfl (OA_r rfl (VR_loadA_blk (b := b4) (m := 0) (k := 3) (vs := [.int .i64 a4.f0, .int .i64 a4.f1, .bool a4.f2, .bool a4.f3, .bool a4.f4, .bool a4.f5, .bool a4.f6, .bool a4.f7, .bool a4.f8, .bool a4.f9]) Try.underlying70 rfl sz70 rfl rfl rfl) ?_)
  obtain ⟨r30, C34, H⟩ := g_bind H
  refine RA_step rfl (OA_callA [1, 0] [2, 3, 4] rfl (X_fn (vs := [.pointer (some ⟨b2, 0, none⟩), .int .i64 a1, .int .i64 a2, .int .i64 a3, .agg #[.int .i64 a4.f0, .int .i64 a4.f1, .bool a4.f2, .bool a4.f3, .bool a4.f4, .bool a4.f5, .bool a4.f6, .bool a4.f7, .bool a4.f8, .bool a4.f9]]) Try.func73 nm73 rfl rfl) rfl (F73b0.ok (b0_ := b2) (A0_0 := A26) (c0_0 := c27) (p0 := r25) (a1 := a1) (a2 := a2) (a3 := a3) (a4 := a4) C34) rfl ?_)
  rintro _ _ ⟨A31, c32, rfl, rfl⟩
  refine RA_nil ?_
  refine at_normal ?_
  refine SA_seq ?_
  refine SA_region ?_
  refine RA_step rfl (OA_r rfl (VR_loadA_blk (b := b2) (m := 0) (k := 0) (vs := [.int .i64 r30.f0, .int .i64 r30.f1, .slice A31 r30.f2.length c32]) Try.underlying67 rfl sz67 rfl rfl rfl) ?_)
  refine RA_step rfl (OA_st (b := b6) (m := 0) (k := 4) (vs := [.int .i64 r30.f0, .int .i64 r30.f1, .slice A31 r30.f2.length c32]) (cs' := [.int .i64 r30.f0, .int .i64 r30.f1, .slice A31 r30.f2.length c32]) rfl rfl rfl rfl rfl rfl sz67 rfl rfl ?_)
  refine RA_step rfl (OA_v (v := .int .i64 0) rfl (V_assign rfl) ?_)
  refine RA_nil ?_
  refine at_normal ?_
  refine SA_ret ?_
  have hr_ := Option.some.inj H
  subst hr_
  exact BQ_RL (rs := [.cell 10 67, .tmp 11]) (vs := [.agg #[.int .i64 r30.f0, .int .i64 r30.f1, .slice A31 r30.f2.length c32], .int .i64 0]) [Buf k76 76 A31 c32 r30.f2] rfl ⟨RV.cell (k := 4) rfl rfl Try.underlying67 rfl sz67, RV.tmp rfl, trivial⟩ rfl (Gh.sel [1] rfl rfl) ⟨A31, c32, rfl, rfl⟩
end Go.Proofs.Ytodkeoibebimgaa.Gr

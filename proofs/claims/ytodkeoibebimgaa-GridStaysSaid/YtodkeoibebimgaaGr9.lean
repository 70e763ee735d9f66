/- What functions compute, and that they do: 38, 39, 49, 50, 69, 91. -/
import Derived.Test.YtodkeoibebimgaaGr0
import Derived.Test.YtodkeoibebimgaaGr1
import Derived.Test.YtodkeoibebimgaaGr2
import Derived.Test.YtodkeoibebimgaaGr3
import Derived.Test.YtodkeoibebimgaaGr4
import Derived.Test.YtodkeoibebimgaaGr5
import Derived.Test.YtodkeoibebimgaaGr6
namespace Go.Proofs.Ytodkeoibebimgaa.Gr
open Go Go.RowKit Go.Proofs.Ytodkeoibebimgaa.SL
set_option linter.unusedVariables false
set_option linter.unusedSimpArgs false
attribute [local irreducible] IntKind.wrap minI maxI shrI shlI andI orI xorI andNotI cplI rd sub bytesOf strOf slA
/-! ### function 39: wayfarer/wayfarerref15.Scroll -/
def F39.l1 (a0 : S67) (a1 : Int) (a2 : Int) (a3 : Int) (a4 : S70) (r17 : S67) (x13_23 : Int) (z12_2_23 : (List S76)) : Nat → Int → (List S76) → Option ((List S76))
  | 0, _, _ => none
  | k + 1, x14_27, z12_2_27 => if z12_2_27.length = z12_2_23.length then (if x14_27 < a0.f0 then ((F70.f a4).bind (fun r31 => lt ((decide (a3 ≥ (IntKind.i64.wrap (0 - a0.f1)))) && (decide (a3 ≤ a0.f1))) fun q34 => lt (q34 && (decide ((IntKind.i64.wrap (x13_23 + a3)) ≥ a1))) fun q37 => lt (q37 && (decide ((IntKind.i64.wrap (x13_23 + a3)) ≤ a2))) fun q40 => (if q40 = true then ((F83.f a0 (IntKind.i64.wrap (x13_23 + a3))).bind (fun r47 => if 0 ≤ x14_27 ∧ x14_27 < (r47.length : Int) then (some (S76.mk ((rd r47 x14_27).f0) ((rd r47 x14_27).f1) ((rd r47 x14_27).f2) ((rd r47 x14_27).f3))) else none)) else (some r31) : Option (S76)).bind (fun t43 => (F83b0.f (S67.mk r17.f0 r17.f1 z12_2_27) x13_23).bind (fun r176 => if (0 ≤ r176.1 ∧ 0 ≤ r176.2 ∧ r176.1 + r176.2 ≤ (z12_2_27.length : Int)) then (if 0 ≤ x14_27 ∧ x14_27 < r176.2 then (lt (z12_2_27.set (r176.1 + x14_27).toNat t43) fun n416 => (lt (IntKind.i64.wrap (x14_27 + 1)) fun n477 => F39.l1 a0 a1 a2 a3 a4 r17 x13_23 z12_2_23 k n477 n416)) else none) else none)))) else (some z12_2_27)) else none
def F39.l0 (a0 : S67) (a1 : Int) (a2 : Int) (a3 : Int) (a4 : S70) (r17 : S67) : Nat → Int → (List S76) → Option ((List S76))
  | 0, _, _ => none
  | k + 1, x13_23, z12_2_23 => if z12_2_23.length = r17.f2.length then (if x13_23 ≤ a2 then ((F39.l1 a0 a1 a2 a3 a4 r17 x13_23 z12_2_23 k 0 z12_2_23 : Option ((List S76))).bind (fun t27 => if t27.length = z12_2_23.length then (lt (IntKind.i64.wrap (x13_23 + 1)) fun n481 => F39.l0 a0 a1 a2 a3 a4 r17 k n481 t27) else none)) else (some z12_2_23)) else none
def F39.f (k : Nat) (a0 : S67) (a1 : Int) (a2 : Int) (a3 : Int) (a4 : S70) : Option (S67 × Int) := (F82.f k a0 a4 a1).bind (fun r8 => lt (r8 || (decide (a2 < a1))) fun q9 => lt (q9 || (decide (a2 ≥ a0.f1))) fun q12 => if q12 = true then (some (((S67.mk 0 0 ([] : (List S76))), 2))) else ((F36.f a0).bind (fun r17 => (F39.l0 a0 a1 a2 a3 a4 r17 k a1 r17.f2 : Option ((List S76))).bind (fun t23 => if t23.length = r17.f2.length then (some (((S67.mk r17.f0 r17.f1 t23), 0))) else none))))
set_option maxHeartbeats 2000000 in
set_option maxRecDepth 100000 in
theorem F39.ok {k : Nat} {a0 : S67} {a1 : Int} {a2 : Int} {a3 : Int} {a4 : S70} {A0_0 : Option Addr} {c0_0 : Nat} {r : S67 × Int} (H : F39.f k a0 a1 a2 a3 a4 = some r) : SCA Try.prog 39 #[.agg #[.int .i64 a0.f0, .int .i64 a0.f1, .slice A0_0 a0.f2.length c0_0], .int .i64 a1, .int .i64 a2, .int .i64 a3, .agg #[.int .i64 a4.f0, .int .i64 a4.f1, .bool a4.f2, .bool a4.f3, .bool a4.f4, .bool a4.f5, .bool a4.f6, .bool a4.f7, .bool a4.f8, .bool a4.f9]] [Ro k76 A0_0 c0_0 a0.f2] (fun v B => ∃ (A0_0_ : Option Addr) (c0_0_ : Nat), v = .tuple #[.agg #[.int .i64 r.1.f0, .int .i64 r.1.f1, .slice A0_0_ r.1.f2.length c0_0_], .int .i64 r.2] ∧ B = [Buf k76 76 A0_0_ c0_0_ r.1.f2]) := by
  refine SCA_of_body Try.func39 rfl rfl ?_
  unfold F39.f at H
  refine SA_seq ?_
  refine SA_region ?_
  refine RA_step rfl (OA_box rfl rfl fun b2 => ?_)
  refine RA_step rfl (OA_box rfl rfl fun b4 => ?_)
  refine RA_step rfl (OA_alloc rfl zero67 fun b6 => ?_)
  refine RA_step rfl (OA_v (v := .int .i64 0) rfl (V_assign rfl) ?_)
  refine RA_nil ?_
  refine at_normal ?_
  refine SA_seq ?_
  refine SA_seq ?_
  refine SA_region ?_
  refine RA_step rfl (OA_r rfl (VR_loadA_blk (b := b2) (m := 0) (k := 1) (vs := [.int .i64 a0.f0, .int .i64 a0.f1, .slice A0_0 a0.f2.length c0_0]) Try.underlying67 rfl sz67 rfl rfl rfl) ?_)
  refine RA_step rfl (OA_r rfl (VR_loadA_blk (b := b4) (m := 0) (k := 2) (vs := [.int .i64 a4.f0, .int .i64 a4.f1, .bool a4.f2, .bool a4.f3, .bool a4.f4, .bool a4.f5, .bool a4.f6, .bool a4.f7, .bool a4.f8, .bool a4.f9]) Try.underlying70 rfl sz70 rfl rfl rfl) ?_)
  refine RA_step rfl (OA_v (v := .int .i64 a1) rfl (V_move rfl) ?_)
  obtain ⟨r8, C487, H⟩ := g_bind H
  refine RA_step rfl (OA_callA [0] [0, 1, 2, 3] rfl (X_fn (vs := [.agg #[.int .i64 a0.f0, .int .i64 a0.f1, .slice A0_0 a0.f2.length c0_0], .agg #[.int .i64 a4.f0, .int .i64 a4.f1, .bool a4.f2, .bool a4.f3, .bool a4.f4, .bool a4.f5, .bool a4.f6, .bool a4.f7, .bool a4.f8, .bool a4.f9], .int .i64 a1]) Try.func82 nm82 rfl rfl) rfl (F82.ok (a0 := a0) (A0_0 := A0_0) (c0_0 := c0_0) (a1 := a4) (a2 := a1) C487) rfl ?_)
  rintro _ _ ⟨rfl, rfl⟩
  refine RA_step rfl (OA_v (v := .bool r8) rfl (V_move rfl) ?_)
  obtain ⟨q9, hq9, H⟩ := g_lt H
  refine RA_cut 4 (fun e ds As => St [(1, .int .i64 a1), (2, .int .i64 a2), (3, .int .i64 a3), (5, .pointer (some ⟨b2, 0, none⟩)), (9, .pointer (some ⟨b4, 0, none⟩)), (10, .pointer (some ⟨b6, 0, none⟩)), (24, .bool q9)] [Blk b2 67 [.int .i64 a0.f0, .int .i64 a0.f1, .slice A0_0 a0.f2.length c0_0], Ro k76 A0_0 c0_0 a0.f2, Blk b4 70 [.int .i64 a4.f0, .int .i64 a4.f1, .bool a4.f2, .bool a4.f3, .bool a4.f4, .bool a4.f5, .bool a4.f6, .bool a4.f7, .bool a4.f8, .bool a4.f9], Blk b6 67 [.int .i64 0, .int .i64 0, .slice none 0 0]] e ds As) ?_ ?_
  · by_cases h10 : r8 = true
    · refine RA_noB rfl rfl rfl rfl (h10) rfl ?_
      refine RA_noB rfl rfl rfl rfl (h10) rfl ?_
      refine RA_noB rfl rfl rfl rfl (h10) rfl ?_
      refine RA_step rfl (OA_v rfl (V_pickT rfl (h10) rfl) ?_)
      refine RA_nil ?_
      exact at_normal (St.mk1 (aeq rfl (aeq rfl (aeq rfl (aeq rfl (aeq rfl (aeq rfl (aeq (congrArg Value.bool (or_t hq9 (h10))) aeq0))))))) (Gh.sel [1, 0, 2, 3] rfl rfl))
    refine RA_yesB rfl rfl rfl rfl (bno h10) (OA_v (v := .int .i64 a2) rfl (V_move rfl) ?_)
    refine RA_yesB rfl rfl rfl rfl (bno h10) (OA_v (v := .int .i64 a1) rfl (V_move rfl) ?_)
    refine RA_yesB rfl rfl rfl rfl (bno h10) (OA_v (v := .bool (decide (a2 < a1))) rfl (V_lss rfl rfl) ?_)
    refine RA_step rfl (OA_v rfl (V_pickF rfl (bno h10) rfl) ?_)
    refine RA_nil ?_
    exact at_normal (St.mk1 (aeq rfl (aeq rfl (aeq rfl (aeq rfl (aeq rfl (aeq rfl (aeq (congrArg Value.bool (or_f hq9 (bno h10))) aeq0))))))) (Gh.sel [1, 0, 2, 3] rfl rfl))
  rintro e ds As hst11
  refine RA.of_St rfl hst11 fun junk => ?_
  refine RA_step rfl (OA_v (v := .bool q9) rfl (V_move rfl) ?_)
  obtain ⟨q12, hq12, H⟩ := g_lt H
  refine RA_cut 5 (fun e ds As => St [(1, .int .i64 a1), (2, .int .i64 a2), (3, .int .i64 a3), (5, .pointer (some ⟨b2, 0, none⟩)), (9, .pointer (some ⟨b4, 0, none⟩)), (10, .pointer (some ⟨b6, 0, none⟩)), (30, .bool q12)] [Blk b2 67 [.int .i64 a0.f0, .int .i64 a0.f1, .slice A0_0 a0.f2.length c0_0], Ro k76 A0_0 c0_0 a0.f2, Blk b4 70 [.int .i64 a4.f0, .int .i64 a4.f1, .bool a4.f2, .bool a4.f3, .bool a4.f4, .bool a4.f5, .bool a4.f6, .bool a4.f7, .bool a4.f8, .bool a4.f9], Blk b6 67 [.int .i64 0, .int .i64 0, .slice none 0 0]] e ds As) ?_ ?_
  · by_cases h13 : q9 = true
    · refine RA_noB rfl rfl rfl rfl (h13) rfl ?_
      refine RA_noB rfl rfl rfl rfl (h13) rfl ?_
      refine RA_noB rfl rfl rfl rfl (h13) rfl ?_
      refine RA_noB rfl rfl rfl rfl (h13) rfl ?_
      refine RA_step rfl (OA_v rfl (V_pickT rfl (h13) rfl) ?_)
      refine RA_nil ?_
      exact at_normal (St.mk1 (aeq rfl (aeq rfl (aeq rfl (aeq rfl (aeq rfl (aeq rfl (aeq (congrArg Value.bool (or_t hq12 (h13))) aeq0))))))) (Gh.sel [0, 1, 2, 3] rfl rfl))
    refine RA_yesB rfl rfl rfl rfl (bno h13) (OA_v (v := .int .i64 a2) rfl (V_move rfl) ?_)
    refine RA_yesB rfl rfl rfl rfl (bno h13) (OA_v (v := .pointer (some ((⟨b2, 0, none⟩ : Addr).add 1))) rfl (V_fieldAddrN (B := ⟨b2, 0, none⟩) (m := 0) (o := 1) Try.underlying67 rfl nz3 rfl rfl) ?_)
    refine RA_yesB rfl rfl rfl rfl (bno h13) (OA_r rfl (VR_load_blk (b := b2) (m := 1) (k := 0) Try.underlying3 rfl rfl rfl rfl) ?_)
    refine RA_yesB rfl rfl rfl rfl (bno h13) (OA_v (v := .bool (decide (a2 ≥ a0.f1))) rfl (V_geq rfl rfl) ?_)
    refine RA_step rfl (OA_v rfl (V_pickF rfl (bno h13) rfl) ?_)
    refine RA_nil ?_
    exact at_normal (St.mk1 (aeq rfl (aeq rfl (aeq rfl (aeq rfl (aeq rfl (aeq rfl (aeq (congrArg Value.bool (or_f hq12 (bno h13))) aeq0))))))) (Gh.sel [0, 1, 2, 3] rfl rfl))
  rintro e ds As hst14
  refine RA_nil ?_
  refine at_normal ?_
  refine SA.of_St hst14 fun junk => ?_
  by_cases h15 : q12 = true
  · replace H := g_ift h15 H
    refine SA_condTb rfl h15 ?_
    refine SA_seq ?_
    refine SA_region ?_
    refine RA_step rfl (OA_v (v := .agg #[.int .i64 0, .int .i64 0, .slice none 0 0]) rfl (V_build (cells := [.int .i64 0, .int .i64 0, .slice none 0 0]) zero67 Try.underlying67 plc67 (by kernel_rfl)) ?_)
    refine RA_step rfl (OA_st (b := b6) (m := 0) (k := 3) (vs := [.int .i64 0, .int .i64 0, .slice none 0 0]) (cs' := [.int .i64 0, .int .i64 0, .slice none 0 0]) rfl rfl rfl rfl rfl rfl sz67 rfl rfl ?_)
    refine RA_step rfl (OA_v (v := .int .i64 2) rfl (V_assign rfl) ?_)
    refine RA_nil ?_
    refine at_normal ?_
    refine SA_ret ?_
    refine thn_ret ?_
    have hr_ := Option.some.inj H
    subst hr_
    exact BQ_RL (rs := [.cell 10 67, .tmp 11]) (vs := [.agg #[.int .i64 0, .int .i64 0, .slice none 0 0], .int .i64 2]) [Buf k76 76 none 0 ([] : (List S76))] rfl ⟨RV.cell (k := 3) rfl rfl Try.underlying67 rfl sz67, RV.tmp rfl, trivial⟩ rfl ((Gh.nilBuf k76 76).trans (Gh.sel [4] rfl rfl)) ⟨none, 0, rfl, rfl⟩
  replace H := g_iff h15 H
  refine SA_condFb rfl h15 ?_
  refine SA_skip ?_
  refine at_normal ?_
  refine SA_seq ?_
  refine SA_region ?_
  refine RA_step rfl (OA_r rfl (VR_loadA_blk (b := b2) (m := 0) (k := 0) (vs := [.int .i64 a0.f0, .int .i64 a0.f1, .slice A0_0 a0.f2.length c0_0]) Try.underlying67 rfl sz67 rfl rfl rfl) ?_)
  obtain ⟨r17, C486, H⟩ := g_bind H
  refine RA_step rfl (OA_callA [1] [0, 1, 2, 3] rfl (X_fn (vs := [.agg #[.int .i64 a0.f0, .int .i64 a0.f1, .slice A0_0 a0.f2.length c0_0]]) Try.func36 nm36 rfl rfl) rfl (F36.ok (a0 := a0) (A0_0 := A0_0) (c0_0 := c0_0) C486) rfl ?_)
  rintro _ _ ⟨A18, c19, rfl, rfl⟩
  refine RA_step rfl (OA_alloc rfl zero67 fun b21 => ?_)
  refine RA_step rfl (OA_st (b := b21) (m := 0) (k := 5) (vs := [.int .i64 r17.f0, .int .i64 r17.f1, .slice A18 r17.f2.length c19]) (cs' := [.int .i64 r17.f0, .int .i64 r17.f1, .slice A18 r17.f2.length c19]) rfl rfl rfl rfl rfl rfl sz67 rfl rfl ?_)
  refine RA_nil ?_
  refine at_normal ?_
  refine SA_seq ?_
  refine SA_seq ?_
  refine SA_region ?_
  refine RA_step rfl (OA_v (v := .int .i64 a1) rfl (V_move rfl) ?_)
  refine RA_step rfl (OA_v (v := .int .i64 a1) rfl (V_assign rfl) ?_)
  refine RA_nil ?_
  refine at_normal ?_
  obtain ⟨t23, H, Bt23⟩ := g_bind H
  refine SA_mid (fun e ds As => St [(10, .pointer (some ⟨b6, 0, none⟩)), (12, .pointer (some ⟨b21, 0, none⟩))] [Blk b6 67 [.int .i64 0, .int .i64 0, .slice none 0 0], Blk b21 67 [.int .i64 r17.f0, .int .i64 r17.f1, .slice A18 t23.length c19], Buf k76 76 A18 c19 t23] e ds As) ?_ ?_
  · refine SA_block ?_
    refine SA_loop (fun k_ e ds As => ∃ (x13_23 : Int) (z12_2_23 : (List S76)), F39.l0 a0 a1 a2 a3 a4 r17 k_ x13_23 z12_2_23 = some t23 ∧ St [(1, .int .i64 a1), (2, .int .i64 a2), (3, .int .i64 a3), (5, .pointer (some ⟨b2, 0, none⟩)), (9, .pointer (some ⟨b4, 0, none⟩)), (10, .pointer (some ⟨b6, 0, none⟩)), (12, .pointer (some ⟨b21, 0, none⟩)), (13, .int .i64 x13_23)] [Blk b2 67 [.int .i64 a0.f0, .int .i64 a0.f1, .slice A0_0 a0.f2.length c0_0], Ro k76 A0_0 c0_0 a0.f2, Blk b4 70 [.int .i64 a4.f0, .int .i64 a4.f1, .bool a4.f2, .bool a4.f3, .bool a4.f4, .bool a4.f5, .bool a4.f6, .bool a4.f7, .bool a4.f8, .bool a4.f9], Blk b6 67 [.int .i64 0, .int .i64 0, .slice none 0 0], Blk b21 67 [.int .i64 r17.f0, .int .i64 r17.f1, .slice A18 z12_2_23.length c19], Buf k76 76 A18 c19 z12_2_23] e ds As) (k := k) ⟨_, _, H, St.mk1 (aeq rfl (aeq rfl (aeq rfl (aeq rfl (aeq rfl (aeq rfl (aeq rfl (aeq rfl aeq0)))))))) (Gh.sel [1, 2, 3, 4, 5, 0] rfl rfl)⟩ ?_
    clear H
    rintro k24 e ds As ⟨x13_23, z12_2_23, H, hst25⟩
    obtain _ | k24 := k24
    · cases H
    rw [F39.l0] at H
    obtain ⟨hl483, H⟩ := g_pos H
    refine SA.of_St hst25 fun junk => ?_
    refine SA_seq ?_
    refine SA_seq ?_
    refine SA_region ?_
    refine RA_step rfl (OA_v (v := .int .i64 x13_23) rfl (V_move rfl) ?_)
    refine RA_step rfl (OA_v (v := .int .i64 a2) rfl (V_move rfl) ?_)
    refine RA_step rfl (OA_v (v := .bool (decide (x13_23 ≤ a2))) rfl (V_leq rfl rfl) ?_)
    refine RA_nil ?_
    refine at_normal ?_
    by_cases h26 : x13_23 ≤ a2
    · replace H := g_ift h26 H
      refine SA_condT rfl h26 ?_
      refine SA_skip ?_
      refine at_normal ?_
      refine SA_seq ?_
      refine SA_block ?_
      refine SA_seq ?_
      refine SA_region ?_
      refine RA_step rfl (OA_v (v := .int .i64 0) rfl (V_assign rfl) ?_)
      refine RA_nil ?_
      refine at_normal ?_
      obtain ⟨t27, H, Bt27⟩ := g_bind H
      refine SA_mid (fun e ds As => St [(1, .int .i64 a1), (2, .int .i64 a2), (3, .int .i64 a3), (5, .pointer (some ⟨b2, 0, none⟩)), (9, .pointer (some ⟨b4, 0, none⟩)), (10, .pointer (some ⟨b6, 0, none⟩)), (12, .pointer (some ⟨b21, 0, none⟩)), (13, .int .i64 x13_23)] [Blk b2 67 [.int .i64 a0.f0, .int .i64 a0.f1, .slice A0_0 a0.f2.length c0_0], Ro k76 A0_0 c0_0 a0.f2, Blk b4 70 [.int .i64 a4.f0, .int .i64 a4.f1, .bool a4.f2, .bool a4.f3, .bool a4.f4, .bool a4.f5, .bool a4.f6, .bool a4.f7, .bool a4.f8, .bool a4.f9], Blk b6 67 [.int .i64 0, .int .i64 0, .slice none 0 0], Blk b21 67 [.int .i64 r17.f0, .int .i64 r17.f1, .slice A18 t27.length c19], Buf k76 76 A18 c19 t27] e ds As) ?_ ?_
      · refine SA_block ?_
        refine SA_loop (fun k_ e ds As => ∃ (x14_27 : Int) (z12_2_27 : (List S76)), F39.l1 a0 a1 a2 a3 a4 r17 x13_23 z12_2_23 k_ x14_27 z12_2_27 = some t27 ∧ St [(1, .int .i64 a1), (2, .int .i64 a2), (3, .int .i64 a3), (5, .pointer (some ⟨b2, 0, none⟩)), (9, .pointer (some ⟨b4, 0, none⟩)), (10, .pointer (some ⟨b6, 0, none⟩)), (12, .pointer (some ⟨b21, 0, none⟩)), (13, .int .i64 x13_23), (14, .int .i64 x14_27)] [Blk b2 67 [.int .i64 a0.f0, .int .i64 a0.f1, .slice A0_0 a0.f2.length c0_0], Ro k76 A0_0 c0_0 a0.f2, Blk b4 70 [.int .i64 a4.f0, .int .i64 a4.f1, .bool a4.f2, .bool a4.f3, .bool a4.f4, .bool a4.f5, .bool a4.f6, .bool a4.f7, .bool a4.f8, .bool a4.f9], Blk b6 67 [.int .i64 0, .int .i64 0, .slice none 0 0], Blk b21 67 [.int .i64 r17.f0, .int .i64 r17.f1, .slice A18 z12_2_27.length c19], Buf k76 76 A18 c19 z12_2_27] e ds As) (k := k24) ⟨_, _, H, St.mk1 (aeq rfl (aeq rfl (aeq rfl (aeq rfl (aeq rfl (aeq rfl (aeq rfl (aeq rfl (aeq rfl aeq0))))))))) (Gh.sel [0, 1, 2, 3, 4, 5] rfl rfl)⟩ ?_
        clear H
        rintro k28 e ds As ⟨x14_27, z12_2_27, H, hst29⟩
        obtain _ | k28 := k28
        · cases H
        rw [F39.l1] at H
        obtain ⟨hl479, H⟩ := g_pos H
        refine SA.of_St hst29 fun junk => ?_
        refine SA_seq ?_
        refine SA_seq ?_
        refine SA_region ?_
        refine RA_step rfl (OA_v (v := .int .i64 x14_27) rfl (V_move rfl) ?_)
        refine RA_step rfl (OA_v (v := .pointer (some ⟨b2, 0, none⟩)) rfl (V_fieldAddrN (B := ⟨b2, 0, none⟩) (m := 0) (o := 0) Try.underlying67 rfl nz3 rfl rfl) ?_)
        refine RA_step rfl (OA_r rfl (VR_load_blk (b := b2) (m := 0) (k := 0) Try.underlying3 rfl rfl rfl rfl) ?_)
        refine RA_step rfl (OA_v (v := .bool (decide (x14_27 < a0.f0))) rfl (V_lss rfl rfl) ?_)
        refine RA_nil ?_
        refine at_normal ?_
        by_cases h30 : x14_27 < a0.f0
        · replace H := g_ift h30 H
          refine SA_condT rfl h30 ?_
          refine SA_skip ?_
          refine at_normal ?_
          refine SA_seq ?_
          refine SA_block ?_
          refine SA_seq ?_
          refine SA_region ?_
          refine RA_step rfl (OA_r rfl (VR_loadA_blk (b := b4) (m := 0) (k := 2) (vs := [.int .i64 a4.f0, .int .i64 a4.f1, .bool a4.f2, .bool a4.f3, .bool a4.f4, .bool a4.f5, .bool a4.f6, .bool a4.f7, .bool a4.f8, .bool a4.f9]) Try.underlying70 rfl sz70 rfl rfl rfl) ?_)
          obtain ⟨r31, C478, H⟩ := g_bind H
          refine RA_step rfl (OA_callA [] [0, 1, 2, 3, 4, 5] rfl (X_fn (vs := [.agg #[.int .i64 a4.f0, .int .i64 a4.f1, .bool a4.f2, .bool a4.f3, .bool a4.f4, .bool a4.f5, .bool a4.f6, .bool a4.f7, .bool a4.f8, .bool a4.f9]]) Try.func70 nm70 rfl rfl) rfl (F70.ok (a0 := a4) C478) rfl ?_)
          rintro _ _ ⟨rfl, rfl⟩
          refine RA_step rfl (OA_alloc rfl zero76 fun b32 => ?_)
          refine RA_step rfl (OA_st (b := b32) (m := 0) (k := 6) (vs := (.int .i32 r31.f0 :: .int .i32 r31.f1.f0 :: .int .i32 r31.f1.f1 :: .int .i32 r31.f1.f2 :: .int .u8 r31.f2 :: .int .i64 r31.f3.f0 :: .int .i64 r31.f3.f1 :: .bool r31.f3.f2 :: .bool r31.f3.f3 :: .bool r31.f3.f4 :: .bool r31.f3.f5 :: .bool r31.f3.f6 :: .bool r31.f3.f7 :: .bool r31.f3.f8 :: .bool r31.f3.f9 :: [])) (cs' := (.int .i32 r31.f0 :: .int .i32 r31.f1.f0 :: .int .i32 r31.f1.f1 :: .int .i32 r31.f1.f2 :: .int .u8 r31.f2 :: .int .i64 r31.f3.f0 :: .int .i64 r31.f3.f1 :: .bool r31.f3.f2 :: .bool r31.f3.f3 :: .bool r31.f3.f4 :: .bool r31.f3.f5 :: .bool r31.f3.f6 :: .bool r31.f3.f7 :: .bool r31.f3.f8 :: .bool r31.f3.f9 :: [])) rfl rfl rfl rfl rfl rfl sz76 rfl rfl ?_)
          refine RA_nil ?_
          refine at_normal ?_
          refine SA_seq ?_
          refine SA_seq ?_
          refine SA_region ?_
          refine RA_step rfl (OA_v (v := .int .i64 a3) rfl (V_move rfl) ?_)
          refine RA_step rfl (OA_v (v := .pointer (some ((⟨b2, 0, none⟩ : Addr).add 1))) rfl (V_fieldAddrN (B := ⟨b2, 0, none⟩) (m := 0) (o := 1) Try.underlying67 rfl nz3 rfl rfl) ?_)
          refine RA_step rfl (OA_r rfl (VR_load_blk (b := b2) (m := 1) (k := 0) Try.underlying3 rfl rfl rfl rfl) ?_)
          refine RA_step rfl (OA_v (v := .int .i64 (IntKind.i64.wrap (0 - a0.f1))) rfl (V_neg rfl) ?_)
          refine RA_step rfl (OA_v (v := .bool (decide (a3 ≥ (IntKind.i64.wrap (0 - a0.f1))))) rfl (V_geq rfl rfl) ?_)
          refine RA_step rfl (OA_v (v := .bool (decide (a3 ≥ (IntKind.i64.wrap (0 - a0.f1))))) rfl (V_move rfl) ?_)
          obtain ⟨q34, hq34, H⟩ := g_lt H
          refine RA_cut 5 (fun e ds As => St [(1, .int .i64 a1), (2, .int .i64 a2), (3, .int .i64 a3), (5, .pointer (some ⟨b2, 0, none⟩)), (9, .pointer (some ⟨b4, 0, none⟩)), (10, .pointer (some ⟨b6, 0, none⟩)), (12, .pointer (some ⟨b21, 0, none⟩)), (13, .int .i64 x13_23), (14, .int .i64 x14_27), (15, .pointer (some ⟨b32, 0, none⟩)), (58, .bool q34)] [Blk b2 67 [.int .i64 a0.f0, .int .i64 a0.f1, .slice A0_0 a0.f2.length c0_0], Ro k76 A0_0 c0_0 a0.f2, Blk b4 70 [.int .i64 a4.f0, .int .i64 a4.f1, .bool a4.f2, .bool a4.f3, .bool a4.f4, .bool a4.f5, .bool a4.f6, .bool a4.f7, .bool a4.f8, .bool a4.f9], Blk b6 67 [.int .i64 0, .int .i64 0, .slice none 0 0], Blk b21 67 [.int .i64 r17.f0, .int .i64 r17.f1, .slice A18 z12_2_27.length c19], Buf k76 76 A18 c19 z12_2_27, Blk b32 76 (.int .i32 r31.f0 :: .int .i32 r31.f1.f0 :: .int .i32 r31.f1.f1 :: .int .i32 r31.f1.f2 :: .int .u8 r31.f2 :: .int .i64 r31.f3.f0 :: .int .i64 r31.f3.f1 :: .bool r31.f3.f2 :: .bool r31.f3.f3 :: .bool r31.f3.f4 :: .bool r31.f3.f5 :: .bool r31.f3.f6 :: .bool r31.f3.f7 :: .bool r31.f3.f8 :: .bool r31.f3.f9 :: [])] e ds As) ?_ ?_
          · by_cases h35 : a3 ≥ (IntKind.i64.wrap (0 - a0.f1))
            · refine RA_yesB rfl rfl rfl rfl (dec_t h35) (OA_v (v := .int .i64 a3) rfl (V_move rfl) ?_)
              refine RA_yesB rfl rfl rfl rfl (dec_t h35) (OA_v (v := .pointer (some ((⟨b2, 0, none⟩ : Addr).add 1))) rfl (V_fieldAddrN (B := ⟨b2, 0, none⟩) (m := 0) (o := 1) Try.underlying67 rfl nz3 rfl rfl) ?_)
              refine RA_yesB rfl rfl rfl rfl (dec_t h35) (OA_r rfl (VR_load_blk (b := b2) (m := 1) (k := 0) Try.underlying3 rfl rfl rfl rfl) ?_)
              refine RA_yesB rfl rfl rfl rfl (dec_t h35) (OA_v (v := .bool (decide (a3 ≤ a0.f1))) rfl (V_leq rfl rfl) ?_)
              refine RA_step rfl (OA_v rfl (V_pickT rfl (dec_t h35) rfl) ?_)
              refine RA_nil ?_
              exact at_normal (St.mk1 (aeq rfl (aeq rfl (aeq rfl (aeq rfl (aeq rfl (aeq rfl (aeq rfl (aeq rfl (aeq rfl (aeq rfl (aeq (congrArg Value.bool (and_t hq34 (dec_t h35))) aeq0))))))))))) (Gh.sel [0, 1, 2, 3, 4, 5, 6] rfl rfl))
            refine RA_noB rfl rfl rfl rfl (dec_f h35) rfl ?_
            refine RA_noB rfl rfl rfl rfl (dec_f h35) rfl ?_
            refine RA_noB rfl rfl rfl rfl (dec_f h35) rfl ?_
            refine RA_noB rfl rfl rfl rfl (dec_f h35) rfl ?_
            refine RA_step rfl (OA_v rfl (V_pickF rfl (dec_f h35) rfl) ?_)
            refine RA_nil ?_
            exact at_normal (St.mk1 (aeq rfl (aeq rfl (aeq rfl (aeq rfl (aeq rfl (aeq rfl (aeq rfl (aeq rfl (aeq rfl (aeq rfl (aeq (congrArg Value.bool (and_f hq34 (dec_f h35))) aeq0))))))))))) (Gh.sel [0, 1, 2, 3, 4, 5, 6] rfl rfl))
          rintro e ds As hst36
          refine RA.of_St rfl hst36 fun junk => ?_
          refine RA_step rfl (OA_v (v := .bool q34) rfl (V_move rfl) ?_)
          obtain ⟨q37, hq37, H⟩ := g_lt H
          refine RA_cut 6 (fun e ds As => St [(1, .int .i64 a1), (2, .int .i64 a2), (3, .int .i64 a3), (5, .pointer (some ⟨b2, 0, none⟩)), (9, .pointer (some ⟨b4, 0, none⟩)), (10, .pointer (some ⟨b6, 0, none⟩)), (12, .pointer (some ⟨b21, 0, none⟩)), (13, .int .i64 x13_23), (14, .int .i64 x14_27), (15, .pointer (some ⟨b32, 0, none⟩)), (65, .bool q37)] [Blk b2 67 [.int .i64 a0.f0, .int .i64 a0.f1, .slice A0_0 a0.f2.length c0_0], Ro k76 A0_0 c0_0 a0.f2, Blk b4 70 [.int .i64 a4.f0, .int .i64 a4.f1, .bool a4.f2, .bool a4.f3, .bool a4.f4, .bool a4.f5, .bool a4.f6, .bool a4.f7, .bool a4.f8, .bool a4.f9], Blk b6 67 [.int .i64 0, .int .i64 0, .slice none 0 0], Blk b21 67 [.int .i64 r17.f0, .int .i64 r17.f1, .slice A18 z12_2_27.length c19], Buf k76 76 A18 c19 z12_2_27, Blk b32 76 (.int .i32 r31.f0 :: .int .i32 r31.f1.f0 :: .int .i32 r31.f1.f1 :: .int .i32 r31.f1.f2 :: .int .u8 r31.f2 :: .int .i64 r31.f3.f0 :: .int .i64 r31.f3.f1 :: .bool r31.f3.f2 :: .bool r31.f3.f3 :: .bool r31.f3.f4 :: .bool r31.f3.f5 :: .bool r31.f3.f6 :: .bool r31.f3.f7 :: .bool r31.f3.f8 :: .bool r31.f3.f9 :: [])] e ds As) ?_ ?_
          · by_cases h38 : q34 = true
            · refine RA_yesB rfl rfl rfl rfl (h38) (OA_v (v := .int .i64 x13_23) rfl (V_move rfl) ?_)
              refine RA_yesB rfl rfl rfl rfl (h38) (OA_v (v := .int .i64 a3) rfl (V_move rfl) ?_)
              refine RA_yesB rfl rfl rfl rfl (h38) (OA_v (v := .int .i64 (IntKind.i64.wrap (x13_23 + a3))) rfl (V_add rfl rfl) ?_)
              refine RA_yesB rfl rfl rfl rfl (h38) (OA_v (v := .int .i64 a1) rfl (V_move rfl) ?_)
              refine RA_yesB rfl rfl rfl rfl (h38) (OA_v (v := .bool (decide ((IntKind.i64.wrap (x13_23 + a3)) ≥ a1))) rfl (V_geq rfl rfl) ?_)
              refine RA_step rfl (OA_v rfl (V_pickT rfl (h38) rfl) ?_)
              refine RA_nil ?_
              exact at_normal (St.mk1 (aeq rfl (aeq rfl (aeq rfl (aeq rfl (aeq rfl (aeq rfl (aeq rfl (aeq rfl (aeq rfl (aeq rfl (aeq (congrArg Value.bool (and_t hq37 (h38))) aeq0))))))))))) (Gh.sel [0, 1, 2, 3, 4, 5, 6] rfl rfl))
            refine RA_noB rfl rfl rfl rfl (bno h38) rfl ?_
            refine RA_noB rfl rfl rfl rfl (bno h38) rfl ?_
            refine RA_noB rfl rfl rfl rfl (bno h38) rfl ?_
            refine RA_noB rfl rfl rfl rfl (bno h38) rfl ?_
            refine RA_noB rfl rfl rfl rfl (bno h38) rfl ?_
            refine RA_step rfl (OA_v rfl (V_pickF rfl (bno h38) rfl) ?_)
            refine RA_nil ?_
            exact at_normal (St.mk1 (aeq rfl (aeq rfl (aeq rfl (aeq rfl (aeq rfl (aeq rfl (aeq rfl (aeq rfl (aeq rfl (aeq rfl (aeq (congrArg Value.bool (and_f hq37 (bno h38))) aeq0))))))))))) (Gh.sel [0, 1, 2, 3, 4, 5, 6] rfl rfl))
          rintro e ds As hst39
          refine RA.of_St rfl hst39 fun junk => ?_
          refine RA_step rfl (OA_v (v := .bool q37) rfl (V_move rfl) ?_)
          obtain ⟨q40, hq40, H⟩ := g_lt H
          refine RA_cut 6 (fun e ds As => St [(1, .int .i64 a1), (2, .int .i64 a2), (3, .int .i64 a3), (5, .pointer (some ⟨b2, 0, none⟩)), (9, .pointer (some ⟨b4, 0, none⟩)), (10, .pointer (some ⟨b6, 0, none⟩)), (12, .pointer (some ⟨b21, 0, none⟩)), (13, .int .i64 x13_23), (14, .int .i64 x14_27), (15, .pointer (some ⟨b32, 0, none⟩)), (72, .bool q40)] [Blk b2 67 [.int .i64 a0.f0, .int .i64 a0.f1, .slice A0_0 a0.f2.length c0_0], Ro k76 A0_0 c0_0 a0.f2, Blk b4 70 [.int .i64 a4.f0, .int .i64 a4.f1, .bool a4.f2, .bool a4.f3, .bool a4.f4, .bool a4.f5, .bool a4.f6, .bool a4.f7, .bool a4.f8, .bool a4.f9], Blk b6 67 [.int .i64 0, .int .i64 0, .slice none 0 0], Blk b21 67 [.int .i64 r17.f0, .int .i64 r17.f1, .slice A18 z12_2_27.length c19], Buf k76 76 A18 c19 z12_2_27, Blk b32 76 (.int .i32 r31.f0 :: .int .i32 r31.f1.f0 :: .int .i32 r31.f1.f1 :: .int .i32 r31.f1.f2 :: .int .u8 r31.f2 :: .int .i64 r31.f3.f0 :: .int .i64 r31.f3.f1 :: .bool r31.f3.f2 :: .bool r31.f3.f3 :: .bool r31.f3.f4 :: .bool r31.f3.f5 :: .bool r31.f3.f6 :: .bool r31.f3.f7 :: .bool r31.f3.f8 :: .bool r31.f3.f9 :: [])] e ds As) ?_ ?_
          · by_cases h41 : q37 = true
            · refine RA_yesB rfl rfl rfl rfl (h41) (OA_v (v := .int .i64 x13_23) rfl (V_move rfl) ?_)
              refine RA_yesB rfl rfl rfl rfl (h41) (OA_v (v := .int .i64 a3) rfl (V_move rfl) ?_)
              refine RA_yesB rfl rfl rfl rfl (h41) (OA_v (v := .int .i64 (IntKind.i64.wrap (x13_23 + a3))) rfl (V_add rfl rfl) ?_)
              refine RA_yesB rfl rfl rfl rfl (h41) (OA_v (v := .int .i64 a2) rfl (V_move rfl) ?_)
              refine RA_yesB rfl rfl rfl rfl (h41) (OA_v (v := .bool (decide ((IntKind.i64.wrap (x13_23 + a3)) ≤ a2))) rfl (V_leq rfl rfl) ?_)
              refine RA_step rfl (OA_v rfl (V_pickT rfl (h41) rfl) ?_)
              refine RA_nil ?_
              exact at_normal (St.mk1 (aeq rfl (aeq rfl (aeq rfl (aeq rfl (aeq rfl (aeq rfl (aeq rfl (aeq rfl (aeq rfl (aeq rfl (aeq (congrArg Value.bool (and_t hq40 (h41))) aeq0))))))))))) (Gh.sel [0, 1, 2, 3, 4, 5, 6] rfl rfl))
            refine RA_noB rfl rfl rfl rfl (bno h41) rfl ?_
            refine RA_noB rfl rfl rfl rfl (bno h41) rfl ?_
            refine RA_noB rfl rfl rfl rfl (bno h41) rfl ?_
            refine RA_noB rfl rfl rfl rfl (bno h41) rfl ?_
            refine RA_noB rfl rfl rfl rfl (bno h41) rfl ?_
            refine RA_step rfl (OA_v rfl (V_pickF rfl (bno h41) rfl) ?_)
            refine RA_nil ?_
            exact at_normal (St.mk1 (aeq rfl (aeq rfl (aeq rfl (aeq rfl (aeq rfl (aeq rfl (aeq rfl (aeq rfl (aeq rfl (aeq rfl (aeq (congrArg Value.bool (and_f hq40 (bno h41))) aeq0))))))))))) (Gh.sel [0, 1, 2, 3, 4, 5, 6] rfl rfl))
          rintro e ds As hst42
          refine RA_nil ?_
          refine at_normal ?_
          refine SA.of_St hst42 fun junk => ?_
          obtain ⟨t43, H, Bt43⟩ := g_bind H
          refine SA_mid (fun e ds As => ∃ (b44 : Nat), St [(1, .int .i64 a1), (2, .int .i64 a2), (3, .int .i64 a3), (5, .pointer (some ⟨b2, 0, none⟩)), (9, .pointer (some ⟨b4, 0, none⟩)), (10, .pointer (some ⟨b6, 0, none⟩)), (12, .pointer (some ⟨b21, 0, none⟩)), (13, .int .i64 x13_23), (14, .int .i64 x14_27), (15, .pointer (some ⟨b44, 0, none⟩))] [Blk b44 76 (.int .i32 t43.f0 :: .int .i32 t43.f1.f0 :: .int .i32 t43.f1.f1 :: .int .i32 t43.f1.f2 :: .int .u8 t43.f2 :: .int .i64 t43.f3.f0 :: .int .i64 t43.f3.f1 :: .bool t43.f3.f2 :: .bool t43.f3.f3 :: .bool t43.f3.f4 :: .bool t43.f3.f5 :: .bool t43.f3.f6 :: .bool t43.f3.f7 :: .bool t43.f3.f8 :: .bool t43.f3.f9 :: []), Blk b2 67 [.int .i64 a0.f0, .int .i64 a0.f1, .slice A0_0 a0.f2.length c0_0], Ro k76 A0_0 c0_0 a0.f2, Blk b4 70 [.int .i64 a4.f0, .int .i64 a4.f1, .bool a4.f2, .bool a4.f3, .bool a4.f4, .bool a4.f5, .bool a4.f6, .bool a4.f7, .bool a4.f8, .bool a4.f9], Blk b6 67 [.int .i64 0, .int .i64 0, .slice none 0 0], Blk b21 67 [.int .i64 r17.f0, .int .i64 r17.f1, .slice A18 z12_2_27.length c19], Buf k76 76 A18 c19 z12_2_27] e ds As) ?_ ?_
          · by_cases h45 : q40 = true
            · replace H := g_ift h45 H
              refine SA_condTb rfl h45 ?_
              refine SA.fact (cap_of (k := 5) rfl) fun hc46 => ?_
              refine SA_region ?_
              refine RA_step rfl (OA_r rfl (VR_loadA_blk (b := b2) (m := 0) (k := 0) (vs := [.int .i64 a0.f0, .int .i64 a0.f1, .slice A0_0 a0.f2.length c0_0]) Try.underlying67 rfl sz67 rfl rfl rfl) ?_)
              refine RA_step rfl (OA_v (v := .int .i64 x13_23) rfl (V_move rfl) ?_)
              refine RA_step rfl (OA_v (v := .int .i64 a3) rfl (V_move rfl) ?_)
              refine RA_step rfl (OA_v (v := .int .i64 (IntKind.i64.wrap (x13_23 + a3))) rfl (V_add rfl rfl) ?_)
              obtain ⟨r47, C53, H⟩ := g_bind H
              refine RA_step rfl (OA_callA [1] [0, 1, 2, 3, 4, 5, 6] rfl (X_fn (vs := [.agg #[.int .i64 a0.f0, .int .i64 a0.f1, .slice A0_0 a0.f2.length c0_0], .int .i64 (IntKind.i64.wrap (x13_23 + a3))]) Try.func83 nm83 rfl rfl) rfl (F83.ok (a0 := a0) (A0_0 := A0_0) (c0_0 := c0_0) (a1 := IntKind.i64.wrap (x13_23 + a3)) C53) rfl ?_)
              rintro _ _ ⟨A48, c49, rfl, rfl⟩
              refine RA_step rfl (OA_v (v := .int .i64 x14_27) rfl (V_move rfl) ?_)
              obtain ⟨⟨g51, g52⟩, H⟩ := g_pos H
              refine RA_step rfl (OA_r rfl (VR_index (i := x14_27) Try.underlying65 sz76 rfl rfl (Src.ro (k := 0) rfl) g51 g52) ?_)
              refine RA_step rfl (OA_r rfl (VR_loadA_el (enc := enc76) (i := x14_27) (j := x14_27.toNat * 15) (m := 0) (sz := 15) (vs := (.int .i32 ((rd r47 x14_27).f0) :: .int .i32 (((rd r47 x14_27).f1).f0) :: .int .i32 (((rd r47 x14_27).f1).f1) :: .int .i32 (((rd r47 x14_27).f1).f2) :: .int .u8 ((rd r47 x14_27).f2) :: .int .i64 (((rd r47 x14_27).f3).f0) :: .int .i64 (((rd r47 x14_27).f3).f1) :: .bool (((rd r47 x14_27).f3).f2) :: .bool (((rd r47 x14_27).f3).f3) :: .bool (((rd r47 x14_27).f3).f4) :: .bool (((rd r47 x14_27).f3).f5) :: .bool (((rd r47 x14_27).f3).f6) :: .bool (((rd r47 x14_27).f3).f7) :: .bool (((rd r47 x14_27).f3).f8) :: .bool (((rd r47 x14_27).f3).f9) :: [])) Try.underlying76 rfl sz76 rfl rfl rfl (Src.ro (k := 0) rfl) g51 g52 (fun _ _ h => h) rfl) ?_)
              refine RA_step rfl (OA_st (b := b32) (m := 0) (k := 7) (vs := (.int .i32 ((rd r47 x14_27).f0) :: .int .i32 (((rd r47 x14_27).f1).f0) :: .int .i32 (((rd r47 x14_27).f1).f1) :: .int .i32 (((rd r47 x14_27).f1).f2) :: .int .u8 ((rd r47 x14_27).f2) :: .int .i64 (((rd r47 x14_27).f3).f0) :: .int .i64 (((rd r47 x14_27).f3).f1) :: .bool (((rd r47 x14_27).f3).f2) :: .bool (((rd r47 x14_27).f3).f3) :: .bool (((rd r47 x14_27).f3).f4) :: .bool (((rd r47 x14_27).f3).f5) :: .bool (((rd r47 x14_27).f3).f6) :: .bool (((rd r47 x14_27).f3).f7) :: .bool (((rd r47 x14_27).f3).f8) :: .bool (((rd r47 x14_27).f3).f9) :: [])) (cs' := (.int .i32 ((rd r47 x14_27).f0) :: .int .i32 (((rd r47 x14_27).f1).f0) :: .int .i32 (((rd r47 x14_27).f1).f1) :: .int .i32 (((rd r47 x14_27).f1).f2) :: .int .u8 ((rd r47 x14_27).f2) :: .int .i64 (((rd r47 x14_27).f3).f0) :: .int .i64 (((rd r47 x14_27).f3).f1) :: .bool (((rd r47 x14_27).f3).f2) :: .bool (((rd r47 x14_27).f3).f3) :: .bool (((rd r47 x14_27).f3).f4) :: .bool (((rd r47 x14_27).f3).f5) :: .bool (((rd r47 x14_27).f3).f6) :: .bool (((rd r47 x14_27).f3).f7) :: .bool (((rd r47 x14_27).f3).f8) :: .bool (((rd r47 x14_27).f3).f9) :: [])) rfl rfl rfl rfl rfl rfl sz76 rfl rfl ?_)
              refine RA_nil ?_
              have hr_ := Option.some.inj H
              subst hr_
              exact at_normal ⟨b32, St.mk1 (aeq rfl (aeq rfl (aeq rfl (aeq rfl (aeq rfl (aeq rfl (aeq rfl (aeq rfl (aeq rfl (aeq rfl aeq0)))))))))) (Gh.sel [7, 1, 2, 3, 4, 5, 6] rfl rfl)⟩
            replace H := g_iff h45 H
            refine SA_condFb rfl h45 ?_
            refine SA_skip ?_
            have hr_ := Option.some.inj H
            subst hr_
            exact at_normal ⟨b32, St.mk1 (aeq rfl (aeq rfl (aeq rfl (aeq rfl (aeq rfl (aeq rfl (aeq rfl (aeq rfl (aeq rfl (aeq rfl aeq0)))))))))) (Gh.sel [6, 0, 1, 2, 3, 4, 5] rfl rfl)⟩
          rintro e ds As ⟨b44, hst54⟩
          clear H
          have H := Bt43
          clear Bt43
          refine at_normal ?_
          refine SA.of_St hst54 fun junk => ?_
          refine SA.fact (cap_of (k := 6) rfl) fun hc55 => ?_
          refine SA_drawHq [0, 1, 3, 4] #[[], [], [0, 1], [], [], [0, 1, 3, 4], [0, 1, 3, 4]] [0, 2, 5] [1, 2, 3, 4, 6] mixed rfl rfl rfl (PanOk.inb (PanOk.thn (PanOk.thn (PanOk.inb (PanOk.thn (PanOk.inb (PanOk.thn (PanOk.thn (PanOk.inb (PanOk.thn (PanOk.thn PanOk.body))))))))))) fun I0 hS h0 hh0 w0 sH dd pk => ?_
          refine DH_take 0 (by kernel_rfl) rfl rfl (.no rfl) pk sH rfl (VR_loadA_blk (b := b21) (m := 0) (k := 2) (vs := [.int .i64 r17.f0, .int .i64 r17.f1, .slice A18 z12_2_27.length c19]) Try.underlying67 rfl sz67 rfl rfl rfl) ?_
          refine DH_take (v := .int .i64 x13_23) 1 (by kernel_rfl) rfl rfl (.no rfl) pk sH rfl (VR.ofV (V_move rfl)) ?_
          refine DH_take (v := .int .i64 x14_27) 3 (by kernel_rfl) rfl rfl (.no rfl) pk sH rfl (VR.ofV (V_move rfl)) ?_
          refine DH_take 4 (by kernel_rfl) rfl rfl (.no rfl) pk sH rfl (VR_loadA_blk (b := b44) (m := 0) (k := 0) (vs := (.int .i32 t43.f0 :: .int .i32 t43.f1.f0 :: .int .i32 t43.f1.f1 :: .int .i32 t43.f1.f2 :: .int .u8 t43.f2 :: .int .i64 t43.f3.f0 :: .int .i64 t43.f3.f1 :: .bool t43.f3.f2 :: .bool t43.f3.f3 :: .bool t43.f3.f4 :: .bool t43.f3.f5 :: .bool t43.f3.f6 :: .bool t43.f3.f7 :: .bool t43.f3.f8 :: .bool t43.f3.f9 :: [])) Try.underlying76 rfl sz76 rfl rfl rfl) ?_
          obtain ⟨r176, C181, H⟩ := g_bind H
          obtain ⟨⟨hl180a, hl180b, hl180c⟩, H⟩ := g_pos H
          refine DH_one 2 dd (by kernel_rfl) rfl (.no rfl) (OA_callA [4] [0, 1, 2, 3] rfl (X_fn (vs := [.agg #[.int .i64 r17.f0, .int .i64 r17.f1, .slice A18 z12_2_27.length c19], .int .i64 x13_23]) Try.func83 nm83 rfl rfl) rfl (F83b0.ok (a0 := (S67.mk r17.f0 r17.f1 z12_2_27)) (A0_0 := A18) (c0_0 := c19) (a1 := x13_23) C181) rfl ?_)
          rintro _ _ ⟨V177, v178, hW179, rfl, rfl⟩
          obtain ⟨⟨g356, g357⟩, H⟩ := g_pos H
          have g358 : 0 ≤ r176.1 + x14_27 := by omega
          have g359 : r176.1 + x14_27 < (z12_2_27.length : Int) := by omega
          refine DH_one 5 dd (by kernel_rfl) rfl (.no rfl) (OA_r rfl (VR_indexW (l := r176.1) (m := r176.2) (i := x14_27) (sz := 15) hW179 Try.underlying65 sz76 rfl rfl (Src.buf (k := 0) rfl) g356 g357 (by omega)) ?_)
          obtain ⟨n416, hn416, H⟩ := g_lt H
          have hl_n416 : n416.length = z12_2_27.length := by rw [hn416]; exact List.length_set
          refine DH_one 6 dd (by kernel_rfl) rfl (.no rfl) (OA_stEl (k := 0) (i := r176.1 + x14_27) (j := (r176.1 + x14_27).toNat * 15) (m := 0) (sz := 15) (xs := z12_2_27) (vs := (.int .i32 t43.f0 :: .int .i32 t43.f1.f0 :: .int .i32 t43.f1.f1 :: .int .i32 t43.f1.f2 :: .int .u8 t43.f2 :: .int .i64 t43.f3.f0 :: .int .i64 t43.f3.f1 :: .bool t43.f3.f2 :: .bool t43.f3.f3 :: .bool t43.f3.f4 :: .bool t43.f3.f5 :: .bool t43.f3.f6 :: .bool t43.f3.f7 :: .bool t43.f3.f8 :: .bool t43.f3.f9 :: [])) t43 rfl rfl rfl rfl rfl rfl rfl rfl sz76 g358 g359 rfl (fun _ _ h_ => by subst h_; rfl) ?_)
          rewrite [← hn416]
          try rewrite [← hl_n416]
          try rewrite [← hl_n416] at sH
          refine DH_open dd sH ?_
          refine DN_done (by kernel_rfl) ?_
          refine inb_normal ?_
          refine at_normal ?_
          refine SA_region ?_
          refine RA_step rfl (OA_v (v := .int .i64 x14_27) rfl (V_move rfl) ?_)
          refine RA_step rfl (OA_v (v := .int .i64 (IntKind.i64.wrap (x14_27 + 1))) rfl (V_add rfl rfl) ?_)
          obtain ⟨n477, hn477, H⟩ := g_lt H
          refine RA_step rfl (OA_v (v := .int .i64 n477) rfl (V_assign (v := .int .i64 n477) (congrArg (Value.int .i64) hn477.symm)) ?_)
          refine RA_nil ?_
          exact at_normal ⟨k28, Nat.lt_succ_self _, _, _, H, St.mk1 (aeq rfl (aeq rfl (aeq rfl (aeq rfl (aeq rfl (aeq rfl (aeq rfl (aeq rfl (aeq rfl aeq0))))))))) (Gh.sel [4, 1, 6, 7, 2, 3] rfl rfl)⟩
        replace H := g_iff h30 H
        refine SA_condF rfl h30 ?_
        refine SA_exit ?_
        refine thn_exit ?_
        refine thn_exit ?_
        refine inb_hit ?_
        have hr_ := Option.some.inj H
        subst hr_
        exact at_normal (St.mk1 (aeq rfl (aeq rfl (aeq rfl (aeq rfl (aeq rfl (aeq rfl (aeq rfl (aeq rfl aeq0)))))))) (Gh.sel [0, 1, 2, 3, 4, 5] rfl rfl))
      rintro e ds As hst480
      clear H
      have H := Bt27
      clear Bt27
      obtain ⟨hl482, H⟩ := g_pos H
      refine inb_normal ?_
      refine at_normal ?_
      refine SA.of_St hst480 fun junk => ?_
      refine SA_region ?_
      refine RA_step rfl (OA_v (v := .int .i64 x13_23) rfl (V_move rfl) ?_)
      refine RA_step rfl (OA_v (v := .int .i64 (IntKind.i64.wrap (x13_23 + 1))) rfl (V_add rfl rfl) ?_)
      obtain ⟨n481, hn481, H⟩ := g_lt H
      refine RA_step rfl (OA_v (v := .int .i64 n481) rfl (V_assign (v := .int .i64 n481) (congrArg (Value.int .i64) hn481.symm)) ?_)
      refine RA_nil ?_
      exact at_normal ⟨k24, Nat.lt_succ_self _, _, _, H, St.mk1 (aeq rfl (aeq rfl (aeq rfl (aeq rfl (aeq rfl (aeq rfl (aeq rfl (aeq rfl aeq0)))))))) (Gh.sel [0, 1, 2, 3, 4, 5] rfl rfl)⟩
    replace H := g_iff h26 H
    refine SA_condF rfl h26 ?_
    refine SA_exit ?_
    refine thn_exit ?_
    refine thn_exit ?_
    refine inb_hit ?_
    have hr_ := Option.some.inj H
    subst hr_
    exact at_normal (St.mk1 (aeq rfl (aeq rfl aeq0)) (Gh.sel [3, 4, 5] rfl rfl))
  rintro e ds As hst484
  clear H
  have H := Bt23
  clear Bt23
  obtain ⟨hl485, H⟩ := g_pos H
  refine at_normal ?_
  refine SA.of_St hst484 fun junk => ?_
  refine SA_seq ?_
  refine SA_region ?_
  refine RA_step rfl (OA_r rfl (VR_loadA_blk (b := b21) (m := 0) (k := 1) (vs := [.int .i64 r17.f0, .int .i64 r17.f1, .slice A18 t23.length c19]) Try.underlying67 rfl sz67 rfl rfl rfl) ?_)
  refine RA_step rfl (OA_st (b := b6) (m := 0) (k := 0) (vs := [.int .i64 r17.f0, .int .i64 r17.f1, .slice A18 t23.length c19]) (cs' := [.int .i64 r17.f0, .int .i64 r17.f1, .slice A18 t23.length c19]) rfl rfl rfl rfl rfl rfl sz67 rfl rfl ?_)
  refine RA_step rfl (OA_v (v := .int .i64 0) rfl (V_assign rfl) ?_)
  refine RA_nil ?_
  refine at_normal ?_
  refine SA_ret ?_
  have hr_ := Option.some.inj H
  subst hr_
  exact BQ_RL (rs := [.cell 10 67, .tmp 11]) (vs := [.agg #[.int .i64 r17.f0, .int .i64 r17.f1, .slice A18 t23.length c19], .int .i64 0]) [Buf k76 76 A18 c19 t23] rfl ⟨RV.cell (k := 0) rfl rfl Try.underlying67 rfl sz67, RV.tmp rfl, trivial⟩ rfl (Gh.sel [2] rfl rfl) ⟨A18, c19, rfl, rfl⟩

/-! ### function 38: wayfarer/grid.Resize -/
def F38.l0 (a0 : S67) (a2 : Int) (r21 : S67) : Nat → Int → (List S76) → Option ((List S76))
  | 0, _, _ => none
  | k + 1, x36_27, z10_2_27 => if z10_2_27.length = r21.f2.length then (if x36_27 < (minI a2 a0.f1) then ((F80b0.f (S67.mk r21.f0 r21.f1 z10_2_27) x36_27).bind (fun r32 => if (0 ≤ r32.1 ∧ 0 ≤ r32.2 ∧ r32.1 + r32.2 ≤ (z10_2_27.length : Int)) then ((F80.f a0 x36_27).bind (fun r37 => lt (over z10_2_27 r32.1.toNat (r37.take r32.2.toNat)) fun n41 => ((F81w0.f k n41 r32.1 r32.2).bind (fun r42 => if r42.length = n41.length then (F38.l0 a0 a2 r21 k (IntKind.i64.wrap (x36_27 + 1)) r42) else none)))) else none)) else (some z10_2_27)) else none
def F38.f (k : Nat) (a0 : S67) (a1 : Int) (a2 : Int) (a3 : S70) : Option (S67 × Int) := (F41.f k a0).bind (fun r8 => (if (!r8) = true then (some true) else ((F78.f a1 a2).bind (fun r11 => some (!r11))) : Option Bool).bind (fun q9 => (if q9 = true then (some true) else ((F71.f a3).bind (fun r16 => some (!r16))) : Option Bool).bind (fun q14 => if q14 = true then (some (((S67.mk 0 0 ([] : (List S76))), 2))) else ((F79.f k a1 a2 a3).bind (fun r21 => (F38.l0 a0 a2 r21 k 0 r21.f2 : Option ((List S76))).bind (fun t27 => if t27.length = r21.f2.length then (some (((S67.mk r21.f0 r21.f1 t27), 0))) else none))))))
set_option maxHeartbeats 2000000 in
set_option maxRecDepth 100000 in
theorem F38.ok {k : Nat} {a0 : S67} {a1 : Int} {a2 : Int} {a3 : S70} {A0_0 : Option Addr} {c0_0 : Nat} {r : S67 × Int} (H : F38.f k a0 a1 a2 a3 = some r) : SCA Try.prog 38 #[.agg #[.int .i64 a0.f0, .int .i64 a0.f1, .slice A0_0 a0.f2.length c0_0], .int .i64 a1, .int .i64 a2, .agg #[.int .i64 a3.f0, .int .i64 a3.f1, .bool a3.f2, .bool a3.f3, .bool a3.f4, .bool a3.f5, .bool a3.f6, .bool a3.f7, .bool a3.f8, .bool a3.f9]] [Ro k76 A0_0 c0_0 a0.f2] (fun v B => ∃ (A0_0_ : Option Addr) (c0_0_ : Nat), v = .tuple #[.agg #[.int .i64 r.1.f0, .int .i64 r.1.f1, .slice A0_0_ r.1.f2.length c0_0_], .int .i64 r.2] ∧ B = [Buf k76 76 A0_0_ c0_0_ r.1.f2]) := by
  refine SCA_of_body Try.func38 rfl rfl ?_
  unfold F38.f at H
  refine SA_seq ?_
  refine SA_region ?_
  refine RA_step rfl (OA_box rfl rfl fun b2 => ?_)
  refine RA_step rfl (OA_box rfl rfl fun b4 => ?_)
  refine RA_step rfl (OA_alloc rfl zero67 fun b6 => ?_)
  refine RA_step rfl (OA_v (v := .int .i64 0) rfl (V_assign rfl) ?_)
  refine RA_nil ?_
  refine at_normal ?_
  refine SA_seq ?_
  refine SA_seq ?_
  refine SA_region ?_
  refine RA_step rfl (OA_r rfl (VR_loadA_blk (b := b2) (m := 0) (k := 1) (vs := [.int .i64 a0.f0, .int .i64 a0.f1, .slice A0_0 a0.f2.length c0_0]) Try.underlying67 rfl sz67 rfl rfl rfl) ?_)
  obtain ⟨r8, C51, H⟩ := g_bind H
  refine RA_step rfl (OA_callA [0] [0, 1, 2, 3] rfl (X_fn (vs := [.agg #[.int .i64 a0.f0, .int .i64 a0.f1, .slice A0_0 a0.f2.length c0_0]]) Try.func41 nm41 rfl rfl) rfl (F41.ok (a0 := a0) (A0_0 := A0_0) (c0_0 := c0_0) C51) rfl ?_)
  rintro _ _ ⟨rfl, rfl⟩
  refine RA_step rfl (OA_v (v := .bool (!r8)) rfl (V_not rfl) ?_)
  refine RA_step rfl (OA_v (v := .bool (!r8)) rfl (V_move rfl) ?_)
  obtain ⟨q9, H, Bq9⟩ := g_bind H
  refine RA_cut 5 (fun e ds As => St [(1, .int .i64 a1), (2, .int .i64 a2), (4, .pointer (some ⟨b2, 0, none⟩)), (7, .pointer (some ⟨b4, 0, none⟩)), (8, .pointer (some ⟨b6, 0, none⟩)), (21, .bool q9)] [Blk b2 67 [.int .i64 a0.f0, .int .i64 a0.f1, .slice A0_0 a0.f2.length c0_0], Ro k76 A0_0 c0_0 a0.f2, Blk b4 70 [.int .i64 a3.f0, .int .i64 a3.f1, .bool a3.f2, .bool a3.f3, .bool a3.f4, .bool a3.f5, .bool a3.f6, .bool a3.f7, .bool a3.f8, .bool a3.f9], Blk b6 67 [.int .i64 0, .int .i64 0, .slice none 0 0]] e ds As) ?_ ?_
  · by_cases h10 : (!r8) = true
    · replace H := g_ift h10 H
      refine RA_noB rfl rfl rfl rfl (h10) rfl ?_
      refine RA_noB rfl rfl rfl rfl (h10) rfl ?_
      refine RA_noB rfl rfl rfl rfl (h10) rfl ?_
      refine RA_noB rfl rfl rfl rfl (h10) rfl ?_
      refine RA_step rfl (OA_v rfl (V_pickT rfl (h10) rfl) ?_)
      have hr_ := Option.some.inj H
      subst hr_
      refine RA_nil ?_
      exact at_normal (St.mk1 (aeq rfl (aeq rfl (aeq rfl (aeq rfl (aeq rfl (aeq rfl aeq0)))))) (Gh.sel [1, 0, 2, 3] rfl rfl))
    replace H := g_iff h10 H
    refine RA_yesB rfl rfl rfl rfl (bno h10) (OA_v (v := .int .i64 a1) rfl (V_move rfl) ?_)
    refine RA_yesB rfl rfl rfl rfl (bno h10) (OA_v (v := .int .i64 a2) rfl (V_move rfl) ?_)
    obtain ⟨r11, C12, H⟩ := g_bind H
    refine RA_yesB rfl rfl rfl rfl (bno h10) (OA_callA [] [0, 1, 2, 3] rfl (X_fn (vs := [.int .i64 a1, .int .i64 a2]) Try.func78 nm78 rfl rfl) rfl (F78.ok (a0 := a1) (a1 := a2) C12) rfl ?_)
    rintro _ _ ⟨rfl, rfl⟩
    refine RA_yesB rfl rfl rfl rfl (bno h10) (OA_v (v := .bool (!r11)) rfl (V_not rfl) ?_)
    refine RA_step rfl (OA_v rfl (V_pickF rfl (bno h10) rfl) ?_)
    have hr_ := Option.some.inj H
    subst hr_
    refine RA_nil ?_
    exact at_normal (St.mk1 (aeq rfl (aeq rfl (aeq rfl (aeq rfl (aeq rfl (aeq rfl aeq0)))))) (Gh.sel [1, 0, 2, 3] rfl rfl))
  rintro e ds As hst13
  clear H
  have H := Bq9
  clear Bq9
  refine RA.of_St rfl hst13 fun junk => ?_
  refine RA_step rfl (OA_v (v := .bool q9) rfl (V_move rfl) ?_)
  obtain ⟨q14, H, Bq14⟩ := g_bind H
  refine RA_cut 4 (fun e ds As => St [(1, .int .i64 a1), (2, .int .i64 a2), (4, .pointer (some ⟨b2, 0, none⟩)), (7, .pointer (some ⟨b4, 0, none⟩)), (8, .pointer (some ⟨b6, 0, none⟩)), (26, .bool q14)] [Blk b2 67 [.int .i64 a0.f0, .int .i64 a0.f1, .slice A0_0 a0.f2.length c0_0], Ro k76 A0_0 c0_0 a0.f2, Blk b4 70 [.int .i64 a3.f0, .int .i64 a3.f1, .bool a3.f2, .bool a3.f3, .bool a3.f4, .bool a3.f5, .bool a3.f6, .bool a3.f7, .bool a3.f8, .bool a3.f9], Blk b6 67 [.int .i64 0, .int .i64 0, .slice none 0 0]] e ds As) ?_ ?_
  · by_cases h15 : q9 = true
    · replace H := g_ift h15 H
      refine RA_noB rfl rfl rfl rfl (h15) rfl ?_
      refine RA_noB rfl rfl rfl rfl (h15) rfl ?_
      refine RA_noB rfl rfl rfl rfl (h15) rfl ?_
      refine RA_step rfl (OA_v rfl (V_pickT rfl (h15) rfl) ?_)
      have hr_ := Option.some.inj H
      subst hr_
      refine RA_nil ?_
      exact at_normal (St.mk1 (aeq rfl (aeq rfl (aeq rfl (aeq rfl (aeq rfl (aeq rfl aeq0)))))) (Gh.sel [0, 1, 2, 3] rfl rfl))
    replace H := g_iff h15 H
    refine RA_yesB rfl rfl rfl rfl (bno h15) (OA_r rfl (VR_loadA_blk (b := b4) (m := 0) (k := 2) (vs := [.int .i64 a3.f0, .int .i64 a3.f1, .bool a3.f2, .bool a3.f3, .bool a3.f4, .bool a3.f5, .bool a3.f6, .bool a3.f7, .bool a3.f8, .bool a3.f9]) Try.underlying70 rfl sz70 rfl rfl rfl) ?_)
    obtain ⟨r16, C17, H⟩ := g_bind H
    refine RA_yesB rfl rfl rfl rfl (bno h15) (OA_callA [] [0, 1, 2, 3] rfl (X_fn (vs := [.agg #[.int .i64 a3.f0, .int .i64 a3.f1, .bool a3.f2, .bool a3.f3, .bool a3.f4, .bool a3.f5, .bool a3.f6, .bool a3.f7, .bool a3.f8, .bool a3.f9]]) Try.func71 nm71 rfl rfl) rfl (F71.ok (a0 := a3) C17) rfl ?_)
    rintro _ _ ⟨rfl, rfl⟩
    refine RA_yesB rfl rfl rfl rfl (bno h15) (OA_v (v := .bool (!r16)) rfl (V_not rfl) ?_)
    refine RA_step rfl (OA_v rfl (V_pickF rfl (bno h15) rfl) ?_)
    have hr_ := Option.some.inj H
    subst hr_
    refine RA_nil ?_
    exact at_normal (St.mk1 (aeq rfl (aeq rfl (aeq rfl (aeq rfl (aeq rfl (aeq rfl aeq0)))))) (Gh.sel [0, 1, 2, 3] rfl rfl))
  rintro e ds As hst18
  clear H
  have H := Bq14
  clear Bq14
  refine RA_nil ?_
  refine at_normal ?_
  refine SA.of_St hst18 fun junk => ?_
  by_cases h19 : q14 = true
  · replace H := g_ift h19 H
    refine SA_condTb rfl h19 ?_
    refine SA_seq ?_
    refine SA_region ?_
    refine RA_step rfl (OA_v (v := .agg #[.int .i64 0, .int .i64 0, .slice none 0 0]) rfl (V_build (cells := [.int .i64 0, .int .i64 0, .slice none 0 0]) zero67 Try.underlying67 plc67 (by kernel_rfl)) ?_)
    refine RA_step rfl (OA_st (b := b6) (m := 0) (k := 3) (vs := [.int .i64 0, .int .i64 0, .slice none 0 0]) (cs' := [.int .i64 0, .int .i64 0, .slice none 0 0]) rfl rfl rfl rfl rfl rfl sz67 rfl rfl ?_)
    refine RA_step rfl (OA_v (v := .int .i64 2) rfl (V_assign rfl) ?_)
    refine RA_nil ?_
    refine at_normal ?_
    refine SA_ret ?_
    refine thn_ret ?_
    have hr_ := Option.some.inj H
    subst hr_
    exact BQ_RL (rs := [.cell 8 67, .tmp 9]) (vs := [.agg #[.int .i64 0, .int .i64 0, .slice none 0 0], .int .i64 2]) [Buf k76 76 none 0 ([] : (List S76))] rfl ⟨RV.cell (k := 3) rfl rfl Try.underlying67 rfl sz67, RV.tmp rfl, trivial⟩ rfl ((Gh.nilBuf k76 76).trans (Gh.sel [4] rfl rfl)) ⟨none, 0, rfl, rfl⟩
  replace H := g_iff h19 H
  refine SA_condFb rfl h19 ?_
  refine SA_skip ?_
  refine at_normal ?_
  refine SA_seq ?_
  refine SA_region ?_
  refine RA_step rfl (OA_v (v := .int .i64 a1) rfl (V_move rfl) ?_)
  refine RA_step rfl (OA_v (v := .int .i64 a2) rfl (V_move rfl) ?_)
  refine RA_step rfl (OA_r rfl (VR_loadA_blk (b := b4) (m := 0) (k := 2) (vs := [.int .i64 a3.f0, .int .i64 a3.f1, .bool a3.f2, .bool a3.f3, .bool a3.f4, .bool a3.f5, .bool a3.f6, .bool a3.f7, .bool a3.f8, .bool a3.f9]) Try.underlying70 rfl sz70 rfl rfl rfl) ?_)
  obtain ⟨r21, C50, H⟩ := g_bind H
  refine RA_step rfl (OA_callA [] [0, 1, 2, 3] rfl (X_fn (vs := [.int .i64 a1, .int .i64 a2, .agg #[.int .i64 a3.f0, .int .i64 a3.f1, .bool a3.f2, .bool a3.f3, .bool a3.f4, .bool a3.f5, .bool a3.f6, .bool a3.f7, .bool a3.f8, .bool a3.f9]]) Try.func79 nm79 rfl rfl) rfl (F79.ok (a0 := a1) (a1 := a2) (a2 := a3) C50) rfl ?_)
  rintro _ _ ⟨A22, c23, rfl, rfl⟩
  refine RA_step rfl (OA_alloc rfl zero67 fun b25 => ?_)
  refine RA_step rfl (OA_st (b := b25) (m := 0) (k := 5) (vs := [.int .i64 r21.f0, .int .i64 r21.f1, .slice A22 r21.f2.length c23]) (cs' := [.int .i64 r21.f0, .int .i64 r21.f1, .slice A22 r21.f2.length c23]) rfl rfl rfl rfl rfl rfl sz67 rfl rfl ?_)
  refine RA_nil ?_
  refine at_normal ?_
  refine SA_seq ?_
  refine SA_seq ?_
  refine SA_region ?_
  refine RA_step rfl (OA_v (v := .int .i64 a2) rfl (V_move rfl) ?_)
  refine RA_step rfl (OA_v (v := .pointer (some ((⟨b2, 0, none⟩ : Addr).add 1))) rfl (V_fieldAddrN (B := ⟨b2, 0, none⟩) (m := 0) (o := 1) Try.underlying67 rfl nz3 rfl rfl) ?_)
  refine RA_step rfl (OA_r rfl (VR_load_blk (b := b2) (m := 1) (k := 1) Try.underlying3 rfl rfl rfl rfl) ?_)
  refine RA_step rfl (OA_v (v := .int .i64 (minI a2 a0.f1)) rfl (V_min rfl rfl) ?_)
  refine RA_step rfl (OA_v (v := .int .i64 0) rfl (V_move rfl) ?_)
  refine RA_nil ?_
  refine at_normal ?_
  obtain ⟨t27, H, Bt27⟩ := g_bind H
  refine SA_mid (fun e ds As => St [(8, .pointer (some ⟨b6, 0, none⟩)), (10, .pointer (some ⟨b25, 0, none⟩))] [Blk b6 67 [.int .i64 0, .int .i64 0, .slice none 0 0], Blk b25 67 [.int .i64 r21.f0, .int .i64 r21.f1, .slice A22 t27.length c23], Buf k76 76 A22 c23 t27] e ds As) ?_ ?_
  · refine SA_block ?_
    refine SA_loop (fun k_ e ds As => ∃ (x36_27 : Int) (z10_2_27 : (List S76)), F38.l0 a0 a2 r21 k_ x36_27 z10_2_27 = some t27 ∧ St [(4, .pointer (some ⟨b2, 0, none⟩)), (8, .pointer (some ⟨b6, 0, none⟩)), (10, .pointer (some ⟨b25, 0, none⟩)), (35, .int .i64 (minI a2 a0.f1)), (36, .int .i64 x36_27)] [Blk b2 67 [.int .i64 a0.f0, .int .i64 a0.f1, .slice A0_0 a0.f2.length c0_0], Ro k76 A0_0 c0_0 a0.f2, Blk b6 67 [.int .i64 0, .int .i64 0, .slice none 0 0], Blk b25 67 [.int .i64 r21.f0, .int .i64 r21.f1, .slice A22 z10_2_27.length c23], Buf k76 76 A22 c23 z10_2_27] e ds As) (k := k) ⟨_, _, H, St.mk1 (aeq rfl (aeq rfl (aeq rfl (aeq rfl (aeq rfl aeq0))))) (Gh.sel [1, 2, 4, 5, 0] rfl rfl)⟩ ?_
    clear H
    rintro k28 e ds As ⟨x36_27, z10_2_27, H, hst29⟩
    obtain _ | k28 := k28
    · cases H
    rw [F38.l0] at H
    obtain ⟨hl47, H⟩ := g_pos H
    refine SA.of_St hst29 fun junk => ?_
    refine SA_seq ?_
    refine SA_region ?_
    refine RA_step rfl (OA_v (v := .bool (decide (x36_27 < (minI a2 a0.f1)))) rfl (V_lss rfl rfl) ?_)
    refine RA_nil ?_
    refine at_normal ?_
    refine SA_seq ?_
    by_cases h30 : x36_27 < (minI a2 a0.f1)
    · replace H := g_ift h30 H
      refine SA_condT rfl h30 ?_
      refine SA_skip ?_
      refine at_normal ?_
      refine SA_seq ?_
      refine SA_block ?_
      refine SA_seq ?_
      refine SA_region ?_
      refine RA_step rfl (OA_v (v := .int .i64 x36_27) rfl (V_move rfl) ?_)
      refine RA_step rfl (OA_v (v := .int .i64 x36_27) rfl (V_assign rfl) ?_)
      refine RA_nil ?_
      refine at_normal ?_
      refine SA_seq ?_
      refine SA.fact (cap_of (k := 4) rfl) fun hc31 => ?_
      refine SA_region ?_
      refine RA_step rfl (OA_v (v := .int .i64 x36_27) rfl (V_move rfl) ?_)
      obtain ⟨r32, C46, H⟩ := g_bind H
      obtain ⟨⟨hl36a, hl36b, hl36c⟩, H⟩ := g_pos H
      refine RA_step rfl (OA_callA [3, 4] [0, 1, 2] rfl (X_fn (vs := [.pointer (some ⟨b25, 0, none⟩), .int .i64 x36_27]) Try.func80 nm80 rfl rfl) rfl (F80b0.ok (b0_ := b25) (A0_0 := A22) (c0_0 := c23) (p0 := (S67.mk r21.f0 r21.f1 z10_2_27)) (a1 := x36_27) C46) rfl ?_)
      rintro _ _ ⟨V33, v34, hW35, rfl, rfl⟩
      refine RA_step rfl (OA_v (v := .slice V33 r32.2.toNat v34) rfl (V_assign rfl) ?_)
      refine RA_nil ?_
      refine at_normal ?_
      refine SA_seq ?_
      refine SA_region ?_
      refine RA_step rfl (OA_v (v := .slice V33 r32.2.toNat v34) rfl (V_move rfl) ?_)
      refine RA_step rfl (OA_v (v := .int .i64 x36_27) rfl (V_move rfl) ?_)
      obtain ⟨r37, C45, H⟩ := g_bind H
      refine RA_step rfl (OA_callA [2, 3] [0, 1, 3, 4] rfl (X_fn (vs := [.pointer (some ⟨b2, 0, none⟩), .int .i64 x36_27]) Try.func80 nm80 rfl rfl) rfl (F80.ok (b0_ := b2) (A0_0 := A0_0) (c0_0 := c0_0) (p0 := a0) (a1 := x36_27) C45) rfl ?_)
      rintro _ _ ⟨A38, c39, rfl, rfl⟩
      obtain ⟨n41, hn41, H⟩ := g_lt H
      have hl_n41 : n41.length = z10_2_27.length := by rw [hn41]; exact over_len (by rw [List.length_take]; omega)
      refine RA_step rfl (OA_copyV (k := 3) (l := r32.1) (m := r32.2) (xs := z10_2_27) (ys := r37) n41 hn41 hW35 rfl Try.underlying148 sz76 rfl rfl rfl (by omega) rfl (Cpy.slice (Src.ro (k := 0) rfl)) ?_)
      try rewrite [← hl_n41]
      refine RA_nil ?_
      refine at_normal ?_
      refine SA_region ?_
      refine RA_step rfl (OA_v (v := .slice V33 r32.2.toNat v34) rfl (V_move rfl) ?_)
      obtain ⟨r42, C44, H⟩ := g_bind H
      obtain ⟨hl43, H⟩ := g_pos H
      refine RA_step rfl (OA_callA [3] [0, 1, 2, 4, 5] rfl (X_fn (vs := [.slice V33 r32.2.toNat v34]) Try.func81 nm81 rfl rfl) rfl (F81w0.ok (l0 := n41) (o0 := r32.1) (n0 := r32.2) (A0 := A22) (c0 := c23) (V0 := V33) (v0 := v34) (hw0 := hW35) C44) rfl ?_)
      rintro _ _ ⟨rfl, rfl⟩
      try rewrite [← hl43]
      refine RA_nil ?_
      refine inb_normal ?_
      refine at_normal ?_
      refine SA_region ?_
      refine RA_step rfl (OA_v (v := .int .i64 (IntKind.i64.wrap (x36_27 + 1))) rfl (V_add rfl rfl) ?_)
      refine RA_step rfl (OA_v (v := .int .i64 (IntKind.i64.wrap (x36_27 + 1))) rfl (V_move rfl) ?_)
      refine RA_nil ?_
      exact at_normal ⟨k28, Nat.lt_succ_self _, _, _, H, St.mk1 (aeq rfl (aeq rfl (aeq rfl (aeq rfl (aeq rfl aeq0))))) (Gh.sel [2, 4, 5, 3, 0] rfl rfl)⟩
    replace H := g_iff h30 H
    refine SA_condF rfl h30 ?_
    refine SA_exit ?_
    refine thn_exit ?_
    refine thn_exit ?_
    refine inb_hit ?_
    have hr_ := Option.some.inj H
    subst hr_
    exact at_normal (St.mk1 (aeq rfl (aeq rfl aeq0)) (Gh.sel [2, 3, 4] rfl rfl))
  rintro e ds As hst48
  clear H
  have H := Bt27
  clear Bt27
  obtain ⟨hl49, H⟩ := g_pos H
  refine at_normal ?_
  refine SA.of_St hst48 fun junk => ?_
  refine SA_seq ?_
  refine SA_region ?_
  refine RA_step rfl (OA_r rfl (VR_loadA_blk (b := b25) (m := 0) (k := 1) (vs := [.int .i64 r21.f0, .int .i64 r21.f1, .slice A22 t27.length c23]) Try.underlying67 rfl sz67 rfl rfl rfl) ?_)
  refine RA_step rfl (OA_st (b := b6) (m := 0) (k := 0) (vs := [.int .i64 r21.f0, .int .i64 r21.f1, .slice A22 t27.length c23]) (cs' := [.int .i64 r21.f0, .int .i64 r21.f1, .slice A22 t27.length c23]) rfl rfl rfl rfl rfl rfl sz67 rfl rfl ?_)
  refine RA_step rfl (OA_v (v := .int .i64 0) rfl (V_assign rfl) ?_)
  refine RA_nil ?_
  refine at_normal ?_
  refine SA_ret ?_
  have hr_ := Option.some.inj H
  subst hr_
  exact BQ_RL (rs := [.cell 8 67, .tmp 9]) (vs := [.agg #[.int .i64 r21.f0, .int .i64 r21.f1, .slice A22 t27.length c23], .int .i64 0]) [Buf k76 76 A22 c23 t27] rfl ⟨RV.cell (k := 0) rfl rfl Try.underlying67 rfl sz67, RV.tmp rfl, trivial⟩ rfl (Gh.sel [2] rfl rfl) ⟨A22, c23, rfl, rfl⟩

/-! ### function 49: wayfarer/wayfarerref15.Resize -/
def F49.l0 (a0 : S67) (a2 : Int) (r11 : S67 × Int) : Nat → Int → (List S76) → Option ((List S76))
  | 0, _, _ => none
  | k + 1, x12_19, z10_2_19 => if z10_2_19.length = r11.1.f2.length then (if x12_19 < (minI a2 a0.f1) then ((F83b0.f (S67.mk r11.1.f0 r11.1.f1 z10_2_19) x12_19).bind (fun r144 => if (0 ≤ r144.1 ∧ 0 ≤ r144.2 ∧ r144.1 + r144.2 ≤ (z10_2_19.length : Int)) then ((F83.f a0 x12_19).bind (fun r324 => lt (over z10_2_19 r144.1.toNat (r324.take r144.2.toNat)) fun n384 => ((F83b0.f (S67.mk r11.1.f0 r11.1.f1 n384) x12_19).bind (fun r445 => if (0 ≤ r445.1 ∧ 0 ≤ r445.2 ∧ r445.1 + r445.2 ≤ (n384.length : Int)) then ((F90w0.f k n384 r445.1 r445.2).bind (fun r450 => if r450.length = n384.length then (lt (IntKind.i64.wrap (x12_19 + 1)) fun n452 => F49.l0 a0 a2 r11 k n452 r450) else none)) else none)))) else none)) else (some z10_2_19)) else none
def F49.f (k : Nat) (a0 : S67) (a1 : Int) (a2 : Int) (a3 : S70) : Option (S67 × Int) := (F30.f k a0).bind (fun r8 => if (!r8) = true then (some (((S67.mk 0 0 ([] : (List S76))), 2))) else ((F45.f k a1 a2 a3).bind (fun r11 => if r11.2 ≠ 0 then (some (((S67.mk 0 0 ([] : (List S76))), r11.2))) else ((F49.l0 a0 a2 r11 k 0 r11.1.f2 : Option ((List S76))).bind (fun t19 => if t19.length = r11.1.f2.length then (some (((S67.mk r11.1.f0 r11.1.f1 t19), 0))) else none)))))
set_option maxHeartbeats 2000000 in
set_option maxRecDepth 100000 in
theorem F49.ok {k : Nat} {a0 : S67} {a1 : Int} {a2 : Int} {a3 : S70} {A0_0 : Option Addr} {c0_0 : Nat} {r : S67 × Int} (H : F49.f k a0 a1 a2 a3 = some r) : SCA Try.prog 49 #[.agg #[.int .i64 a0.f0, .int .i64 a0.f1, .slice A0_0 a0.f2.length c0_0], .int .i64 a1, .int .i64 a2, .agg #[.int .i64 a3.f0, .int .i64 a3.f1, .bool a3.f2, .bool a3.f3, .bool a3.f4, .bool a3.f5, .bool a3.f6, .bool a3.f7, .bool a3.f8, .bool a3.f9]] [Ro k76 A0_0 c0_0 a0.f2] (fun v B => ∃ (A0_0_ : Option Addr) (c0_0_ : Nat), v = .tuple #[.agg #[.int .i64 r.1.f0, .int .i64 r.1.f1, .slice A0_0_ r.1.f2.length c0_0_], .int .i64 r.2] ∧ B = [Buf k76 76 A0_0_ c0_0_ r.1.f2]) := by
  refine SCA_of_body Try.func49 rfl rfl ?_
  unfold F49.f at H
  refine SA_seq ?_
  refine SA_region ?_
  refine RA_step rfl (OA_box rfl rfl fun b2 => ?_)
  refine RA_step rfl (OA_box rfl rfl fun b4 => ?_)
  refine RA_step rfl (OA_alloc rfl zero67 fun b6 => ?_)
  refine RA_step rfl (OA_v (v := .int .i64 0) rfl (V_assign rfl) ?_)
  refine RA_nil ?_
  refine at_normal ?_
  refine SA_seq ?_
  refine SA_seq ?_
  refine SA_region ?_
  refine RA_step rfl (OA_r rfl (VR_loadA_blk (b := b2) (m := 0) (k := 1) (vs := [.int .i64 a0.f0, .int .i64 a0.f1, .slice A0_0 a0.f2.length c0_0]) Try.underlying67 rfl sz67 rfl rfl rfl) ?_)
  obtain ⟨r8, C459, H⟩ := g_bind H
  refine RA_step rfl (OA_callA [0] [0, 1, 2, 3] rfl (X_fn (vs := [.agg #[.int .i64 a0.f0, .int .i64 a0.f1, .slice A0_0 a0.f2.length c0_0]]) Try.func30 nm30 rfl rfl) rfl (F30.ok (a0 := a0) (A0_0 := A0_0) (c0_0 := c0_0) C459) rfl ?_)
  rintro _ _ ⟨rfl, rfl⟩
  refine RA_step rfl (OA_v (v := .bool (!r8)) rfl (V_not rfl) ?_)
  refine RA_nil ?_
  refine at_normal ?_
  by_cases h9 : (!r8) = true
  · replace H := g_ift h9 H
    refine SA_condTb rfl h9 ?_
    refine SA_seq ?_
    refine SA_region ?_
    refine RA_step rfl (OA_v (v := .agg #[.int .i64 0, .int .i64 0, .slice none 0 0]) rfl (V_build (cells := [.int .i64 0, .int .i64 0, .slice none 0 0]) zero67 Try.underlying67 plc67 (by kernel_rfl)) ?_)
    refine RA_step rfl (OA_st (b := b6) (m := 0) (k := 3) (vs := [.int .i64 0, .int .i64 0, .slice none 0 0]) (cs' := [.int .i64 0, .int .i64 0, .slice none 0 0]) rfl rfl rfl rfl rfl rfl sz67 rfl rfl ?_)
    refine RA_step rfl (OA_v (v := .int .i64 2) rfl (V_assign rfl) ?_)
    refine RA_nil ?_
    refine at_normal ?_
    refine SA_ret ?_
    refine thn_ret ?_
    have hr_ := Option.some.inj H
    subst hr_
    exact BQ_RL (rs := [.cell 8 67, .tmp 9]) (vs := [.agg #[.int .i64 0, .int .i64 0, .slice none 0 0], .int .i64 2]) [Buf k76 76 none 0 ([] : (List S76))] rfl ⟨RV.cell (k := 3) rfl rfl Try.underlying67 rfl sz67, RV.tmp rfl, trivial⟩ rfl ((Gh.nilBuf k76 76).trans (Gh.sel [4] rfl rfl)) ⟨none, 0, rfl, rfl⟩
  replace H := g_iff h9 H
  refine SA_condFb rfl h9 ?_
  refine SA_skip ?_
  refine at_normal ?_
  refine SA_seq ?_
  refine SA_region ?_
  refine RA_step rfl (OA_v (v := .int .i64 a1) rfl (V_move rfl) ?_)
  refine RA_step rfl (OA_v (v := .int .i64 a2) rfl (V_move rfl) ?_)
  refine RA_step rfl (OA_r rfl (VR_loadA_blk (b := b4) (m := 0) (k := 2) (vs := [.int .i64 a3.f0, .int .i64 a3.f1, .bool a3.f2, .bool a3.f3, .bool a3.f4, .bool a3.f5, .bool a3.f6, .bool a3.f7, .bool a3.f8, .bool a3.f9]) Try.underlying70 rfl sz70 rfl rfl rfl) ?_)
  obtain ⟨r11, C458, H⟩ := g_bind H
  refine RA_step rfl (OA_callA [] [0, 1, 2, 3] rfl (X_fn (vs := [.int .i64 a1, .int .i64 a2, .agg #[.int .i64 a3.f0, .int .i64 a3.f1, .bool a3.f2, .bool a3.f3, .bool a3.f4, .bool a3.f5, .bool a3.f6, .bool a3.f7, .bool a3.f8, .bool a3.f9]]) Try.func45 nm45 rfl rfl) rfl (F45.ok (a0 := a1) (a1 := a2) (a2 := a3) C458) rfl ?_)
  rintro _ _ ⟨A12, c13, rfl, rfl⟩
  refine RA_step rfl (OA_v (v := .tuple #[.agg #[.int .i64 r11.1.f0, .int .i64 r11.1.f1, .slice A12 r11.1.f2.length c13], .int .i64 r11.2]) rfl (V_move rfl) ?_)
  refine RA_step rfl (OA_v (v := .agg #[.int .i64 r11.1.f0, .int .i64 r11.1.f1, .slice A12 r11.1.f2.length c13]) rfl (V_extract rfl rfl) ?_)
  refine RA_step rfl (OA_v (v := .int .i64 r11.2) rfl (V_extract rfl rfl) ?_)
  refine RA_step rfl (OA_alloc rfl zero67 fun b15 => ?_)
  refine RA_step rfl (OA_st (b := b15) (m := 0) (k := 5) (vs := [.int .i64 r11.1.f0, .int .i64 r11.1.f1, .slice A12 r11.1.f2.length c13]) (cs' := [.int .i64 r11.1.f0, .int .i64 r11.1.f1, .slice A12 r11.1.f2.length c13]) rfl rfl rfl rfl rfl rfl sz67 rfl rfl ?_)
  refine RA_step rfl (OA_v (v := .int .i64 r11.2) rfl (V_assign rfl) ?_)
  refine RA_nil ?_
  refine at_normal ?_
  refine SA_seq ?_
  refine SA_seq ?_
  refine SA_region ?_
  refine RA_step rfl (OA_v (v := .int .i64 r11.2) rfl (V_move rfl) ?_)
  refine RA_step rfl (OA_v (v := .bool (decide (r11.2 ≠ 0))) rfl (V_neq rfl rfl) ?_)
  refine RA_nil ?_
  refine at_normal ?_
  by_cases h17 : r11.2 ≠ 0
  · replace H := g_ift h17 H
    refine SA_condT rfl h17 ?_
    refine SA_seq ?_
    refine SA_region ?_
    refine RA_step rfl (OA_v (v := .agg #[.int .i64 0, .int .i64 0, .slice none 0 0]) rfl (V_build (cells := [.int .i64 0, .int .i64 0, .slice none 0 0]) zero67 Try.underlying67 plc67 (by kernel_rfl)) ?_)
    refine RA_step rfl (OA_v (v := .int .i64 r11.2) rfl (V_move rfl) ?_)
    refine RA_step rfl (OA_st (b := b6) (m := 0) (k := 4) (vs := [.int .i64 0, .int .i64 0, .slice none 0 0]) (cs' := [.int .i64 0, .int .i64 0, .slice none 0 0]) rfl rfl rfl rfl rfl rfl sz67 rfl rfl ?_)
    refine RA_step rfl (OA_v (v := .int .i64 r11.2) rfl (V_assign rfl) ?_)
    refine RA_nil ?_
    refine at_normal ?_
    refine SA_ret ?_
    refine thn_ret ?_
    have hr_ := Option.some.inj H
    subst hr_
    exact BQ_RL (rs := [.cell 8 67, .tmp 9]) (vs := [.agg #[.int .i64 0, .int .i64 0, .slice none 0 0], .int .i64 r11.2]) [Buf k76 76 none 0 ([] : (List S76))] rfl ⟨RV.cell (k := 4) rfl rfl Try.underlying67 rfl sz67, RV.tmp rfl, trivial⟩ rfl ((Gh.nilBuf k76 76).trans (Gh.sel [6] rfl rfl)) ⟨none, 0, rfl, rfl⟩
  replace H := g_iff h17 H
  refine SA_condF rfl h17 ?_
  refine SA_skip ?_
  refine at_normal ?_
  refine SA_seq ?_
  refine SA_seq ?_
  refine SA_region ?_
  refine RA_step rfl (OA_v (v := .int .i64 0) rfl (V_assign rfl) ?_)
  refine RA_nil ?_
  refine at_normal ?_
  obtain ⟨t19, H, Bt19⟩ := g_bind H
  refine SA_mid (fun e ds As => St [(8, .pointer (some ⟨b6, 0, none⟩)), (10, .pointer (some ⟨b15, 0, none⟩))] [Blk b6 67 [.int .i64 0, .int .i64 0, .slice none 0 0], Blk b15 67 [.int .i64 r11.1.f0, .int .i64 r11.1.f1, .slice A12 t19.length c13], Buf k76 76 A12 c13 t19] e ds As) ?_ ?_
  · refine SA_block ?_
    refine SA_loop (fun k_ e ds As => ∃ (x12_19 : Int) (z10_2_19 : (List S76)), F49.l0 a0 a2 r11 k_ x12_19 z10_2_19 = some t19 ∧ St [(2, .int .i64 a2), (4, .pointer (some ⟨b2, 0, none⟩)), (8, .pointer (some ⟨b6, 0, none⟩)), (10, .pointer (some ⟨b15, 0, none⟩)), (12, .int .i64 x12_19)] [Blk b2 67 [.int .i64 a0.f0, .int .i64 a0.f1, .slice A0_0 a0.f2.length c0_0], Ro k76 A0_0 c0_0 a0.f2, Blk b6 67 [.int .i64 0, .int .i64 0, .slice none 0 0], Blk b15 67 [.int .i64 r11.1.f0, .int .i64 r11.1.f1, .slice A12 z10_2_19.length c13], Buf k76 76 A12 c13 z10_2_19] e ds As) (k := k) ⟨_, _, H, St.mk1 (aeq rfl (aeq rfl (aeq rfl (aeq rfl (aeq rfl aeq0))))) (Gh.sel [2, 1, 4, 5, 0] rfl rfl)⟩ ?_
    clear H
    rintro k20 e ds As ⟨x12_19, z10_2_19, H, hst21⟩
    obtain _ | k20 := k20
    · cases H
    rw [F49.l0] at H
    obtain ⟨hl455, H⟩ := g_pos H
    refine SA.of_St hst21 fun junk => ?_
    refine SA_seq ?_
    refine SA_seq ?_
    refine SA_region ?_
    refine RA_step rfl (OA_v (v := .int .i64 x12_19) rfl (V_move rfl) ?_)
    refine RA_step rfl (OA_v (v := .int .i64 a2) rfl (V_move rfl) ?_)
    refine RA_step rfl (OA_v (v := .pointer (some ((⟨b2, 0, none⟩ : Addr).add 1))) rfl (V_fieldAddrN (B := ⟨b2, 0, none⟩) (m := 0) (o := 1) Try.underlying67 rfl nz3 rfl rfl) ?_)
    refine RA_step rfl (OA_r rfl (VR_load_blk (b := b2) (m := 1) (k := 0) Try.underlying3 rfl rfl rfl rfl) ?_)
    refine RA_step rfl (OA_v (v := .int .i64 (minI a2 a0.f1)) rfl (V_min rfl rfl) ?_)
    refine RA_step rfl (OA_v (v := .bool (decide (x12_19 < (minI a2 a0.f1)))) rfl (V_lss rfl rfl) ?_)
    refine RA_nil ?_
    refine at_normal ?_
    by_cases h22 : x12_19 < (minI a2 a0.f1)
    · replace H := g_ift h22 H
      refine SA_condT rfl h22 ?_
      refine SA_skip ?_
      refine at_normal ?_
      refine SA_seq ?_
      refine SA_block ?_
      refine SA_seq ?_
      refine SA.fact (cap_of (k := 4) rfl) fun hc23 => ?_
      refine SA_drawHq [0, 1, 3, 4] #[[], [], [0, 1], [], [], [0, 1, 3, 4], [0, 1, 3, 4]] [0, 1, 3] [1, 2, 4] mixed rfl rfl rfl (PanOk.thn (PanOk.inb (PanOk.thn (PanOk.thn (PanOk.inb (PanOk.thn (PanOk.thn PanOk.body))))))) fun I0 hS h0 hh0 w0 sH dd pk => ?_
      refine DH_take 0 (by kernel_rfl) rfl rfl (.no rfl) pk sH rfl (VR_loadA_blk (b := b15) (m := 0) (k := 2) (vs := [.int .i64 r11.1.f0, .int .i64 r11.1.f1, .slice A12 z10_2_19.length c13]) Try.underlying67 rfl sz67 rfl rfl rfl) ?_
      refine DH_take (v := .int .i64 x12_19) 1 (by kernel_rfl) rfl rfl (.no rfl) pk sH rfl (VR.ofV (V_move rfl)) ?_
      refine DH_take 3 (by kernel_rfl) rfl rfl (.no rfl) pk sH rfl (VR_loadA_blk (b := b2) (m := 0) (k := 0) (vs := [.int .i64 a0.f0, .int .i64 a0.f1, .slice A0_0 a0.f2.length c0_0]) Try.underlying67 rfl sz67 rfl rfl rfl) ?_
      refine DH_take (v := .int .i64 x12_19) 4 (by kernel_rfl) rfl rfl (.no rfl) pk sH rfl (VR.ofV (V_move rfl)) ?_
      obtain ⟨r144, C149, H⟩ := g_bind H
      obtain ⟨⟨hl148a, hl148b, hl148c⟩, H⟩ := g_pos H
      refine DH_one 2 dd (by kernel_rfl) rfl (.no rfl) (OA_callA [2] [0, 1] rfl (X_fn (vs := [.agg #[.int .i64 r11.1.f0, .int .i64 r11.1.f1, .slice A12 z10_2_19.length c13], .int .i64 x12_19]) Try.func83 nm83 rfl rfl) rfl (F83b0.ok (a0 := (S67.mk r11.1.f0 r11.1.f1 z10_2_19)) (A0_0 := A12) (c0_0 := c13) (a1 := x12_19) C149) rfl ?_)
      rintro _ _ ⟨V145, v146, hW147, rfl, rfl⟩
      obtain ⟨r324, C328, H⟩ := g_bind H
      refine DH_one 5 dd (by kernel_rfl) rfl (.no rfl) (OA_callA [1] [0, 1, 2] rfl (X_fn (vs := [.agg #[.int .i64 a0.f0, .int .i64 a0.f1, .slice A0_0 a0.f2.length c0_0], .int .i64 x12_19]) Try.func83 nm83 rfl rfl) rfl (F83.ok (a0 := a0) (A0_0 := A0_0) (c0_0 := c0_0) (a1 := x12_19) C328) rfl ?_)
      rintro _ _ ⟨A325, c326, rfl, rfl⟩
      obtain ⟨n384, hn384, H⟩ := g_lt H
      have hl_n384 : n384.length = z10_2_19.length := by rw [hn384]; exact over_len (by rw [List.length_take]; omega)
      refine DH_one 6 dd (by kernel_rfl) rfl (.no rfl) (OA_copyV (k := 1) (l := r144.1) (m := r144.2) (xs := z10_2_19) (ys := r324) n384 hn384 hW147 rfl Try.underlying65 sz76 rfl rfl rfl (by omega) rfl (Cpy.slice (Src.ro (k := 0) rfl)) ?_)
      try rewrite [← hl_n384]
      try rewrite [← hl_n384] at sH
      refine DH_open dd sH ?_
      refine DN_done (by kernel_rfl) ?_
      refine at_normal ?_
      refine SA_region ?_
      refine RA_step rfl (OA_r rfl (VR_loadA_blk (b := b15) (m := 0) (k := 2) (vs := [.int .i64 r11.1.f0, .int .i64 r11.1.f1, .slice A12 n384.length c13]) Try.underlying67 rfl sz67 rfl rfl rfl) ?_)
      refine RA_step rfl (OA_v (v := .int .i64 x12_19) rfl (V_move rfl) ?_)
      obtain ⟨r445, C454, H⟩ := g_bind H
      obtain ⟨⟨hl449a, hl449b, hl449c⟩, H⟩ := g_pos H
      refine RA_step rfl (OA_callA [4] [0, 1, 2, 3, 5, 6] rfl (X_fn (vs := [.agg #[.int .i64 r11.1.f0, .int .i64 r11.1.f1, .slice A12 n384.length c13], .int .i64 x12_19]) Try.func83 nm83 rfl rfl) rfl (F83b0.ok (a0 := (S67.mk r11.1.f0 r11.1.f1 n384)) (A0_0 := A12) (c0_0 := c13) (a1 := x12_19) C454) rfl ?_)
      rintro _ _ ⟨V446, v447, hW448, rfl, rfl⟩
      obtain ⟨r450, C453, H⟩ := g_bind H
      obtain ⟨hl451, H⟩ := g_pos H
      refine RA_step rfl (OA_callA [0] [1, 2, 3, 4, 5, 6] rfl (X_fn (vs := [.slice V446 r445.2.toNat v447]) Try.func90 nm90 rfl rfl) rfl (F90w0.ok (l0 := n384) (o0 := r445.1) (n0 := r445.2) (A0 := A12) (c0 := c13) (V0 := V446) (v0 := v447) (hw0 := hW448) C453) rfl ?_)
      rintro _ _ ⟨rfl, rfl⟩
      try rewrite [← hl451]
      refine RA_nil ?_
      refine inb_normal ?_
      refine at_normal ?_
      refine SA_region ?_
      refine RA_step rfl (OA_v (v := .int .i64 x12_19) rfl (V_move rfl) ?_)
      refine RA_step rfl (OA_v (v := .int .i64 (IntKind.i64.wrap (x12_19 + 1))) rfl (V_add rfl rfl) ?_)
      obtain ⟨n452, hn452, H⟩ := g_lt H
      refine RA_step rfl (OA_v (v := .int .i64 n452) rfl (V_assign (v := .int .i64 n452) (congrArg (Value.int .i64) hn452.symm)) ?_)
      refine RA_nil ?_
      exact at_normal ⟨k20, Nat.lt_succ_self _, _, _, H, St.mk1 (aeq rfl (aeq rfl (aeq rfl (aeq rfl (aeq rfl aeq0))))) (Gh.sel [1, 2, 6, 3, 0] rfl rfl)⟩
    replace H := g_iff h22 H
    refine SA_condF rfl h22 ?_
    refine SA_exit ?_
    refine thn_exit ?_
    refine thn_exit ?_
    refine inb_hit ?_
    have hr_ := Option.some.inj H
    subst hr_
    exact at_normal (St.mk1 (aeq rfl (aeq rfl aeq0)) (Gh.sel [2, 3, 4] rfl rfl))
  rintro e ds As hst456
  clear H
  have H := Bt19
  clear Bt19
  obtain ⟨hl457, H⟩ := g_pos H
  refine at_normal ?_
  refine SA.of_St hst456 fun junk => ?_
  refine SA_seq ?_
  refine SA_region ?_
  refine RA_step rfl (OA_r rfl (VR_loadA_blk (b := b15) (m := 0) (k := 1) (vs := [.int .i64 r11.1.f0, .int .i64 r11.1.f1, .slice A12 t19.length c13]) Try.underlying67 rfl sz67 rfl rfl rfl) ?_)
  refine RA_step rfl (OA_st (b := b6) (m := 0) (k := 0) (vs := [.int .i64 r11.1.f0, .int .i64 r11.1.f1, .slice A12 t19.length c13]) (cs' := [.int .i64 r11.1.f0, .int .i64 r11.1.f1, .slice A12 t19.length c13]) rfl rfl rfl rfl rfl rfl sz67 rfl rfl ?_)
  refine RA_step rfl (OA_v (v := .int .i64 0) rfl (V_assign rfl) ?_)
  refine RA_nil ?_
  refine at_normal ?_
  refine SA_ret ?_
  have hr_ := Option.some.inj H
  subst hr_
  exact BQ_RL (rs := [.cell 8 67, .tmp 9]) (vs := [.agg #[.int .i64 r11.1.f0, .int .i64 r11.1.f1, .slice A12 t19.length c13], .int .i64 0]) [Buf k76 76 A12 c13 t19] rfl ⟨RV.cell (k := 0) rfl rfl Try.underlying67 rfl sz67, RV.tmp rfl, trivial⟩ rfl (Gh.sel [2] rfl rfl) ⟨A12, c13, rfl, rfl⟩

/-! ### function 91: slices.Equal[[]wayfarer/api.Cell,wayfarer/api.Cell] -/
def F91.l0 (l0 : (List S76)) (l1 : (List S76)) : Nat → Int → Option (Out (Bool) (Unit))
  | 0, _ => none
  | k + 1, x13_5 => if x13_5 < (l0.length : Int) then (if 0 ≤ x13_5 ∧ x13_5 < (l0.length : Int) then (if 0 ≤ x13_5 ∧ x13_5 < (l1.length : Int) then (if (rd l0 x13_5) ≠ (rd l1 x13_5) then (some (Out.ret (false))) else (F91.l0 l0 l1 k (IntKind.i64.wrap (x13_5 + 1)))) else none) else none) else (some (Out.go ()))
def F91.f (k : Nat) (l0 : (List S76)) (l1 : (List S76)) : Option (Bool) := if (l0.length : Int) ≠ (l1.length : Int) then (some (false)) else ((F91.l0 l0 l1 k 0 : Option (Out (Bool) (Unit))).bind (fun t4 => Out.el t4 (fun r_ => some r_) (fun s5 => some (true))))
set_option maxHeartbeats 2000000 in
set_option maxRecDepth 100000 in
theorem F91.ok {k : Nat} {l0 : (List S76)} {l1 : (List S76)} {A0 : Option Addr} {c0 : Nat} {A1 : Option Addr} {c1 : Nat} {r : Bool} (H : F91.f k l0 l1 = some r) : SCA Try.prog 91 #[.slice A0 l0.length c0, .slice A1 l1.length c1] [Ro k76 A0 c0 l0, Ro k76 A1 c1 l1] (fun v B => v = .bool r ∧ B = []) := by
  refine SCA_of_body Try.func91 rfl rfl ?_
  unfold F91.f at H
  refine SA_seq ?_
  refine SA_region ?_
  refine RA_step rfl (OA_v (v := .bool false) rfl (V_assign rfl) ?_)
  refine RA_nil ?_
  refine at_normal ?_
  refine SA_seq ?_
  refine SA_seq ?_
  refine SA_region ?_
  refine RA_step rfl (OA_v (v := .slice A0 l0.length c0) rfl (V_move rfl) ?_)
  refine RA_step rfl (OA_v (v := .int .i64 (l0.length : Int)) rfl (V_len Try.underlying65 rfl) ?_)
  refine RA_step rfl (OA_v (v := .slice A1 l1.length c1) rfl (V_move rfl) ?_)
  refine RA_step rfl (OA_v (v := .int .i64 (l1.length : Int)) rfl (V_len Try.underlying65 rfl) ?_)
  refine RA_step rfl (OA_v (v := .bool (decide ((l0.length : Int) ≠ (l1.length : Int)))) rfl (V_neq rfl rfl) ?_)
  refine RA_nil ?_
  refine at_normal ?_
  by_cases h3 : (l0.length : Int) ≠ (l1.length : Int)
  · replace H := g_ift h3 H
    refine SA_condT rfl h3 ?_
    refine SA_seq ?_
    refine SA_region ?_
    refine RA_step rfl (OA_v (v := .bool false) rfl (V_assign rfl) ?_)
    refine RA_nil ?_
    refine at_normal ?_
    refine SA_ret ?_
    refine thn_ret ?_
    have hr_ := Option.some.inj H
    subst hr_
    exact BQ_R1 [] rfl rfl (Gh.sel [] rfl rfl) ⟨rfl, rfl⟩
  replace H := g_iff h3 H
  refine SA_condF rfl h3 ?_
  refine SA_skip ?_
  refine at_normal ?_
  refine SA_seq ?_
  refine SA_seq ?_
  refine SA_region ?_
  refine RA_step rfl (OA_v (v := .slice A0 l0.length c0) rfl (V_move rfl) ?_)
  refine RA_step rfl (OA_v (v := .int .i64 (l0.length : Int)) rfl (V_len Try.underlying65 rfl) ?_)
  refine RA_step rfl (OA_v (v := .int .i64 0) rfl (V_move rfl) ?_)
  refine RA_nil ?_
  refine at_normal ?_
  obtain ⟨t4, H, Bt4⟩ := g_bind H
  refine SA_mid (fun e ds As => ∃ (s5 : Unit), t4 = Out.go s5 ∧ St [] [] e ds As) ?_ ?_
  · refine SA_block ?_
    refine SA_loop (fun k_ e ds As => ∃ (x13_5 : Int), F91.l0 l0 l1 k_ x13_5 = some t4 ∧ St [(0, .slice A0 l0.length c0), (1, .slice A1 l1.length c1), (12, .int .i64 (l0.length : Int)), (13, .int .i64 x13_5)] [Ro k76 A0 c0 l0, Ro k76 A1 c1 l1] e ds As) (k := k) ⟨_, H, St.mk1 (aeq rfl (aeq rfl (aeq rfl (aeq rfl aeq0)))) (Gh.sel [0, 1] rfl rfl)⟩ ?_
    clear H
    rintro k6 e ds As ⟨x13_5, H, hst7⟩
    obtain _ | k6 := k6
    · cases H
    rw [F91.l0] at H
    refine SA.of_St hst7 fun junk => ?_
    refine SA_seq ?_
    refine SA_region ?_
    refine RA_step rfl (OA_v (v := .bool (decide (x13_5 < (l0.length : Int)))) rfl (V_lss rfl rfl) ?_)
    refine RA_nil ?_
    refine at_normal ?_
    refine SA_seq ?_
    by_cases h8 : x13_5 < (l0.length : Int)
    · replace H := g_ift h8 H
      refine SA_condT rfl h8 ?_
      refine SA_skip ?_
      refine at_normal ?_
      refine SA_seq ?_
      refine SA_block ?_
      refine SA_seq ?_
      refine SA_region ?_
      refine RA_step rfl (OA_v (v := .int .i64 x13_5) rfl (V_move rfl) ?_)
      refine RA_step rfl (OA_v (v := .int .i64 x13_5) rfl (V_assign rfl) ?_)
      refine RA_nil ?_
      refine at_normal ?_
      refine SA_seq ?_
      refine SA_drawHq [0, 1, 2, 3, 4, 5, 6, 7, 8] #[[], [], [0, 1], [0, 1, 2], [], [], [4, 5], [4, 5, 6], [0, 1, 2, 3, 4, 5, 6, 7]] [0, 1] [0, 1] mixed rfl rfl rfl (PanOk.thn (PanOk.inb (PanOk.thn (PanOk.thn (PanOk.inb (PanOk.thn (PanOk.thn PanOk.body))))))) fun I0 hS h0 hh0 w0 sH dd pk => ?_
      refine DH_take (v := .slice A0 l0.length c0) 0 (by kernel_rfl) rfl rfl (.no rfl) pk sH rfl (VR.ofV (V_move rfl)) ?_
      refine DH_take (v := .int .i64 x13_5) 1 (by kernel_rfl) rfl rfl (.no rfl) pk sH rfl (VR.ofV (V_move rfl)) ?_
      obtain ⟨⟨g129, g130⟩, H⟩ := g_pos H
      refine DH_take 2 (by kernel_rfl) rfl rfl (.no rfl) pk sH rfl (VR_index (i := x13_5) Try.underlying65 sz76 rfl rfl (Src.ro (k := 0) rfl) g129 g130) ?_
      refine DH_take 3 (by kernel_rfl) rfl rfl (.no rfl) pk sH rfl (VR_loadA_el (enc := enc76) (i := x13_5) (j := x13_5.toNat * 15) (m := 0) (sz := 15) (vs := (.int .i32 ((rd l0 x13_5).f0) :: .int .i32 (((rd l0 x13_5).f1).f0) :: .int .i32 (((rd l0 x13_5).f1).f1) :: .int .i32 (((rd l0 x13_5).f1).f2) :: .int .u8 ((rd l0 x13_5).f2) :: .int .i64 (((rd l0 x13_5).f3).f0) :: .int .i64 (((rd l0 x13_5).f3).f1) :: .bool (((rd l0 x13_5).f3).f2) :: .bool (((rd l0 x13_5).f3).f3) :: .bool (((rd l0 x13_5).f3).f4) :: .bool (((rd l0 x13_5).f3).f5) :: .bool (((rd l0 x13_5).f3).f6) :: .bool (((rd l0 x13_5).f3).f7) :: .bool (((rd l0 x13_5).f3).f8) :: .bool (((rd l0 x13_5).f3).f9) :: [])) Try.underlying76 rfl sz76 rfl rfl rfl (Src.ro (k := 0) rfl) g129 g130 (fun _ _ h => h) rfl) ?_
      refine DH_take (v := .slice A1 l1.length c1) 4 (by kernel_rfl) rfl rfl (.no rfl) pk sH rfl (VR.ofV (V_move rfl)) ?_
      refine DH_take (v := .int .i64 x13_5) 5 (by kernel_rfl) rfl rfl (.no rfl) pk sH rfl (VR.ofV (V_move rfl)) ?_
      obtain ⟨⟨g369, g370⟩, H⟩ := g_pos H
      refine DH_take 6 (by kernel_rfl) rfl rfl (.no rfl) pk sH rfl (VR_index (i := x13_5) Try.underlying65 sz76 rfl rfl (Src.ro (k := 1) rfl) g369 g370) ?_
      refine DH_take 7 (by kernel_rfl) rfl rfl (.no rfl) pk sH rfl (VR_loadA_el (enc := enc76) (i := x13_5) (j := x13_5.toNat * 15) (m := 0) (sz := 15) (vs := (.int .i32 ((rd l1 x13_5).f0) :: .int .i32 (((rd l1 x13_5).f1).f0) :: .int .i32 (((rd l1 x13_5).f1).f1) :: .int .i32 (((rd l1 x13_5).f1).f2) :: .int .u8 ((rd l1 x13_5).f2) :: .int .i64 (((rd l1 x13_5).f3).f0) :: .int .i64 (((rd l1 x13_5).f3).f1) :: .bool (((rd l1 x13_5).f3).f2) :: .bool (((rd l1 x13_5).f3).f3) :: .bool (((rd l1 x13_5).f3).f4) :: .bool (((rd l1 x13_5).f3).f5) :: .bool (((rd l1 x13_5).f3).f6) :: .bool (((rd l1 x13_5).f3).f7) :: .bool (((rd l1 x13_5).f3).f8) :: .bool (((rd l1 x13_5).f3).f9) :: [])) Try.underlying76 rfl sz76 rfl rfl rfl (Src.ro (k := 1) rfl) g369 g370 (fun _ _ h => h) rfl) ?_
      refine DH_take (v := .bool (decide ((rd l0 x13_5) ≠ (rd l1 x13_5)))) 8 (by kernel_rfl) rfl rfl (.no rfl) pk sH rfl (VR.ofV (V_neqD (xs := (.int .i32 ((rd l0 x13_5).f0) :: .int .i32 (((rd l0 x13_5).f1).f0) :: .int .i32 (((rd l0 x13_5).f1).f1) :: .int .i32 (((rd l0 x13_5).f1).f2) :: .int .u8 ((rd l0 x13_5).f2) :: .int .i64 (((rd l0 x13_5).f3).f0) :: .int .i64 (((rd l0 x13_5).f3).f1) :: .bool (((rd l0 x13_5).f3).f2) :: .bool (((rd l0 x13_5).f3).f3) :: .bool (((rd l0 x13_5).f3).f4) :: .bool (((rd l0 x13_5).f3).f5) :: .bool (((rd l0 x13_5).f3).f6) :: .bool (((rd l0 x13_5).f3).f7) :: .bool (((rd l0 x13_5).f3).f8) :: .bool (((rd l0 x13_5).f3).f9) :: [])) (ys := (.int .i32 ((rd l1 x13_5).f0) :: .int .i32 (((rd l1 x13_5).f1).f0) :: .int .i32 (((rd l1 x13_5).f1).f1) :: .int .i32 (((rd l1 x13_5).f1).f2) :: .int .u8 ((rd l1 x13_5).f2) :: .int .i64 (((rd l1 x13_5).f3).f0) :: .int .i64 (((rd l1 x13_5).f3).f1) :: .bool (((rd l1 x13_5).f3).f2) :: .bool (((rd l1 x13_5).f3).f3) :: .bool (((rd l1 x13_5).f3).f4) :: .bool (((rd l1 x13_5).f3).f5) :: .bool (((rd l1 x13_5).f3).f6) :: .bool (((rd l1 x13_5).f3).f7) :: .bool (((rd l1 x13_5).f3).f8) :: .bool (((rd l1 x13_5).f3).f9) :: [])) (r := ((((rd l0 x13_5).f0) == ((rd l1 x13_5).f0)) && ((((((rd l0 x13_5).f1).f0) == (((rd l1 x13_5).f1).f0)) && (((((rd l0 x13_5).f1).f1) == (((rd l1 x13_5).f1).f1)) && (((((rd l0 x13_5).f1).f2) == (((rd l1 x13_5).f1).f2)) && true))) && ((((rd l0 x13_5).f2) == ((rd l1 x13_5).f2)) && ((((((rd l0 x13_5).f3).f0) == (((rd l1 x13_5).f3).f0)) && (((((rd l0 x13_5).f3).f1) == (((rd l1 x13_5).f3).f1)) && (((((rd l0 x13_5).f3).f2) == (((rd l1 x13_5).f3).f2)) && (((((rd l0 x13_5).f3).f3) == (((rd l1 x13_5).f3).f3)) && (((((rd l0 x13_5).f3).f4) == (((rd l1 x13_5).f3).f4)) && (((((rd l0 x13_5).f3).f5) == (((rd l1 x13_5).f3).f5)) && (((((rd l0 x13_5).f3).f6) == (((rd l1 x13_5).f3).f6)) && (((((rd l0 x13_5).f3).f7) == (((rd l1 x13_5).f3).f7)) && (((((rd l0 x13_5).f3).f8) == (((rd l1 x13_5).f3).f8)) && (((((rd l0 x13_5).f3).f9) == (((rd l1 x13_5).f3).f9)) && true)))))))))) && true))))) (p := (rd l0 x13_5) = (rd l1 x13_5)) eqg76 rfl rfl (by kernel_rfl) (eqv76 (x := rd l0 x13_5) (y := rd l1 x13_5)))) ?_
      refine DH_open dd sH ?_
      refine DN_done (by kernel_rfl) ?_
      refine at_normal ?_
      by_cases h550 : (rd l0 x13_5) ≠ (rd l1 x13_5)
      · replace H := g_ift h550 H
        refine SA_condT rfl h550 ?_
        refine SA_seq ?_
        refine SA_region ?_
        refine RA_step rfl (OA_v (v := .bool false) rfl (V_assign rfl) ?_)
        refine RA_nil ?_
        refine at_normal ?_
        refine SA_ret ?_
        refine inb_ret ?_
        refine thn_ret ?_
        refine thn_ret ?_
        refine inb_ret ?_
        refine thn_ret ?_
        refine thn_ret ?_
        have hr_ := Option.some.inj H
        subst hr_
        have hb_ := el_ret Bt4
        have hr_ := Option.some.inj hb_
        clear hb_
        subst hr_
        exact BQ_R1 [] rfl rfl (Gh.sel [] rfl rfl) ⟨rfl, rfl⟩
      replace H := g_iff h550 H
      refine SA_condF rfl h550 ?_
      refine SA_skip ?_
      refine inb_normal ?_
      refine at_normal ?_
      refine SA_region ?_
      refine RA_step rfl (OA_v (v := .int .i64 (IntKind.i64.wrap (x13_5 + 1))) rfl (V_add rfl rfl) ?_)
      refine RA_step rfl (OA_v (v := .int .i64 (IntKind.i64.wrap (x13_5 + 1))) rfl (V_move rfl) ?_)
      refine RA_nil ?_
      exact at_normal ⟨k6, Nat.lt_succ_self _, _, H, St.mk1 (aeq rfl (aeq rfl (aeq rfl (aeq rfl aeq0)))) (Gh.sel [0, 1] rfl rfl)⟩
    replace H := g_iff h8 H
    refine SA_condF rfl h8 ?_
    refine SA_exit ?_
    refine thn_exit ?_
    refine thn_exit ?_
    refine inb_hit ?_
    have hr_ := Option.some.inj H
    subst hr_
    exact at_normal ⟨(), rfl, St.mk1 aeq0 (Gh.sel [] rfl rfl)⟩
  rintro e ds As ⟨s5, ht, hst551⟩
  clear H
  subst ht
  replace Bt4 := el_go Bt4
  have H := Bt4
  clear Bt4
  refine at_normal ?_
  refine SA.of_St hst551 fun junk => ?_
  refine SA_seq ?_
  refine SA_region ?_
  refine RA_step rfl (OA_v (v := .bool true) rfl (V_assign rfl) ?_)
  refine RA_nil ?_
  refine at_normal ?_
  refine SA_ret ?_
  have hr_ := Option.some.inj H
  subst hr_
  exact BQ_R1 [] rfl rfl (Gh.sel [] rfl rfl) ⟨rfl, rfl⟩

/-! ### function 50: wayfarer/grid.Same -/
def F50.f (k : Nat) (a0 : S67) (a1 : S67) : Option (Bool) := lt ((decide (a0.f0 = a1.f0)) && (decide (a0.f1 = a1.f1))) fun q7 => (if q7 = true then ((F91.f k a0.f2 a1.f2).bind (fun r12 => some r12)) else (some false) : Option Bool).bind (fun q10 => some (q10))
set_option maxHeartbeats 2000000 in
set_option maxRecDepth 100000 in
theorem F50.ok {k : Nat} {a0 : S67} {a1 : S67} {A0_0 : Option Addr} {c0_0 : Nat} {A1_0 : Option Addr} {c1_0 : Nat} {r : Bool} (H : F50.f k a0 a1 = some r) : SCA Try.prog 50 #[.agg #[.int .i64 a0.f0, .int .i64 a0.f1, .slice A0_0 a0.f2.length c0_0], .agg #[.int .i64 a1.f0, .int .i64 a1.f1, .slice A1_0 a1.f2.length c1_0]] [Ro k76 A0_0 c0_0 a0.f2, Ro k76 A1_0 c1_0 a1.f2] (fun v B => v = .bool r ∧ B = []) := by
  refine SCA_of_body Try.func50 rfl rfl ?_
  unfold F50.f at H
  refine SA_seq ?_
  refine SA_region ?_
  refine RA_step rfl (OA_box rfl rfl fun b3 => ?_)
  refine RA_step rfl (OA_box rfl rfl fun b5 => ?_)
  refine RA_step rfl (OA_v (v := .bool false) rfl (V_assign rfl) ?_)
  refine RA_nil ?_
  refine at_normal ?_
  refine SA_seq ?_
  refine SA_region ?_
  refine RA_step rfl (OA_v (v := .pointer (some ⟨b3, 0, none⟩)) rfl (V_fieldAddrN (B := ⟨b3, 0, none⟩) (m := 0) (o := 0) Try.underlying67 rfl nz3 rfl rfl) ?_)
  refine RA_step rfl (OA_r rfl (VR_load_blk (b := b3) (m := 0) (k := 2) Try.underlying3 rfl rfl rfl rfl) ?_)
  refine RA_step rfl (OA_v (v := .pointer (some ⟨b5, 0, none⟩)) rfl (V_fieldAddrN (B := ⟨b5, 0, none⟩) (m := 0) (o := 0) Try.underlying67 rfl nz3 rfl rfl) ?_)
  refine RA_step rfl (OA_r rfl (VR_load_blk (b := b5) (m := 0) (k := 3) Try.underlying3 rfl rfl rfl rfl) ?_)
  refine RA_step rfl (OA_v (v := .bool (decide (a0.f0 = a1.f0))) rfl (V_eql rfl rfl) ?_)
  refine RA_step rfl (OA_v (v := .bool (decide (a0.f0 = a1.f0))) rfl (V_move rfl) ?_)
  obtain ⟨q7, hq7, H⟩ := g_lt H
  refine RA_cut 6 (fun e ds As => St [(2, .pointer (some ⟨b3, 0, none⟩)), (3, .pointer (some ⟨b5, 0, none⟩)), (16, .bool q7)] [Blk b3 67 [.int .i64 a0.f0, .int .i64 a0.f1, .slice A0_0 a0.f2.length c0_0], Ro k76 A0_0 c0_0 a0.f2, Blk b5 67 [.int .i64 a1.f0, .int .i64 a1.f1, .slice A1_0 a1.f2.length c1_0], Ro k76 A1_0 c1_0 a1.f2] e ds As) ?_ ?_
  · by_cases h8 : a0.f0 = a1.f0
    · refine RA_yesB rfl rfl rfl rfl (dec_t h8) (OA_v (v := .pointer (some ((⟨b3, 0, none⟩ : Addr).add 1))) rfl (V_fieldAddrN (B := ⟨b3, 0, none⟩) (m := 0) (o := 1) Try.underlying67 rfl nz3 rfl rfl) ?_)
      refine RA_yesB rfl rfl rfl rfl (dec_t h8) (OA_r rfl (VR_load_blk (b := b3) (m := 1) (k := 2) Try.underlying3 rfl rfl rfl rfl) ?_)
      refine RA_yesB rfl rfl rfl rfl (dec_t h8) (OA_v (v := .pointer (some ((⟨b5, 0, none⟩ : Addr).add 1))) rfl (V_fieldAddrN (B := ⟨b5, 0, none⟩) (m := 0) (o := 1) Try.underlying67 rfl nz3 rfl rfl) ?_)
      refine RA_yesB rfl rfl rfl rfl (dec_t h8) (OA_r rfl (VR_load_blk (b := b5) (m := 1) (k := 3) Try.underlying3 rfl rfl rfl rfl) ?_)
      refine RA_yesB rfl rfl rfl rfl (dec_t h8) (OA_v (v := .bool (decide (a0.f1 = a1.f1))) rfl (V_eql rfl rfl) ?_)
      refine RA_step rfl (OA_v rfl (V_pickT rfl (dec_t h8) rfl) ?_)
      refine RA_nil ?_
      exact at_normal (St.mk1 (aeq rfl (aeq rfl (aeq (congrArg Value.bool (and_t hq7 (dec_t h8))) aeq0))) (Gh.sel [2, 0, 3, 1] rfl rfl))
    refine RA_noB rfl rfl rfl rfl (dec_f h8) rfl ?_
    refine RA_noB rfl rfl rfl rfl (dec_f h8) rfl ?_
    refine RA_noB rfl rfl rfl rfl (dec_f h8) rfl ?_
    refine RA_noB rfl rfl rfl rfl (dec_f h8) rfl ?_
    refine RA_noB rfl rfl rfl rfl (dec_f h8) rfl ?_
    refine RA_step rfl (OA_v rfl (V_pickF rfl (dec_f h8) rfl) ?_)
    refine RA_nil ?_
    exact at_normal (St.mk1 (aeq rfl (aeq rfl (aeq (congrArg Value.bool (and_f hq7 (dec_f h8))) aeq0))) (Gh.sel [2, 0, 3, 1] rfl rfl))
  rintro e ds As hst9
  refine RA.of_St rfl hst9 fun junk => ?_
  refine RA_step rfl (OA_v (v := .bool q7) rfl (V_move rfl) ?_)
  obtain ⟨q10, H, Bq10⟩ := g_bind H
  refine RA_cut 6 (fun e ds As => St [(23, .bool q10)] [] e ds As) ?_ ?_
  · by_cases h11 : q7 = true
    · replace H := g_ift h11 H
      refine RA_yesB rfl rfl rfl rfl (h11) (OA_v (v := .pointer (some ((⟨b3, 0, none⟩ : Addr).add 2))) rfl (V_fieldAddrN (B := ⟨b3, 0, none⟩) (m := 0) (o := 2) Try.underlying67 rfl nz65 rfl rfl) ?_)
      refine RA_yesB rfl rfl rfl rfl (h11) (OA_r rfl (VR_load_blk (b := b3) (m := 2) (k := 0) Try.underlying65 rfl rfl rfl rfl) ?_)
      refine RA_yesB rfl rfl rfl rfl (h11) (OA_v (v := .pointer (some ((⟨b5, 0, none⟩ : Addr).add 2))) rfl (V_fieldAddrN (B := ⟨b5, 0, none⟩) (m := 0) (o := 2) Try.underlying67 rfl nz65 rfl rfl) ?_)
      refine RA_yesB rfl rfl rfl rfl (h11) (OA_r rfl (VR_load_blk (b := b5) (m := 2) (k := 2) Try.underlying65 rfl rfl rfl rfl) ?_)
      obtain ⟨r12, C13, H⟩ := g_bind H
      refine RA_yesB rfl rfl rfl rfl (h11) (OA_callA [1, 3] [0, 1, 2, 3] rfl (X_fn (vs := [.slice A0_0 a0.f2.length c0_0, .slice A1_0 a1.f2.length c1_0]) Try.func91 nm91 rfl rfl) rfl (F91.ok (l0 := a0.f2) (A0 := A0_0) (c0 := c0_0) (l1 := a1.f2) (A1 := A1_0) (c1 := c1_0) C13) rfl ?_)
      rintro _ _ ⟨rfl, rfl⟩
      refine RA_step rfl (OA_v rfl (V_pickT rfl (h11) rfl) ?_)
      have hr_ := Option.some.inj H
      subst hr_
      refine RA_nil ?_
      exact at_normal (St.mk1 (aeq rfl aeq0) (Gh.sel [] rfl rfl))
    replace H := g_iff h11 H
    refine RA_noB rfl rfl rfl rfl (bno h11) rfl ?_
    refine RA_noB rfl rfl rfl rfl (bno h11) rfl ?_
    refine RA_noB rfl rfl rfl rfl (bno h11) rfl ?_
    refine RA_noB rfl rfl rfl rfl (bno h11) rfl ?_
    refine RA_noB rfl rfl rfl rfl (bno h11) rfl ?_
    refine RA_step rfl (OA_v rfl (V_pickF rfl (bno h11) rfl) ?_)
    have hr_ := Option.some.inj H
    subst hr_
    refine RA_nil ?_
    exact at_normal (St.mk1 (aeq rfl aeq0) (Gh.sel [] rfl rfl))
  rintro e ds As hst14
  clear H
  have H := Bq10
  clear Bq10
  refine RA.of_St rfl hst14 fun junk => ?_
  refine RA_step rfl (OA_v (v := .bool q10) rfl (V_assign rfl) ?_)
  refine RA_nil ?_
  refine at_normal ?_
  refine SA_ret ?_
  have hr_ := Option.some.inj H
  subst hr_
  exact BQ_R1 [] rfl rfl (Gh.sel [] rfl rfl) ⟨rfl, rfl⟩

/-! ### function 69: wayfarer/wayfarerref14.Put -/
def F69.f (k : Nat) (a0 : Int) (a1 : S70) : Option ((List S76)) := (F102.f k a0).bind (fun r3 => if r3 = 1 then (some (([(S76.mk a0 (S74.mk 0 0 0) 1 a1)] : (List S76)))) else (if r3 = 2 then (some (([(S76.mk a0 (S74.mk 0 0 0) 2 a1), (S76.mk 0 (S74.mk 0 0 0) 0 a1)] : (List S76)))) else (some (([] : (List S76))))))
set_option maxHeartbeats 2000000 in
set_option maxRecDepth 100000 in
theorem F69.ok {k : Nat} {a0 : Int} {a1 : S70} {r : (List S76)} (H : F69.f k a0 a1 = some r) : SCA Try.prog 69 #[.int .i32 a0, .agg #[.int .i64 a1.f0, .int .i64 a1.f1, .bool a1.f2, .bool a1.f3, .bool a1.f4, .bool a1.f5, .bool a1.f6, .bool a1.f7, .bool a1.f8, .bool a1.f9]] [] (fun v B => ∃ (A0_0_ : Option Addr) (c0_0_ : Nat), v = .slice A0_0_ r.length c0_0_ ∧ B = [Buf k76 76 A0_0_ c0_0_ r]) := by
  refine SCA_of_body Try.func69 rfl rfl ?_
  unfold F69.f at H
  refine SA_seq ?_
  refine SA_region ?_
  refine RA_step rfl (OA_box rfl rfl fun b1 => ?_)
  refine RA_step rfl (OA_v (v := .slice none 0 0) rfl (V_assign rfl) ?_)
  refine RA_nil ?_
  refine at_normal ?_
  refine SA_seq ?_
  refine SA_seq ?_
  refine SA_region ?_
  refine RA_step rfl (OA_v (v := .int .i32 a0) rfl (V_move rfl) ?_)
  obtain ⟨r3, C11, H⟩ := g_bind H
  refine RA_step rfl (OA_callA [] [0] rfl (X_fn (vs := [.int .i32 a0]) Try.func102 nm102 rfl rfl) rfl (F102.ok (a0 := a0) C11) rfl ?_)
  rintro _ _ ⟨rfl, rfl⟩
  refine RA_nil ?_
  refine at_normal ?_
  refine SA_block ?_
  refine SA_seq ?_
  refine SA_region ?_
  refine RA_step rfl (OA_v (v := .bool (decide (r3 = 1))) rfl (V_eql rfl rfl) ?_)
  refine RA_step rfl (OA_v (v := .bool (decide (r3 = 1))) rfl (V_assign rfl) ?_)
  refine RA_nil ?_
  refine at_normal ?_
  by_cases h4 : r3 = 1
  · replace H := g_ift h4 H
    refine SA_condT rfl h4 ?_
    refine SA_seq ?_
    refine SA_region ?_
    refine RA_step rfl (OA_v (v := .int .i32 a0) rfl (V_move rfl) ?_)
    refine RA_step rfl (OA_r rfl (VR_loadA_blk (b := b1) (m := 0) (k := 0) (vs := [.int .i64 a1.f0, .int .i64 a1.f1, .bool a1.f2, .bool a1.f3, .bool a1.f4, .bool a1.f5, .bool a1.f6, .bool a1.f7, .bool a1.f8, .bool a1.f9]) Try.underlying70 rfl sz70 rfl rfl rfl) ?_)
    refine RA_step rfl (OA_v (v := .agg (List.toArray (.int .i32 a0 :: .int .i32 0 :: .int .i32 0 :: .int .i32 0 :: .int .u8 1 :: .int .i64 a1.f0 :: .int .i64 a1.f1 :: .bool a1.f2 :: .bool a1.f3 :: .bool a1.f4 :: .bool a1.f5 :: .bool a1.f6 :: .bool a1.f7 :: .bool a1.f8 :: .bool a1.f9 :: []))) rfl (V_build (cells := (.int .i32 a0 :: .int .i32 0 :: .int .i32 0 :: .int .i32 0 :: .int .u8 1 :: .int .i64 a1.f0 :: .int .i64 a1.f1 :: .bool a1.f2 :: .bool a1.f3 :: .bool a1.f4 :: .bool a1.f5 :: .bool a1.f6 :: .bool a1.f7 :: .bool a1.f8 :: .bool a1.f9 :: [])) zero76 Try.underlying76 plc76 (by kernel_rfl)) ?_)
    refine RA_step rfl (OA_bs (kd := k76) (zv := (.agg (List.toArray (.int .i32 0 :: .int .i32 0 :: .int .i32 0 :: .int .i32 0 :: .int .u8 0 :: .int .i64 0 :: .int .i64 0 :: .bool false :: .bool false :: .bool false :: .bool false :: .bool false :: .bool false :: .bool false :: .bool false :: [])))) (sz := 15) (cells := (.int .i32 a0 :: .int .i32 0 :: .int .i32 0 :: .int .i32 0 :: .int .u8 1 :: .int .i64 a1.f0 :: .int .i64 a1.f1 :: .bool a1.f2 :: .bool a1.f3 :: .bool a1.f4 :: .bool a1.f5 :: .bool a1.f6 :: .bool a1.f7 :: .bool a1.f8 :: .bool a1.f9 :: [])) (xs := ([(S76.mk a0 (S74.mk 0 0 0) 1 a1)] : (List S76))) rfl Try.underlying65 zero76 sz76 rfl rfl rfl (by kernel_rfl) rfl rfl (RL_enc enc76 (fun _ _ => rfl) (by kernel_rfl)) fun b5 => ?_)
    refine RA_step rfl (OA_v (v := .slice (some ⟨b5, 0, none⟩) ([(S76.mk a0 (S74.mk 0 0 0) 1 a1)] : (List S76)).length 1) rfl (V_assign rfl) ?_)
    refine RA_nil ?_
    refine at_normal ?_
    refine SA_ret ?_
    refine inb_ret ?_
    refine thn_ret ?_
    have hr_ := Option.some.inj H
    subst hr_
    exact BQ_R1 [Buf k76 76 (some ⟨b5, 0, none⟩) 1 ([(S76.mk a0 (S74.mk 0 0 0) 1 a1)] : (List S76))] rfl rfl (Gh.sel [1] rfl rfl) ⟨some ⟨b5, 0, none⟩, 1, rfl, rfl⟩
  replace H := g_iff h4 H
  refine SA_condF rfl h4 ?_
  refine SA_seq ?_
  refine SA_region ?_
  refine RA_step rfl (OA_v (v := .bool (decide (r3 = 2))) rfl (V_eql rfl rfl) ?_)
  refine RA_step rfl (OA_v (v := .bool (decide (r3 = 2))) rfl (V_assign rfl) ?_)
  refine RA_nil ?_
  refine at_normal ?_
  by_cases h7 : r3 = 2
  · replace H := g_ift h7 H
    refine SA_condT rfl h7 ?_
    refine SA_seq ?_
    refine SA_region ?_
    refine RA_step rfl (OA_v (v := .int .i32 a0) rfl (V_move rfl) ?_)
    refine RA_step rfl (OA_r rfl (VR_loadA_blk (b := b1) (m := 0) (k := 0) (vs := [.int .i64 a1.f0, .int .i64 a1.f1, .bool a1.f2, .bool a1.f3, .bool a1.f4, .bool a1.f5, .bool a1.f6, .bool a1.f7, .bool a1.f8, .bool a1.f9]) Try.underlying70 rfl sz70 rfl rfl rfl) ?_)
    refine RA_step rfl (OA_v (v := .agg (List.toArray (.int .i32 a0 :: .int .i32 0 :: .int .i32 0 :: .int .i32 0 :: .int .u8 2 :: .int .i64 a1.f0 :: .int .i64 a1.f1 :: .bool a1.f2 :: .bool a1.f3 :: .bool a1.f4 :: .bool a1.f5 :: .bool a1.f6 :: .bool a1.f7 :: .bool a1.f8 :: .bool a1.f9 :: []))) rfl (V_build (cells := (.int .i32 a0 :: .int .i32 0 :: .int .i32 0 :: .int .i32 0 :: .int .u8 2 :: .int .i64 a1.f0 :: .int .i64 a1.f1 :: .bool a1.f2 :: .bool a1.f3 :: .bool a1.f4 :: .bool a1.f5 :: .bool a1.f6 :: .bool a1.f7 :: .bool a1.f8 :: .bool a1.f9 :: [])) zero76 Try.underlying76 plc76 (by kernel_rfl)) ?_)
    refine RA_step rfl (OA_r rfl (VR_loadA_blk (b := b1) (m := 0) (k := 0) (vs := [.int .i64 a1.f0, .int .i64 a1.f1, .bool a1.f2, .bool a1.f3, .bool a1.f4, .bool a1.f5, .bool a1.f6, .bool a1.f7, .bool a1.f8, .bool a1.f9]) Try.underlying70 rfl sz70 rfl rfl rfl) ?_)
    refine RA_step rfl (OA_v (v := .agg (List.toArray (.int .i32 0 :: .int .i32 0 :: .int .i32 0 :: .int .i32 0 :: .int .u8 0 :: .int .i64 a1.f0 :: .int .i64 a1.f1 :: .bool a1.f2 :: .bool a1.f3 :: .bool a1.f4 :: .bool a1.f5 :: .bool a1.f6 :: .bool a1.f7 :: .bool a1.f8 :: .bool a1.f9 :: []))) rfl (V_build (cells := (.int .i32 0 :: .int .i32 0 :: .int .i32 0 :: .int .i32 0 :: .int .u8 0 :: .int .i64 a1.f0 :: .int .i64 a1.f1 :: .bool a1.f2 :: .bool a1.f3 :: .bool a1.f4 :: .bool a1.f5 :: .bool a1.f6 :: .bool a1.f7 :: .bool a1.f8 :: .bool a1.f9 :: [])) zero76 Try.underlying76 plc76 (by kernel_rfl)) ?_)
    refine RA_step rfl (OA_bs (kd := k76) (zv := (.agg (List.toArray (.int .i32 0 :: .int .i32 0 :: .int .i32 0 :: .int .i32 0 :: .int .u8 0 :: .int .i64 0 :: .int .i64 0 :: .bool false :: .bool false :: .bool false :: .bool false :: .bool false :: .bool false :: .bool false :: .bool false :: [])))) (sz := 15) (cells := (.int .i32 a0 :: .int .i32 0 :: .int .i32 0 :: .int .i32 0 :: .int .u8 2 :: .int .i64 a1.f0 :: .int .i64 a1.f1 :: .bool a1.f2 :: .bool a1.f3 :: .bool a1.f4 :: .bool a1.f5 :: .bool a1.f6 :: .bool a1.f7 :: .bool a1.f8 :: .bool a1.f9 :: .int .i32 0 :: .int .i32 0 :: .int .i32 0 :: .int .i32 0 :: .int .u8 0 :: .int .i64 a1.f0 :: .int .i64 a1.f1 :: .bool a1.f2 :: .bool a1.f3 :: .bool a1.f4 :: .bool a1.f5 :: .bool a1.f6 :: .bool a1.f7 :: .bool a1.f8 :: .bool a1.f9 :: [])) (xs := ([(S76.mk a0 (S74.mk 0 0 0) 2 a1), (S76.mk 0 (S74.mk 0 0 0) 0 a1)] : (List S76))) rfl Try.underlying65 zero76 sz76 rfl rfl rfl (by kernel_rfl) rfl rfl (RL_enc enc76 (fun _ _ => rfl) (by kernel_rfl)) fun b8 => ?_)
    refine RA_step rfl (OA_v (v := .slice (some ⟨b8, 0, none⟩) ([(S76.mk a0 (S74.mk 0 0 0) 2 a1), (S76.mk 0 (S74.mk 0 0 0) 0 a1)] : (List S76)).length 2) rfl (V_assign rfl) ?_)
    refine RA_nil ?_
    refine at_normal ?_
    refine SA_ret ?_
    refine inb_ret ?_
    refine thn_ret ?_
    have hr_ := Option.some.inj H
    subst hr_
    exact BQ_R1 [Buf k76 76 (some ⟨b8, 0, none⟩) 2 ([(S76.mk a0 (S74.mk 0 0 0) 2 a1), (S76.mk 0 (S74.mk 0 0 0) 0 a1)] : (List S76))] rfl rfl (Gh.sel [1] rfl rfl) ⟨some ⟨b8, 0, none⟩, 2, rfl, rfl⟩
  replace H := g_iff h7 H
  refine SA_condF rfl h7 ?_
  refine SA_skip ?_
  refine inb_normal ?_
  refine at_normal ?_
  refine SA_seq ?_
  refine SA_region ?_
  refine RA_step rfl (OA_v (v := .slice none 0 0) rfl (V_assign rfl) ?_)
  refine RA_nil ?_
  refine at_normal ?_
  refine SA_ret ?_
  have hr_ := Option.some.inj H
  subst hr_
  exact BQ_R1 [Buf k76 76 none 0 ([] : (List S76))] rfl rfl ((Gh.nilBuf k76 76).trans (Gh.sel [1] rfl rfl)) ⟨none, 0, rfl, rfl⟩
end Go.Proofs.Ytodkeoibebimgaa.Gr

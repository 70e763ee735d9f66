/- What a function computes, and that it does: 10. -/
import Derived.Test.YtodkeoibebimgaaGr0
import Derived.Test.YtodkeoibebimgaaGr1
import Derived.Test.YtodkeoibebimgaaGr2
import Derived.Test.YtodkeoibebimgaaGr4
import Derived.Test.YtodkeoibebimgaaGr5
import Derived.Test.YtodkeoibebimgaaGr7
import Derived.Test.YtodkeoibebimgaaGr8
import Derived.Test.YtodkeoibebimgaaGr9
import Derived.Test.YtodkeoibebimgaaGr10
namespace Go.Proofs.Ytodkeoibebimgaa.Gr
open Go Go.RowKit Go.Proofs.Ytodkeoibebimgaa.SL
set_option linter.unusedVariables false
set_option linter.unusedSimpArgs false
attribute [local irreducible] IntKind.wrap minI maxI shrI shlI andI orI xorI andNotI cplI rd sub bytesOf strOf slA
/-! ### function 10: wayfarer/wayfarerlaw15.GridTurns -/
def F10.f (k : Nat) (a0 : S67) (a1 : S90) (a2 : S67) : Option (Bool) := (F44.f k a1.f1 a1.f0 a1.f4).bind (fun r10 => (F45.f k a1.f1 a1.f0 a1.f4).bind (fun r16 => (F40.f k r10.1 r16.1).bind (fun r22 => lt ((!r22) || (decide (r10.2 ≠ r16.2))) fun q23 => if q23 = true then (some (false)) else ((F42.f k a0 a1.f0 a1.f1 a1.f4 a1.f5).bind (fun r27 => (F46.f k a0 a1.f0 a1.f1 a1.f4 a1.f5).bind (fun r31 => (F40.f k r27.1 r31.1).bind (fun r35 => lt ((!r35) || (decide (r27.2 ≠ r31.2))) fun q36 => if q36 = true then (some (false)) else ((F37.f k a0 a1.f0 a1.f1 a1.f2 a1.f4).bind (fun r40 => (F47.f k a0 a1.f0 a1.f1 a1.f2 a1.f4).bind (fun r44 => (F40.f k r40.1 r44.1).bind (fun r48 => lt ((!r48) || (decide (r40.2 ≠ r44.2))) fun q49 => if q49 = true then (some (false)) else ((F43.f k a0 a1.f0 a1.f1 a1.f3 a1.f4).bind (fun r53 => (F48.f k a0 a1.f0 a1.f1 a1.f3 a1.f4).bind (fun r57 => (F40.f k r53.1 r57.1).bind (fun r61 => lt ((!r61) || (decide (r53.2 ≠ r57.2))) fun q62 => if q62 = true then (some (false)) else ((F33.f k a0 a1.f0 a1.f2 a1.f3 a1.f4).bind (fun r66 => (F39.f k a0 a1.f0 a1.f2 a1.f3 a1.f4).bind (fun r70 => (F40.f k r66.1 r70.1).bind (fun r74 => lt ((!r74) || (decide (r66.2 ≠ r70.2))) fun q75 => if q75 = true then (some (false)) else ((F38.f k a0 a1.f2 a1.f1 a1.f4).bind (fun r79 => (F49.f k a0 a1.f2 a1.f1 a1.f4).bind (fun r83 => (F40.f k r79.1 r83.1).bind (fun r207 => if r207 = true then (if r79.2 = r83.2 then ((F41.f k a0).bind (fun r687 => (F30.f k a0).bind (fun r807 => if r687 = r807 then ((F50.f k a0 a2).bind (fun r1167 => (F40.f k a0 a2).bind (fun r1347 => if r1167 = r1347 then ((F31.f k ).bind (fun r1587 => some (r1587))) else (some (false))))) else (some (false))))) else (some (false))) else (some (false)))))))))))))))))))))))))
set_option maxHeartbeats 2000000 in
set_option maxRecDepth 100000 in
theorem F10.ok {k : Nat} {a0 : S67} {a1 : S90} {a2 : S67} {A0_0 : Option Addr} {c0_0 : Nat} {A1_0 : Option Addr} {c1_0 : Nat} {A2_0 : Option Addr} {c2_0 : Nat} {r : Bool} (H : F10.f k a0 a1 a2 = some r) : SCA Try.prog 10 #[.agg #[.int .i64 a0.f0, .int .i64 a0.f1, .slice A0_0 a0.f2.length c0_0], .agg (List.toArray (.int .i64 a1.f0 :: .int .i64 a1.f1 :: .int .i64 a1.f2 :: .int .i64 a1.f3 :: .int .i64 a1.f4.f0 :: .int .i64 a1.f4.f1 :: .bool a1.f4.f2 :: .bool a1.f4.f3 :: .bool a1.f4.f4 :: .bool a1.f4.f5 :: .bool a1.f4.f6 :: .bool a1.f4.f7 :: .bool a1.f4.f8 :: .bool a1.f4.f9 :: .slice A1_0 a1.f5.length c1_0 :: [])), .agg #[.int .i64 a2.f0, .int .i64 a2.f1, .slice A2_0 a2.f2.length c2_0]] [Ro k76 A0_0 c0_0 a0.f2, Ro k76 A1_0 c1_0 a1.f5, Ro k76 A2_0 c2_0 a2.f2] (fun v B => v = .bool r ∧ B = []) := by
  refine SCA_of_body Try.func10 rfl rfl ?_
  unfold F10.f at H
  refine SA_seq ?_
  refine SA_region ?_
  refine RA_step rfl (OA_box rfl rfl fun b4 => ?_)
  refine RA_step rfl (OA_box rfl rfl fun b6 => ?_)
  refine RA_step rfl (OA_box rfl rfl fun b8 => ?_)
  refine RA_step rfl (OA_v (v := .bool false) rfl (V_assign rfl) ?_)
  refine RA_nil ?_
  refine at_normal ?_
  refine SA_seq ?_
  refine SA_region ?_
  refine RA_step rfl (OA_v (v := .pointer (some ((⟨b6, 0, none⟩ : Addr).add 1))) rfl (V_fieldAddrN (B := ⟨b6, 0, none⟩) (m := 0) (o := 1) Try.underlying90 rfl nz3 rfl rfl) ?_)
  refine RA_step rfl (OA_r rfl (VR_load_blk (b := b6) (m := 1) (k := 4) Try.underlying3 rfl rfl rfl rfl) ?_)
  refine RA_step rfl (OA_v (v := .pointer (some ⟨b6, 0, none⟩)) rfl (V_fieldAddrN (B := ⟨b6, 0, none⟩) (m := 0) (o := 0) Try.underlying90 rfl nz3 rfl rfl) ?_)
  refine RA_step rfl (OA_r rfl (VR_load_blk (b := b6) (m := 0) (k := 4) Try.underlying3 rfl rfl rfl rfl) ?_)
  refine RA_step rfl (OA_v (v := .pointer (some ((⟨b6, 0, none⟩ : Addr).add 4))) rfl (V_fieldAddrN (B := ⟨b6, 0, none⟩) (m := 0) (o := 4) Try.underlying90 rfl nz70 rfl rfl) ?_)
  refine RA_step rfl (OA_r rfl (VR_loadA_blk (b := b6) (m := 4) (k := 4) (vs := [.int .i64 a1.f4.f0, .int .i64 a1.f4.f1, .bool a1.f4.f2, .bool a1.f4.f3, .bool a1.f4.f4, .bool a1.f4.f5, .bool a1.f4.f6, .bool a1.f4.f7, .bool a1.f4.f8, .bool a1.f4.f9]) Try.underlying70 rfl sz70 rfl rfl rfl) ?_)
  obtain ⟨r10, C1788, H⟩ := g_bind H
  refine RA_step rfl (OA_callA [] [0, 1, 2, 3, 4, 5] rfl (X_fn (vs := [.int .i64 a1.f1, .int .i64 a1.f0, .agg #[.int .i64 a1.f4.f0, .int .i64 a1.f4.f1, .bool a1.f4.f2, .bool a1.f4.f3, .bool a1.f4.f4, .bool a1.f4.f5, .bool a1.f4.f6, .bool a1.f4.f7, .bool a1.f4.f8, .bool a1.f4.f9]]) Try.func44 nm44 rfl rfl) rfl (F44.ok (a0 := a1.f1) (a1 := a1.f0) (a2 := a1.f4) C1788) rfl ?_)
  rintro _ _ ⟨A11, c12, rfl, rfl⟩
  refine RA_step rfl (OA_v (v := .tuple #[.agg #[.int .i64 r10.1.f0, .int .i64 r10.1.f1, .slice A11 r10.1.f2.length c12], .int .i64 r10.2]) rfl (V_move rfl) ?_)
  refine RA_step rfl (OA_v (v := .agg #[.int .i64 r10.1.f0, .int .i64 r10.1.f1, .slice A11 r10.1.f2.length c12]) rfl (V_extract rfl rfl) ?_)
  refine RA_step rfl (OA_v (v := .int .i64 r10.2) rfl (V_extract rfl rfl) ?_)
  refine RA_step rfl (OA_alloc rfl zero67 fun b14 => ?_)
  refine RA_step rfl (OA_st (b := b14) (m := 0) (k := 7) (vs := [.int .i64 r10.1.f0, .int .i64 r10.1.f1, .slice A11 r10.1.f2.length c12]) (cs' := [.int .i64 r10.1.f0, .int .i64 r10.1.f1, .slice A11 r10.1.f2.length c12]) rfl rfl rfl rfl rfl rfl sz67 rfl rfl ?_)
  refine RA_step rfl (OA_v (v := .int .i64 r10.2) rfl (V_assign rfl) ?_)
  refine RA_nil ?_
  refine at_normal ?_
  refine SA_seq ?_
  refine SA_region ?_
  refine RA_step rfl (OA_v (v := .pointer (some ((⟨b6, 0, none⟩ : Addr).add 1))) rfl (V_fieldAddrN (B := ⟨b6, 0, none⟩) (m := 0) (o := 1) Try.underlying90 rfl nz3 rfl rfl) ?_)
  refine RA_step rfl (OA_r rfl (VR_load_blk (b := b6) (m := 1) (k := 5) Try.underlying3 rfl rfl rfl rfl) ?_)
  refine RA_step rfl (OA_v (v := .pointer (some ⟨b6, 0, none⟩)) rfl (V_fieldAddrN (B := ⟨b6, 0, none⟩) (m := 0) (o := 0) Try.underlying90 rfl nz3 rfl rfl) ?_)
  refine RA_step rfl (OA_r rfl (VR_load_blk (b := b6) (m := 0) (k := 5) Try.underlying3 rfl rfl rfl rfl) ?_)
  refine RA_step rfl (OA_v (v := .pointer (some ((⟨b6, 0, none⟩ : Addr).add 4))) rfl (V_fieldAddrN (B := ⟨b6, 0, none⟩) (m := 0) (o := 4) Try.underlying90 rfl nz70 rfl rfl) ?_)
  refine RA_step rfl (OA_r rfl (VR_loadA_blk (b := b6) (m := 4) (k := 5) (vs := [.int .i64 a1.f4.f0, .int .i64 a1.f4.f1, .bool a1.f4.f2, .bool a1.f4.f3, .bool a1.f4.f4, .bool a1.f4.f5, .bool a1.f4.f6, .bool a1.f4.f7, .bool a1.f4.f8, .bool a1.f4.f9]) Try.underlying70 rfl sz70 rfl rfl rfl) ?_)
  obtain ⟨r16, C1787, H⟩ := g_bind H
  refine RA_step rfl (OA_callA [] [0, 1, 2, 3, 4, 5, 6, 7] rfl (X_fn (vs := [.int .i64 a1.f1, .int .i64 a1.f0, .agg #[.int .i64 a1.f4.f0, .int .i64 a1.f4.f1, .bool a1.f4.f2, .bool a1.f4.f3, .bool a1.f4.f4, .bool a1.f4.f5, .bool a1.f4.f6, .bool a1.f4.f7, .bool a1.f4.f8, .bool a1.f4.f9]]) Try.func45 nm45 rfl rfl) rfl (F45.ok (a0 := a1.f1) (a1 := a1.f0) (a2 := a1.f4) C1787) rfl ?_)
  rintro _ _ ⟨A17, c18, rfl, rfl⟩
  refine RA_step rfl (OA_v (v := .tuple #[.agg #[.int .i64 r16.1.f0, .int .i64 r16.1.f1, .slice A17 r16.1.f2.length c18], .int .i64 r16.2]) rfl (V_move rfl) ?_)
  refine RA_step rfl (OA_v (v := .agg #[.int .i64 r16.1.f0, .int .i64 r16.1.f1, .slice A17 r16.1.f2.length c18]) rfl (V_extract rfl rfl) ?_)
  refine RA_step rfl (OA_v (v := .int .i64 r16.2) rfl (V_extract rfl rfl) ?_)
  refine RA_step rfl (OA_alloc rfl zero67 fun b20 => ?_)
  refine RA_step rfl (OA_st (b := b20) (m := 0) (k := 9) (vs := [.int .i64 r16.1.f0, .int .i64 r16.1.f1, .slice A17 r16.1.f2.length c18]) (cs' := [.int .i64 r16.1.f0, .int .i64 r16.1.f1, .slice A17 r16.1.f2.length c18]) rfl rfl rfl rfl rfl rfl sz67 rfl rfl ?_)
  refine RA_step rfl (OA_v (v := .int .i64 r16.2) rfl (V_assign rfl) ?_)
  refine RA_nil ?_
  refine at_normal ?_
  refine SA.of_St (l := [(3, .pointer (some ⟨b4, 0, none⟩)), (4, .pointer (some ⟨b6, 0, none⟩)), (5, .pointer (some ⟨b8, 0, none⟩)), (7, .pointer (some ⟨b14, 0, none⟩)), (8, .int .i64 r10.2), (9, .pointer (some ⟨b20, 0, none⟩)), (10, .int .i64 r16.2)]) (B := [Blk b4 67 [.int .i64 a0.f0, .int .i64 a0.f1, .slice A0_0 a0.f2.length c0_0], Ro k76 A0_0 c0_0 a0.f2, Blk b6 90 (.int .i64 a1.f0 :: .int .i64 a1.f1 :: .int .i64 a1.f2 :: .int .i64 a1.f3 :: .int .i64 a1.f4.f0 :: .int .i64 a1.f4.f1 :: .bool a1.f4.f2 :: .bool a1.f4.f3 :: .bool a1.f4.f4 :: .bool a1.f4.f5 :: .bool a1.f4.f6 :: .bool a1.f4.f7 :: .bool a1.f4.f8 :: .bool a1.f4.f9 :: .slice A1_0 a1.f5.length c1_0 :: []), Ro k76 A1_0 c1_0 a1.f5, Blk b8 67 [.int .i64 a2.f0, .int .i64 a2.f1, .slice A2_0 a2.f2.length c2_0], Ro k76 A2_0 c2_0 a2.f2, Blk b14 67 [.int .i64 r10.1.f0, .int .i64 r10.1.f1, .slice A11 r10.1.f2.length c12], Buf k76 76 A11 c12 r10.1.f2, Blk b20 67 [.int .i64 r16.1.f0, .int .i64 r16.1.f1, .slice A17 r16.1.f2.length c18], Buf k76 76 A17 c18 r16.1.f2]) (St.mk1 (aeq rfl (aeq rfl (aeq rfl (aeq rfl (aeq rfl (aeq rfl (aeq rfl aeq0))))))) (Gh.sel [5, 2, 6, 3, 7, 4, 8, 1, 9, 0] (by kernel_rfl) (by kernel_rfl))) fun junk => ?_
  refine SA_seq ?_
  refine SA_seq ?_
  refine SA_region ?_
  refine RA_step rfl (OA_r rfl (VR_loadA_blk (b := b14) (m := 0) (k := 6) (vs := [.int .i64 r10.1.f0, .int .i64 r10.1.f1, .slice A11 r10.1.f2.length c12]) Try.underlying67 rfl sz67 rfl rfl rfl) ?_)
  refine RA_step rfl (OA_r rfl (VR_loadA_blk (b := b20) (m := 0) (k := 8) (vs := [.int .i64 r16.1.f0, .int .i64 r16.1.f1, .slice A17 r16.1.f2.length c18]) Try.underlying67 rfl sz67 rfl rfl rfl) ?_)
  obtain ⟨r22, C1786, H⟩ := g_bind H
  refine RA_step rfl (OA.ghost (Gh.freeze (k := 7) rfl) (OA.ghost (Gh.freeze (k := 9) rfl) (OA_callA [7, 9] [0, 1, 2, 3, 4, 5, 6, 7, 8, 9] rfl (X_fn (vs := [.agg #[.int .i64 r10.1.f0, .int .i64 r10.1.f1, .slice A11 r10.1.f2.length c12], .agg #[.int .i64 r16.1.f0, .int .i64 r16.1.f1, .slice A17 r16.1.f2.length c18]]) Try.func40 nm40 rfl rfl) rfl (F40.ok (a0 := r10.1) (A0_0 := A11) (c0_0 := c12) (a1 := r16.1) (A1_0 := A17) (c1_0 := c18) C1786) rfl ?_)))
  rintro _ _ ⟨rfl, rfl⟩
  refine RA_step rfl (OA_v (v := .bool (!r22)) rfl (V_not rfl) ?_)
  refine RA_step rfl (OA_v (v := .bool (!r22)) rfl (V_move rfl) ?_)
  obtain ⟨q23, hq23, H⟩ := g_lt H
  refine RA_cut 4 (fun e ds As => St [(3, .pointer (some ⟨b4, 0, none⟩)), (4, .pointer (some ⟨b6, 0, none⟩)), (5, .pointer (some ⟨b8, 0, none⟩)), (7, .pointer (some ⟨b14, 0, none⟩)), (9, .pointer (some ⟨b20, 0, none⟩)), (39, .bool q23)] [Blk b4 67 [.int .i64 a0.f0, .int .i64 a0.f1, .slice A0_0 a0.f2.length c0_0], Ro k76 A0_0 c0_0 a0.f2, Blk b6 90 (.int .i64 a1.f0 :: .int .i64 a1.f1 :: .int .i64 a1.f2 :: .int .i64 a1.f3 :: .int .i64 a1.f4.f0 :: .int .i64 a1.f4.f1 :: .bool a1.f4.f2 :: .bool a1.f4.f3 :: .bool a1.f4.f4 :: .bool a1.f4.f5 :: .bool a1.f4.f6 :: .bool a1.f4.f7 :: .bool a1.f4.f8 :: .bool a1.f4.f9 :: .slice A1_0 a1.f5.length c1_0 :: []), Ro k76 A1_0 c1_0 a1.f5, Blk b8 67 [.int .i64 a2.f0, .int .i64 a2.f1, .slice A2_0 a2.f2.length c2_0], Ro k76 A2_0 c2_0 a2.f2, Blk b14 67 [.int .i64 r10.1.f0, .int .i64 r10.1.f1, .slice A11 r10.1.f2.length c12], Ro k76 A11 c12 r10.1.f2, Blk b20 67 [.int .i64 r16.1.f0, .int .i64 r16.1.f1, .slice A17 r16.1.f2.length c18], Ro k76 A17 c18 r16.1.f2] e ds As) ?_ ?_
  · by_cases h24 : (!r22) = true
    · refine RA_noB rfl rfl rfl rfl (h24) rfl ?_
      refine RA_noB rfl rfl rfl rfl (h24) rfl ?_
      refine RA_noB rfl rfl rfl rfl (h24) rfl ?_
      refine RA_step rfl (OA_v rfl (V_pickT rfl (h24) rfl) ?_)
      refine RA_nil ?_
      exact at_normal (St.mk1 (aeq rfl (aeq rfl (aeq rfl (aeq rfl (aeq rfl (aeq (congrArg Value.bool (or_t hq23 (h24))) aeq0)))))) (Gh.sel [0, 1, 2, 3, 4, 5, 6, 7, 8, 9] rfl rfl))
    refine RA_yesB rfl rfl rfl rfl (bno h24) (OA_v (v := .int .i64 r10.2) rfl (V_move rfl) ?_)
    refine RA_yesB rfl rfl rfl rfl (bno h24) (OA_v (v := .int .i64 r16.2) rfl (V_move rfl) ?_)
    refine RA_yesB rfl rfl rfl rfl (bno h24) (OA_v (v := .bool (decide (r10.2 ≠ r16.2))) rfl (V_neq rfl rfl) ?_)
    refine RA_step rfl (OA_v rfl (V_pickF rfl (bno h24) rfl) ?_)
    refine RA_nil ?_
    exact at_normal (St.mk1 (aeq rfl (aeq rfl (aeq rfl (aeq rfl (aeq rfl (aeq (congrArg Value.bool (or_f hq23 (bno h24))) aeq0)))))) (Gh.sel [0, 1, 2, 3, 4, 5, 6, 7, 8, 9] rfl rfl))
  rintro e ds As hst25
  refine RA_nil ?_
  refine at_normal ?_
  refine SA.of_St hst25 fun junk => ?_
  by_cases h26 : q23 = true
  · replace H := g_ift h26 H
    refine SA_condTb rfl h26 ?_
    refine SA_seq ?_
    refine SA_region ?_
    refine RA_step rfl (OA_v (v := .bool false) rfl (V_assign rfl) ?_)
    refine RA_nil ?_
    refine at_normal ?_
    refine SA_ret ?_
    refine thn_ret ?_
    have hr_ := Option.some.inj H
    subst hr_
    exact BQ_R1 [] rfl rfl (Gh.sel [] rfl rfl) ⟨rfl, rfl⟩
  replace H := g_iff h26 H
  refine SA_condFb rfl h26 ?_
  refine SA_skip ?_
  refine at_normal ?_
  refine SA_seq ?_
  refine SA_region ?_
  refine RA_step rfl (OA_r rfl (VR_loadA_blk (b := b4) (m := 0) (k := 0) (vs := [.int .i64 a0.f0, .int .i64 a0.f1, .slice A0_0 a0.f2.length c0_0]) Try.underlying67 rfl sz67 rfl rfl rfl) ?_)
  refine RA_step rfl (OA_v (v := .pointer (some ⟨b6, 0, none⟩)) rfl (V_fieldAddrN (B := ⟨b6, 0, none⟩) (m := 0) (o := 0) Try.underlying90 rfl nz3 rfl rfl) ?_)
  refine RA_step rfl (OA_r rfl (VR_load_blk (b := b6) (m := 0) (k := 2) Try.underlying3 rfl rfl rfl rfl) ?_)
  refine RA_step rfl (OA_v (v := .pointer (some ((⟨b6, 0, none⟩ : Addr).add 1))) rfl (V_fieldAddrN (B := ⟨b6, 0, none⟩) (m := 0) (o := 1) Try.underlying90 rfl nz3 rfl rfl) ?_)
  refine RA_step rfl (OA_r rfl (VR_load_blk (b := b6) (m := 1) (k := 2) Try.underlying3 rfl rfl rfl rfl) ?_)
  refine RA_step rfl (OA_v (v := .pointer (some ((⟨b6, 0, none⟩ : Addr).add 4))) rfl (V_fieldAddrN (B := ⟨b6, 0, none⟩) (m := 0) (o := 4) Try.underlying90 rfl nz70 rfl rfl) ?_)
  refine RA_step rfl (OA_r rfl (VR_loadA_blk (b := b6) (m := 4) (k := 2) (vs := [.int .i64 a1.f4.f0, .int .i64 a1.f4.f1, .bool a1.f4.f2, .bool a1.f4.f3, .bool a1.f4.f4, .bool a1.f4.f5, .bool a1.f4.f6, .bool a1.f4.f7, .bool a1.f4.f8, .bool a1.f4.f9]) Try.underlying70 rfl sz70 rfl rfl rfl) ?_)
  refine RA_step rfl (OA_v (v := .pointer (some ((⟨b6, 0, none⟩ : Addr).add 14))) rfl (V_fieldAddrN (B := ⟨b6, 0, none⟩) (m := 0) (o := 14) Try.underlying90 rfl nz65 rfl rfl) ?_)
  refine RA_step rfl (OA_r rfl (VR_load_blk (b := b6) (m := 14) (k := 2) Try.underlying65 rfl rfl rfl rfl) ?_)
  obtain ⟨r27, C1785, H⟩ := g_bind H
  refine RA_step rfl (OA_callA [1, 3] [0, 1, 2, 3, 4, 5, 6, 7, 8, 9] rfl (X_fn (vs := [.agg #[.int .i64 a0.f0, .int .i64 a0.f1, .slice A0_0 a0.f2.length c0_0], .int .i64 a1.f0, .int .i64 a1.f1, .agg #[.int .i64 a1.f4.f0, .int .i64 a1.f4.f1, .bool a1.f4.f2, .bool a1.f4.f3, .bool a1.f4.f4, .bool a1.f4.f5, .bool a1.f4.f6, .bool a1.f4.f7, .bool a1.f4.f8, .bool a1.f4.f9], .slice A1_0 a1.f5.length c1_0]) Try.func42 nm42 rfl rfl) rfl (F42.ok (a0 := a0) (A0_0 := A0_0) (c0_0 := c0_0) (a1 := a1.f0) (a2 := a1.f1) (a3 := a1.f4) (l4 := a1.f5) (A4 := A1_0) (c4 := c1_0) C1785) rfl ?_)
  rintro _ _ ⟨A28, c29, rfl, rfl⟩
  refine RA_step rfl (OA_v (v := .tuple #[.agg #[.int .i64 r27.1.f0, .int .i64 r27.1.f1, .slice A28 r27.1.f2.length c29], .int .i64 r27.2]) rfl (V_move rfl) ?_)
  refine RA_step rfl (OA_v (v := .agg #[.int .i64 r27.1.f0, .int .i64 r27.1.f1, .slice A28 r27.1.f2.length c29]) rfl (V_extract rfl rfl) ?_)
  refine RA_step rfl (OA_v (v := .int .i64 r27.2) rfl (V_extract rfl rfl) ?_)
  refine RA_step rfl (OA_st (b := b14) (m := 0) (k := 7) (vs := [.int .i64 r27.1.f0, .int .i64 r27.1.f1, .slice A28 r27.1.f2.length c29]) (cs' := [.int .i64 r27.1.f0, .int .i64 r27.1.f1, .slice A28 r27.1.f2.length c29]) rfl rfl rfl rfl rfl rfl sz67 rfl rfl ?_)
  refine RA_step rfl (OA_v (v := .int .i64 r27.2) rfl (V_assign rfl) ?_)
  refine RA_nil ?_
  refine at_normal ?_
  refine SA_seq ?_
  refine SA_region ?_
  refine RA_step rfl (OA_r rfl (VR_loadA_blk (b := b4) (m := 0) (k := 1) (vs := [.int .i64 a0.f0, .int .i64 a0.f1, .slice A0_0 a0.f2.length c0_0]) Try.underlying67 rfl sz67 rfl rfl rfl) ?_)
  refine RA_step rfl (OA_v (v := .pointer (some ⟨b6, 0, none⟩)) rfl (V_fieldAddrN (B := ⟨b6, 0, none⟩) (m := 0) (o := 0) Try.underlying90 rfl nz3 rfl rfl) ?_)
  refine RA_step rfl (OA_r rfl (VR_load_blk (b := b6) (m := 0) (k := 3) Try.underlying3 rfl rfl rfl rfl) ?_)
  refine RA_step rfl (OA_v (v := .pointer (some ((⟨b6, 0, none⟩ : Addr).add 1))) rfl (V_fieldAddrN (B := ⟨b6, 0, none⟩) (m := 0) (o := 1) Try.underlying90 rfl nz3 rfl rfl) ?_)
  refine RA_step rfl (OA_r rfl (VR_load_blk (b := b6) (m := 1) (k := 3) Try.underlying3 rfl rfl rfl rfl) ?_)
  refine RA_step rfl (OA_v (v := .pointer (some ((⟨b6, 0, none⟩ : Addr).add 4))) rfl (V_fieldAddrN (B := ⟨b6, 0, none⟩) (m := 0) (o := 4) Try.underlying90 rfl nz70 rfl rfl) ?_)
  refine RA_step rfl (OA_r rfl (VR_loadA_blk (b := b6) (m := 4) (k := 3) (vs := [.int .i64 a1.f4.f0, .int .i64 a1.f4.f1, .bool a1.f4.f2, .bool a1.f4.f3, .bool a1.f4.f4, .bool a1.f4.f5, .bool a1.f4.f6, .bool a1.f4.f7, .bool a1.f4.f8, .bool a1.f4.f9]) Try.underlying70 rfl sz70 rfl rfl rfl) ?_)
  refine RA_step rfl (OA_v (v := .pointer (some ((⟨b6, 0, none⟩ : Addr).add 14))) rfl (V_fieldAddrN (B := ⟨b6, 0, none⟩) (m := 0) (o := 14) Try.underlying90 rfl nz65 rfl rfl) ?_)
  refine RA_step rfl (OA_r rfl (VR_load_blk (b := b6) (m := 14) (k := 3) Try.underlying65 rfl rfl rfl rfl) ?_)
  obtain ⟨r31, C1784, H⟩ := g_bind H
  refine RA_step rfl (OA_callA [2, 4] [0, 1, 2, 3, 4, 5, 6, 7, 8, 9, 10] rfl (X_fn (vs := [.agg #[.int .i64 a0.f0, .int .i64 a0.f1, .slice A0_0 a0.f2.length c0_0], .int .i64 a1.f0, .int .i64 a1.f1, .agg #[.int .i64 a1.f4.f0, .int .i64 a1.f4.f1, .bool a1.f4.f2, .bool a1.f4.f3, .bool a1.f4.f4, .bool a1.f4.f5, .bool a1.f4.f6, .bool a1.f4.f7, .bool a1.f4.f8, .bool a1.f4.f9], .slice A1_0 a1.f5.length c1_0]) Try.func46 nm46 rfl rfl) rfl (F46.ok (a0 := a0) (A0_0 := A0_0) (c0_0 := c0_0) (a1 := a1.f0) (a2 := a1.f1) (a3 := a1.f4) (l4 := a1.f5) (A4 := A1_0) (c4 := c1_0) C1784) rfl ?_)
  rintro _ _ ⟨A32, c33, rfl, rfl⟩
  refine RA_step rfl (OA_v (v := .tuple #[.agg #[.int .i64 r31.1.f0, .int .i64 r31.1.f1, .slice A32 r31.1.f2.length c33], .int .i64 r31.2]) rfl (V_move rfl) ?_)
  refine RA_step rfl (OA_v (v := .agg #[.int .i64 r31.1.f0, .int .i64 r31.1.f1, .slice A32 r31.1.f2.length c33]) rfl (V_extract rfl rfl) ?_)
  refine RA_step rfl (OA_v (v := .int .i64 r31.2) rfl (V_extract rfl rfl) ?_)
  refine RA_step rfl (OA_st (b := b20) (m := 0) (k := 10) (vs := [.int .i64 r31.1.f0, .int .i64 r31.1.f1, .slice A32 r31.1.f2.length c33]) (cs' := [.int .i64 r31.1.f0, .int .i64 r31.1.f1, .slice A32 r31.1.f2.length c33]) rfl rfl rfl rfl rfl rfl sz67 rfl rfl ?_)
  refine RA_step rfl (OA_v (v := .int .i64 r31.2) rfl (V_assign rfl) ?_)
  refine RA_nil ?_
  refine at_normal ?_
  refine SA.of_St (l := [(3, .pointer (some ⟨b4, 0, none⟩)), (4, .pointer (some ⟨b6, 0, none⟩)), (5, .pointer (some ⟨b8, 0, none⟩)), (7, .pointer (some ⟨b14, 0, none⟩)), (8, .int .i64 r27.2), (9, .pointer (some ⟨b20, 0, none⟩)), (10, .int .i64 r31.2)]) (B := [Blk b4 67 [.int .i64 a0.f0, .int .i64 a0.f1, .slice A0_0 a0.f2.length c0_0], Ro k76 A0_0 c0_0 a0.f2, Blk b6 90 (.int .i64 a1.f0 :: .int .i64 a1.f1 :: .int .i64 a1.f2 :: .int .i64 a1.f3 :: .int .i64 a1.f4.f0 :: .int .i64 a1.f4.f1 :: .bool a1.f4.f2 :: .bool a1.f4.f3 :: .bool a1.f4.f4 :: .bool a1.f4.f5 :: .bool a1.f4.f6 :: .bool a1.f4.f7 :: .bool a1.f4.f8 :: .bool a1.f4.f9 :: .slice A1_0 a1.f5.length c1_0 :: []), Ro k76 A1_0 c1_0 a1.f5, Blk b8 67 [.int .i64 a2.f0, .int .i64 a2.f1, .slice A2_0 a2.f2.length c2_0], Ro k76 A2_0 c2_0 a2.f2, Blk b14 67 [.int .i64 r27.1.f0, .int .i64 r27.1.f1, .slice A28 r27.1.f2.length c29], Buf k76 76 A28 c29 r27.1.f2, Blk b20 67 [.int .i64 r31.1.f0, .int .i64 r31.1.f1, .slice A32 r31.1.f2.length c33], Buf k76 76 A32 c33 r31.1.f2]) (St.mk1 (aeq rfl (aeq rfl (aeq rfl (aeq rfl (aeq rfl (aeq rfl (aeq rfl aeq0))))))) (Gh.sel [2, 3, 4, 5, 6, 7, 8, 1, 10, 0] (by kernel_rfl) (by kernel_rfl))) fun junk => ?_
  refine SA_seq ?_
  refine SA_seq ?_
  refine SA_region ?_
  refine RA_step rfl (OA_r rfl (VR_loadA_blk (b := b14) (m := 0) (k := 6) (vs := [.int .i64 r27.1.f0, .int .i64 r27.1.f1, .slice A28 r27.1.f2.length c29]) Try.underlying67 rfl sz67 rfl rfl rfl) ?_)
  refine RA_step rfl (OA_r rfl (VR_loadA_blk (b := b20) (m := 0) (k := 8) (vs := [.int .i64 r31.1.f0, .int .i64 r31.1.f1, .slice A32 r31.1.f2.length c33]) Try.underlying67 rfl sz67 rfl rfl rfl) ?_)
  obtain ⟨r35, C1783, H⟩ := g_bind H
  refine RA_step rfl (OA.ghost (Gh.freeze (k := 7) rfl) (OA.ghost (Gh.freeze (k := 9) rfl) (OA_callA [7, 9] [0, 1, 2, 3, 4, 5, 6, 7, 8, 9] rfl (X_fn (vs := [.agg #[.int .i64 r27.1.f0, .int .i64 r27.1.f1, .slice A28 r27.1.f2.length c29], .agg #[.int .i64 r31.1.f0, .int .i64 r31.1.f1, .slice A32 r31.1.f2.length c33]]) Try.func40 nm40 rfl rfl) rfl (F40.ok (a0 := r27.1) (A0_0 := A28) (c0_0 := c29) (a1 := r31.1) (A1_0 := A32) (c1_0 := c33) C1783) rfl ?_)))
  rintro _ _ ⟨rfl, rfl⟩
  refine RA_step rfl (OA_v (v := .bool (!r35)) rfl (V_not rfl) ?_)
  refine RA_step rfl (OA_v (v := .bool (!r35)) rfl (V_move rfl) ?_)
  obtain ⟨q36, hq36, H⟩ := g_lt H
  refine RA_cut 4 (fun e ds As => St [(3, .pointer (some ⟨b4, 0, none⟩)), (4, .pointer (some ⟨b6, 0, none⟩)), (5, .pointer (some ⟨b8, 0, none⟩)), (7, .pointer (some ⟨b14, 0, none⟩)), (9, .pointer (some ⟨b20, 0, none⟩)), (74, .bool q36)] [Blk b4 67 [.int .i64 a0.f0, .int .i64 a0.f1, .slice A0_0 a0.f2.length c0_0], Ro k76 A0_0 c0_0 a0.f2, Blk b6 90 (.int .i64 a1.f0 :: .int .i64 a1.f1 :: .int .i64 a1.f2 :: .int .i64 a1.f3 :: .int .i64 a1.f4.f0 :: .int .i64 a1.f4.f1 :: .bool a1.f4.f2 :: .bool a1.f4.f3 :: .bool a1.f4.f4 :: .bool a1.f4.f5 :: .bool a1.f4.f6 :: .bool a1.f4.f7 :: .bool a1.f4.f8 :: .bool a1.f4.f9 :: .slice A1_0 a1.f5.length c1_0 :: []), Ro k76 A1_0 c1_0 a1.f5, Blk b8 67 [.int .i64 a2.f0, .int .i64 a2.f1, .slice A2_0 a2.f2.length c2_0], Ro k76 A2_0 c2_0 a2.f2, Blk b14 67 [.int .i64 r27.1.f0, .int .i64 r27.1.f1, .slice A28 r27.1.f2.length c29], Ro k76 A28 c29 r27.1.f2, Blk b20 67 [.int .i64 r31.1.f0, .int .i64 r31.1.f1, .slice A32 r31.1.f2.length c33], Ro k76 A32 c33 r31.1.f2] e ds As) ?_ ?_
  · by_cases h37 : (!r35) = true
    · refine RA_noB rfl rfl rfl rfl (h37) rfl ?_
      refine RA_noB rfl rfl rfl rfl (h37) rfl ?_
      refine RA_noB rfl rfl rfl rfl (h37) rfl ?_
      refine RA_step rfl (OA_v rfl (V_pickT rfl (h37) rfl) ?_)
      refine RA_nil ?_
      exact at_normal (St.mk1 (aeq rfl (aeq rfl (aeq rfl (aeq rfl (aeq rfl (aeq (congrArg Value.bool (or_t hq36 (h37))) aeq0)))))) (Gh.sel [0, 1, 2, 3, 4, 5, 6, 7, 8, 9] rfl rfl))
    refine RA_yesB rfl rfl rfl rfl (bno h37) (OA_v (v := .int .i64 r27.2) rfl (V_move rfl) ?_)
    refine RA_yesB rfl rfl rfl rfl (bno h37) (OA_v (v := .int .i64 r31.2) rfl (V_move rfl) ?_)
    refine RA_yesB rfl rfl rfl rfl (bno h37) (OA_v (v := .bool (decide (r27.2 ≠ r31.2))) rfl (V_neq rfl rfl) ?_)
    refine RA_step rfl (OA_v rfl (V_pickF rfl (bno h37) rfl) ?_)
    refine RA_nil ?_
    exact at_normal (St.mk1 (aeq rfl (aeq rfl (aeq rfl (aeq rfl (aeq rfl (aeq (congrArg Value.bool (or_f hq36 (bno h37))) aeq0)))))) (Gh.sel [0, 1, 2, 3, 4, 5, 6, 7, 8, 9] rfl rfl))
  rintro e ds As hst38
  refine RA_nil ?_
  refine at_normal ?_
  refine SA.of_St hst38 fun junk => ?_
  by_cases h39 : q36 = true
  · replace H := g_ift h39 H
    refine SA_condTb rfl h39 ?_
    refine SA_seq ?_
    refine SA_region ?_
    refine RA_step rfl (OA_v (v := .bool false) rfl (V_assign rfl) ?_)
    refine RA_nil ?_
    refine at_normal ?_
    refine SA_ret ?_
    refine thn_ret ?_
    have hr_ := Option.some.inj H
    subst hr_
    exact BQ_R1 [] rfl rfl (Gh.sel [] rfl rfl) ⟨rfl, rfl⟩
  replace H := g_iff h39 H
  refine SA_condFb rfl h39 ?_
  refine SA_skip ?_
  refine at_normal ?_
  refine SA_seq ?_
  refine SA_region ?_
  refine RA_step rfl (OA_r rfl (VR_loadA_blk (b := b4) (m := 0) (k := 0) (vs := [.int .i64 a0.f0, .int .i64 a0.f1, .slice A0_0 a0.f2.length c0_0]) Try.underlying67 rfl sz67 rfl rfl rfl) ?_)
  refine RA_step rfl (OA_v (v := .pointer (some ⟨b6, 0, none⟩)) rfl (V_fieldAddrN (B := ⟨b6, 0, none⟩) (m := 0) (o := 0) Try.underlying90 rfl nz3 rfl rfl) ?_)
  refine RA_step rfl (OA_r rfl (VR_load_blk (b := b6) (m := 0) (k := 2) Try.underlying3 rfl rfl rfl rfl) ?_)
  refine RA_step rfl (OA_v (v := .pointer (some ((⟨b6, 0, none⟩ : Addr).add 1))) rfl (V_fieldAddrN (B := ⟨b6, 0, none⟩) (m := 0) (o := 1) Try.underlying90 rfl nz3 rfl rfl) ?_)
  refine RA_step rfl (OA_r rfl (VR_load_blk (b := b6) (m := 1) (k := 2) Try.underlying3 rfl rfl rfl rfl) ?_)
  refine RA_step rfl (OA_v (v := .pointer (some ((⟨b6, 0, none⟩ : Addr).add 2))) rfl (V_fieldAddrN (B := ⟨b6, 0, none⟩) (m := 0) (o := 2) Try.underlying90 rfl nz3 rfl rfl) ?_)
  refine RA_step rfl (OA_r rfl (VR_load_blk (b := b6) (m := 2) (k := 2) Try.underlying3 rfl rfl rfl rfl) ?_)
  refine RA_step rfl (OA_v (v := .pointer (some ((⟨b6, 0, none⟩ : Addr).add 4))) rfl (V_fieldAddrN (B := ⟨b6, 0, none⟩) (m := 0) (o := 4) Try.underlying90 rfl nz70 rfl rfl) ?_)
  refine RA_step rfl (OA_r rfl (VR_loadA_blk (b := b6) (m := 4) (k := 2) (vs := [.int .i64 a1.f4.f0, .int .i64 a1.f4.f1, .bool a1.f4.f2, .bool a1.f4.f3, .bool a1.f4.f4, .bool a1.f4.f5, .bool a1.f4.f6, .bool a1.f4.f7, .bool a1.f4.f8, .bool a1.f4.f9]) Try.underlying70 rfl sz70 rfl rfl rfl) ?_)
  obtain ⟨r40, C1782, H⟩ := g_bind H
  refine RA_step rfl (OA_callA [1] [0, 1, 2, 3, 4, 5, 6, 7, 8, 9] rfl (X_fn (vs := [.agg #[.int .i64 a0.f0, .int .i64 a0.f1, .slice A0_0 a0.f2.length c0_0], .int .i64 a1.f0, .int .i64 a1.f1, .int .i64 a1.f2, .agg #[.int .i64 a1.f4.f0, .int .i64 a1.f4.f1, .bool a1.f4.f2, .bool a1.f4.f3, .bool a1.f4.f4, .bool a1.f4.f5, .bool a1.f4.f6, .bool a1.f4.f7, .bool a1.f4.f8, .bool a1.f4.f9]]) Try.func37 nm37 rfl rfl) rfl (F37.ok (a0 := a0) (A0_0 := A0_0) (c0_0 := c0_0) (a1 := a1.f0) (a2 := a1.f1) (a3 := a1.f2) (a4 := a1.f4) C1782) rfl ?_)
  rintro _ _ ⟨A41, c42, rfl, rfl⟩
  refine RA_step rfl (OA_v (v := .tuple #[.agg #[.int .i64 r40.1.f0, .int .i64 r40.1.f1, .slice A41 r40.1.f2.length c42], .int .i64 r40.2]) rfl (V_move rfl) ?_)
  refine RA_step rfl (OA_v (v := .agg #[.int .i64 r40.1.f0, .int .i64 r40.1.f1, .slice A41 r40.1.f2.length c42]) rfl (V_extract rfl rfl) ?_)
  refine RA_step rfl (OA_v (v := .int .i64 r40.2) rfl (V_extract rfl rfl) ?_)
  refine RA_step rfl (OA_st (b := b14) (m := 0) (k := 7) (vs := [.int .i64 r40.1.f0, .int .i64 r40.1.f1, .slice A41 r40.1.f2.length c42]) (cs' := [.int .i64 r40.1.f0, .int .i64 r40.1.f1, .slice A41 r40.1.f2.length c42]) rfl rfl rfl rfl rfl rfl sz67 rfl rfl ?_)
  refine RA_step rfl (OA_v (v := .int .i64 r40.2) rfl (V_assign rfl) ?_)
  refine RA_nil ?_
  refine at_normal ?_
  refine SA_seq ?_
  refine SA_region ?_
  refine RA_step rfl (OA_r rfl (VR_loadA_blk (b := b4) (m := 0) (k := 1) (vs := [.int .i64 a0.f0, .int .i64 a0.f1, .slice A0_0 a0.f2.length c0_0]) Try.underlying67 rfl sz67 rfl rfl rfl) ?_)
  refine RA_step rfl (OA_v (v := .pointer (some ⟨b6, 0, none⟩)) rfl (V_fieldAddrN (B := ⟨b6, 0, none⟩) (m := 0) (o := 0) Try.underlying90 rfl nz3 rfl rfl) ?_)
  refine RA_step rfl (OA_r rfl (VR_load_blk (b := b6) (m := 0) (k := 3) Try.underlying3 rfl rfl rfl rfl) ?_)
  refine RA_step rfl (OA_v (v := .pointer (some ((⟨b6, 0, none⟩ : Addr).add 1))) rfl (V_fieldAddrN (B := ⟨b6, 0, none⟩) (m := 0) (o := 1) Try.underlying90 rfl nz3 rfl rfl) ?_)
  refine RA_step rfl (OA_r rfl (VR_load_blk (b := b6) (m := 1) (k := 3) Try.underlying3 rfl rfl rfl rfl) ?_)
  refine RA_step rfl (OA_v (v := .pointer (some ((⟨b6, 0, none⟩ : Addr).add 2))) rfl (V_fieldAddrN (B := ⟨b6, 0, none⟩) (m := 0) (o := 2) Try.underlying90 rfl nz3 rfl rfl) ?_)
  refine RA_step rfl (OA_r rfl (VR_load_blk (b := b6) (m := 2) (k := 3) Try.underlying3 rfl rfl rfl rfl) ?_)
  refine RA_step rfl (OA_v (v := .pointer (some ((⟨b6, 0, none⟩ : Addr).add 4))) rfl (V_fieldAddrN (B := ⟨b6, 0, none⟩) (m := 0) (o := 4) Try.underlying90 rfl nz70 rfl rfl) ?_)
  refine RA_step rfl (OA_r rfl (VR_loadA_blk (b := b6) (m := 4) (k := 3) (vs := [.int .i64 a1.f4.f0, .int .i64 a1.f4.f1, .bool a1.f4.f2, .bool a1.f4.f3, .bool a1.f4.f4, .bool a1.f4.f5, .bool a1.f4.f6, .bool a1.f4.f7, .bool a1.f4.f8, .bool a1.f4.f9]) Try.underlying70 rfl sz70 rfl rfl rfl) ?_)
  obtain ⟨r44, C1781, H⟩ := g_bind H
  refine RA_step rfl (OA_callA [2] [0, 1, 2, 3, 4, 5, 6, 7, 8, 9, 10] rfl (X_fn (vs := [.agg #[.int .i64 a0.f0, .int .i64 a0.f1, .slice A0_0 a0.f2.length c0_0], .int .i64 a1.f0, .int .i64 a1.f1, .int .i64 a1.f2, .agg #[.int .i64 a1.f4.f0, .int .i64 a1.f4.f1, .bool a1.f4.f2, .bool a1.f4.f3, .bool a1.f4.f4, .bool a1.f4.f5, .bool a1.f4.f6, .bool a1.f4.f7, .bool a1.f4.f8, .bool a1.f4.f9]]) Try.func47 nm47 rfl rfl) rfl (F47.ok (a0 := a0) (A0_0 := A0_0) (c0_0 := c0_0) (a1 := a1.f0) (a2 := a1.f1) (a3 := a1.f2) (a4 := a1.f4) C1781) rfl ?_)
  rintro _ _ ⟨A45, c46, rfl, rfl⟩
  refine RA_step rfl (OA_v (v := .tuple #[.agg #[.int .i64 r44.1.f0, .int .i64 r44.1.f1, .slice A45 r44.1.f2.length c46], .int .i64 r44.2]) rfl (V_move rfl) ?_)
  refine RA_step rfl (OA_v (v := .agg #[.int .i64 r44.1.f0, .int .i64 r44.1.f1, .slice A45 r44.1.f2.length c46]) rfl (V_extract rfl rfl) ?_)
  refine RA_step rfl (OA_v (v := .int .i64 r44.2) rfl (V_extract rfl rfl) ?_)
  refine RA_step rfl (OA_st (b := b20) (m := 0) (k := 10) (vs := [.int .i64 r44.1.f0, .int .i64 r44.1.f1, .slice A45 r44.1.f2.length c46]) (cs' := [.int .i64 r44.1.f0, .int .i64 r44.1.f1, .slice A45 r44.1.f2.length c46]) rfl rfl rfl rfl rfl rfl sz67 rfl rfl ?_)
  refine RA_step rfl (OA_v (v := .int .i64 r44.2) rfl (V_assign rfl) ?_)
  refine RA_nil ?_
  refine at_normal ?_
  refine SA.of_St (l := [(3, .pointer (some ⟨b4, 0, none⟩)), (4, .pointer (some ⟨b6, 0, none⟩)), (5, .pointer (some ⟨b8, 0, none⟩)), (7, .pointer (some ⟨b14, 0, none⟩)), (8, .int .i64 r40.2), (9, .pointer (some ⟨b20, 0, none⟩)), (10, .int .i64 r44.2)]) (B := [Blk b4 67 [.int .i64 a0.f0, .int .i64 a0.f1, .slice A0_0 a0.f2.length c0_0], Ro k76 A0_0 c0_0 a0.f2, Blk b6 90 (.int .i64 a1.f0 :: .int .i64 a1.f1 :: .int .i64 a1.f2 :: .int .i64 a1.f3 :: .int .i64 a1.f4.f0 :: .int .i64 a1.f4.f1 :: .bool a1.f4.f2 :: .bool a1.f4.f3 :: .bool a1.f4.f4 :: .bool a1.f4.f5 :: .bool a1.f4.f6 :: .bool a1.f4.f7 :: .bool a1.f4.f8 :: .bool a1.f4.f9 :: .slice A1_0 a1.f5.length c1_0 :: []), Ro k76 A1_0 c1_0 a1.f5, Blk b8 67 [.int .i64 a2.f0, .int .i64 a2.f1, .slice A2_0 a2.f2.length c2_0], Ro k76 A2_0 c2_0 a2.f2, Blk b14 67 [.int .i64 r40.1.f0, .int .i64 r40.1.f1, .slice A41 r40.1.f2.length c42], Buf k76 76 A41 c42 r40.1.f2, Blk b20 67 [.int .i64 r44.1.f0, .int .i64 r44.1.f1, .slice A45 r44.1.f2.length c46], Buf k76 76 A45 c46 r44.1.f2]) (St.mk1 (aeq rfl (aeq rfl (aeq rfl (aeq rfl (aeq rfl (aeq rfl (aeq rfl aeq0))))))) (Gh.sel [2, 3, 4, 5, 6, 7, 8, 1, 10, 0] (by kernel_rfl) (by kernel_rfl))) fun junk => ?_
  refine SA_seq ?_
  refine SA_seq ?_
  refine SA_region ?_
  refine RA_step rfl (OA_r rfl (VR_loadA_blk (b := b14) (m := 0) (k := 6) (vs := [.int .i64 r40.1.f0, .int .i64 r40.1.f1, .slice A41 r40.1.f2.length c42]) Try.underlying67 rfl sz67 rfl rfl rfl) ?_)
  refine RA_step rfl (OA_r rfl (VR_loadA_blk (b := b20) (m := 0) (k := 8) (vs := [.int .i64 r44.1.f0, .int .i64 r44.1.f1, .slice A45 r44.1.f2.length c46]) Try.underlying67 rfl sz67 rfl rfl rfl) ?_)
  obtain ⟨r48, C1780, H⟩ := g_bind H
  refine RA_step rfl (OA.ghost (Gh.freeze (k := 7) rfl) (OA.ghost (Gh.freeze (k := 9) rfl) (OA_callA [7, 9] [0, 1, 2, 3, 4, 5, 6, 7, 8, 9] rfl (X_fn (vs := [.agg #[.int .i64 r40.1.f0, .int .i64 r40.1.f1, .slice A41 r40.1.f2.length c42], .agg #[.int .i64 r44.1.f0, .int .i64 r44.1.f1, .slice A45 r44.1.f2.length c46]]) Try.func40 nm40 rfl rfl) rfl (F40.ok (a0 := r40.1) (A0_0 := A41) (c0_0 := c42) (a1 := r44.1) (A1_0 := A45) (c1_0 := c46) C1780) rfl ?_)))
  rintro _ _ ⟨rfl, rfl⟩
  refine RA_step rfl (OA_v (v := .bool (!r48)) rfl (V_not rfl) ?_)
  refine RA_step rfl (OA_v (v := .bool (!r48)) rfl (V_move rfl) ?_)
  obtain ⟨q49, hq49, H⟩ := g_lt H
  refine RA_cut 4 (fun e ds As => St [(3, .pointer (some ⟨b4, 0, none⟩)), (4, .pointer (some ⟨b6, 0, none⟩)), (5, .pointer (some ⟨b8, 0, none⟩)), (7, .pointer (some ⟨b14, 0, none⟩)), (9, .pointer (some ⟨b20, 0, none⟩)), (109, .bool q49)] [Blk b4 67 [.int .i64 a0.f0, .int .i64 a0.f1, .slice A0_0 a0.f2.length c0_0], Ro k76 A0_0 c0_0 a0.f2, Blk b6 90 (.int .i64 a1.f0 :: .int .i64 a1.f1 :: .int .i64 a1.f2 :: .int .i64 a1.f3 :: .int .i64 a1.f4.f0 :: .int .i64 a1.f4.f1 :: .bool a1.f4.f2 :: .bool a1.f4.f3 :: .bool a1.f4.f4 :: .bool a1.f4.f5 :: .bool a1.f4.f6 :: .bool a1.f4.f7 :: .bool a1.f4.f8 :: .bool a1.f4.f9 :: .slice A1_0 a1.f5.length c1_0 :: []), Ro k76 A1_0 c1_0 a1.f5, Blk b8 67 [.int .i64 a2.f0, .int .i64 a2.f1, .slice A2_0 a2.f2.length c2_0], Ro k76 A2_0 c2_0 a2.f2, Blk b14 67 [.int .i64 r40.1.f0, .int .i64 r40.1.f1, .slice A41 r40.1.f2.length c42], Ro k76 A41 c42 r40.1.f2, Blk b20 67 [.int .i64 r44.1.f0, .int .i64 r44.1.f1, .slice A45 r44.1.f2.length c46], Ro k76 A45 c46 r44.1.f2] e ds As) ?_ ?_
  · by_cases h50 : (!r48) = true
    · refine RA_noB rfl rfl rfl rfl (h50) rfl ?_
      refine RA_noB rfl rfl rfl rfl (h50) rfl ?_
      refine RA_noB rfl rfl rfl rfl (h50) rfl ?_
      refine RA_step rfl (OA_v rfl (V_pickT rfl (h50) rfl) ?_)
      refine RA_nil ?_
      exact at_normal (St.mk1 (aeq rfl (aeq rfl (aeq rfl (aeq rfl (aeq rfl (aeq (congrArg Value.bool (or_t hq49 (h50))) aeq0)))))) (Gh.sel [0, 1, 2, 3, 4, 5, 6, 7, 8, 9] rfl rfl))
    refine RA_yesB rfl rfl rfl rfl (bno h50) (OA_v (v := .int .i64 r40.2) rfl (V_move rfl) ?_)
    refine RA_yesB rfl rfl rfl rfl (bno h50) (OA_v (v := .int .i64 r44.2) rfl (V_move rfl) ?_)
    refine RA_yesB rfl rfl rfl rfl (bno h50) (OA_v (v := .bool (decide (r40.2 ≠ r44.2))) rfl (V_neq rfl rfl) ?_)
    refine RA_step rfl (OA_v rfl (V_pickF rfl (bno h50) rfl) ?_)
    refine RA_nil ?_
    exact at_normal (St.mk1 (aeq rfl (aeq rfl (aeq rfl (aeq rfl (aeq rfl (aeq (congrArg Value.bool (or_f hq49 (bno h50))) aeq0)))))) (Gh.sel [0, 1, 2, 3, 4, 5, 6, 7, 8, 9] rfl rfl))
  rintro e ds As hst51
  refine RA_nil ?_
  refine at_normal ?_
  refine SA.of_St hst51 fun junk => ?_
  by_cases h52 : q49 = true
  · replace H := g_ift h52 H
    refine SA_condTb rfl h52 ?_
    refine SA_seq ?_
    refine SA_region ?_
    refine RA_step rfl (OA_v (v := .bool false) rfl (V_assign rfl) ?_)
    refine RA_nil ?_
    refine at_normal ?_
    refine SA_ret ?_
    refine thn_ret ?_
    have hr_ := Option.some.inj H
    subst hr_
    exact BQ_R1 [] rfl rfl (Gh.sel [] rfl rfl) ⟨rfl, rfl⟩
  replace H := g_iff h52 H
  refine SA_condFb rfl h52 ?_
  refine SA_skip ?_
  refine at_normal ?_
  refine SA_seq ?_
  refine SA_region ?_
  refine RA_step rfl (OA_r rfl (VR_loadA_blk (b := b4) (m := 0) (k := 0) (vs := [.int .i64 a0.f0, .int .i64 a0.f1, .slice A0_0 a0.f2.length c0_0]) Try.underlying67 rfl sz67 rfl rfl rfl) ?_)
  refine RA_step rfl (OA_v (v := .pointer (some ⟨b6, 0, none⟩)) rfl (V_fieldAddrN (B := ⟨b6, 0, none⟩) (m := 0) (o := 0) Try.underlying90 rfl nz3 rfl rfl) ?_)
  refine RA_step rfl (OA_r rfl (VR_load_blk (b := b6) (m := 0) (k := 2) Try.underlying3 rfl rfl rfl rfl) ?_)
  refine RA_step rfl (OA_v (v := .pointer (some ((⟨b6, 0, none⟩ : Addr).add 1))) rfl (V_fieldAddrN (B := ⟨b6, 0, none⟩) (m := 0) (o := 1) Try.underlying90 rfl nz3 rfl rfl) ?_)
  refine RA_step rfl (OA_r rfl (VR_load_blk (b := b6) (m := 1) (k := 2) Try.underlying3 rfl rfl rfl rfl) ?_)
  refine RA_step rfl (OA_v (v := .pointer (some ((⟨b6, 0, none⟩ : Addr).add 3))) rfl (V_fieldAddrN (B := ⟨b6, 0, none⟩) (m := 0) (o := 3) Try.underlying90 rfl nz3 rfl rfl) ?_)
  refine RA_step rfl (OA_r rfl (VR_load_blk (b := b6) (m := 3) (k := 2) Try.underlying3 rfl rfl rfl rfl) ?_)
  refine RA_step rfl (OA_v (v := .pointer (some ((⟨b6, 0, none⟩ : Addr).add 4))) rfl (V_fieldAddrN (B := ⟨b6, 0, none⟩) (m := 0) (o := 4) Try.underlying90 rfl nz70 rfl rfl) ?_)
  refine RA_step rfl (OA_r rfl (VR_loadA_blk (b := b6) (m := 4) (k := 2) (vs := [.int .i64 a1.f4.f0, .int .i64 a1.f4.f1, .bool a1.f4.f2, .bool a1.f4.f3, .bool a1.f4.f4, .bool a1.f4.f5, .bool a1.f4.f6, .bool a1.f4.f7, .bool a1.f4.f8, .bool a1.f4.f9]) Try.underlying70 rfl sz70 rfl rfl rfl) ?_)
  obtain ⟨r53, C1779, H⟩ := g_bind H
  refine RA_step rfl (OA_callA [1] [0, 1, 2, 3, 4, 5, 6, 7, 8, 9] rfl (X_fn (vs := [.agg #[.int .i64 a0.f0, .int .i64 a0.f1, .slice A0_0 a0.f2.length c0_0], .int .i64 a1.f0, .int .i64 a1.f1, .int .i64 a1.f3, .agg #[.int .i64 a1.f4.f0, .int .i64 a1.f4.f1, .bool a1.f4.f2, .bool a1.f4.f3, .bool a1.f4.f4, .bool a1.f4.f5, .bool a1.f4.f6, .bool a1.f4.f7, .bool a1.f4.f8, .bool a1.f4.f9]]) Try.func43 nm43 rfl rfl) rfl (F43.ok (a0 := a0) (A0_0 := A0_0) (c0_0 := c0_0) (a1 := a1.f0) (a2 := a1.f1) (a3 := a1.f3) (a4 := a1.f4) C1779) rfl ?_)
  rintro _ _ ⟨A54, c55, rfl, rfl⟩
  refine RA_step rfl (OA_v (v := .tuple #[.agg #[.int .i64 r53.1.f0, .int .i64 r53.1.f1, .slice A54 r53.1.f2.length c55], .int .i64 r53.2]) rfl (V_move rfl) ?_)
  refine RA_step rfl (OA_v (v := .agg #[.int .i64 r53.1.f0, .int .i64 r53.1.f1, .slice A54 r53.1.f2.length c55]) rfl (V_extract rfl rfl) ?_)
  refine RA_step rfl (OA_v (v := .int .i64 r53.2) rfl (V_extract rfl rfl) ?_)
  refine RA_step rfl (OA_st (b := b14) (m := 0) (k := 7) (vs := [.int .i64 r53.1.f0, .int .i64 r53.1.f1, .slice A54 r53.1.f2.length c55]) (cs' := [.int .i64 r53.1.f0, .int .i64 r53.1.f1, .slice A54 r53.1.f2.length c55]) rfl rfl rfl rfl rfl rfl sz67 rfl rfl ?_)
  refine RA_step rfl (OA_v (v := .int .i64 r53.2) rfl (V_assign rfl) ?_)
  refine RA_nil ?_
  refine at_normal ?_
  refine SA_seq ?_
  refine SA_region ?_
  refine RA_step rfl (OA_r rfl (VR_loadA_blk (b := b4) (m := 0) (k := 1) (vs := [.int .i64 a0.f0, .int .i64 a0.f1, .slice A0_0 a0.f2.length c0_0]) Try.underlying67 rfl sz67 rfl rfl rfl) ?_)
  refine RA_step rfl (OA_v (v := .pointer (some ⟨b6, 0, none⟩)) rfl (V_fieldAddrN (B := ⟨b6, 0, none⟩) (m := 0) (o := 0) Try.underlying90 rfl nz3 rfl rfl) ?_)
  refine RA_step rfl (OA_r rfl (VR_load_blk (b := b6) (m := 0) (k := 3) Try.underlying3 rfl rfl rfl rfl) ?_)
  refine RA_step rfl (OA_v (v := .pointer (some ((⟨b6, 0, none⟩ : Addr).add 1))) rfl (V_fieldAddrN (B := ⟨b6, 0, none⟩) (m := 0) (o := 1) Try.underlying90 rfl nz3 rfl rfl) ?_)
  refine RA_step rfl (OA_r rfl (VR_load_blk (b := b6) (m := 1) (k := 3) Try.underlying3 rfl rfl rfl rfl) ?_)
  refine RA_step rfl (OA_v (v := .pointer (some ((⟨b6, 0, none⟩ : Addr).add 3))) rfl (V_fieldAddrN (B := ⟨b6, 0, none⟩) (m := 0) (o := 3) Try.underlying90 rfl nz3 rfl rfl) ?_)
  refine RA_step rfl (OA_r rfl (VR_load_blk (b := b6) (m := 3) (k := 3) Try.underlying3 rfl rfl rfl rfl) ?_)
  refine RA_step rfl (OA_v (v := .pointer (some ((⟨b6, 0, none⟩ : Addr).add 4))) rfl (V_fieldAddrN (B := ⟨b6, 0, none⟩) (m := 0) (o := 4) Try.underlying90 rfl nz70 rfl rfl) ?_)
  refine RA_step rfl (OA_r rfl (VR_loadA_blk (b := b6) (m := 4) (k := 3) (vs := [.int .i64 a1.f4.f0, .int .i64 a1.f4.f1, .bool a1.f4.f2, .bool a1.f4.f3, .bool a1.f4.f4, .bool a1.f4.f5, .bool a1.f4.f6, .bool a1.f4.f7, .bool a1.f4.f8, .bool a1.f4.f9]) Try.underlying70 rfl sz70 rfl rfl rfl) ?_)
  obtain ⟨r57, C1778, H⟩ := g_bind H
  refine RA_step rfl (OA_callA [2] [0, 1, 2, 3, 4, 5, 6, 7, 8, 9, 10] rfl (X_fn (vs := [.agg #[.int .i64 a0.f0, .int .i64 a0.f1, .slice A0_0 a0.f2.length c0_0], .int .i64 a1.f0, .int .i64 a1.f1, .int .i64 a1.f3, .agg #[.int .i64 a1.f4.f0, .int .i64 a1.f4.f1, .bool a1.f4.f2, .bool a1.f4.f3, .bool a1.f4.f4, .bool a1.f4.f5, .bool a1.f4.f6, .bool a1.f4.f7, .bool a1.f4.f8, .bool a1.f4.f9]]) Try.func48 nm48 rfl rfl) rfl (F48.ok (a0 := a0) (A0_0 := A0_0) (c0_0 := c0_0) (a1 := a1.f0) (a2 := a1.f1) (a3 := a1.f3) (a4 := a1.f4) C1778) rfl ?_)
  rintro _ _ ⟨A58, c59, rfl, rfl⟩
  refine RA_step rfl (OA_v (v := .tuple #[.agg #[.int .i64 r57.1.f0, .int .i64 r57.1.f1, .slice A58 r57.1.f2.length c59], .int .i64 r57.2]) rfl (V_move rfl) ?_)
  refine RA_step rfl (OA_v (v := .agg #[.int .i64 r57.1.f0, .int .i64 r57.1.f1, .slice A58 r57.1.f2.length c59]) rfl (V_extract rfl rfl) ?_)
  refine RA_step rfl (OA_v (v := .int .i64 r57.2) rfl (V_extract rfl rfl) ?_)
  refine RA_step rfl (OA_st (b := b20) (m := 0) (k := 10) (vs := [.int .i64 r57.1.f0, .int .i64 r57.1.f1, .slice A58 r57.1.f2.length c59]) (cs' := [.int .i64 r57.1.f0, .int .i64 r57.1.f1, .slice A58 r57.1.f2.length c59]) rfl rfl rfl rfl rfl rfl sz67 rfl rfl ?_)
  refine RA_step rfl (OA_v (v := .int .i64 r57.2) rfl (V_assign rfl) ?_)
  refine RA_nil ?_
  refine at_normal ?_
  refine SA.of_St (l := [(3, .pointer (some ⟨b4, 0, none⟩)), (4, .pointer (some ⟨b6, 0, none⟩)), (5, .pointer (some ⟨b8, 0, none⟩)), (7, .pointer (some ⟨b14, 0, none⟩)), (8, .int .i64 r53.2), (9, .pointer (some ⟨b20, 0, none⟩)), (10, .int .i64 r57.2)]) (B := [Blk b4 67 [.int .i64 a0.f0, .int .i64 a0.f1, .slice A0_0 a0.f2.length c0_0], Ro k76 A0_0 c0_0 a0.f2, Blk b6 90 (.int .i64 a1.f0 :: .int .i64 a1.f1 :: .int .i64 a1.f2 :: .int .i64 a1.f3 :: .int .i64 a1.f4.f0 :: .int .i64 a1.f4.f1 :: .bool a1.f4.f2 :: .bool a1.f4.f3 :: .bool a1.f4.f4 :: .bool a1.f4.f5 :: .bool a1.f4.f6 :: .bool a1.f4.f7 :: .bool a1.f4.f8 :: .bool a1.f4.f9 :: .slice A1_0 a1.f5.length c1_0 :: []), Ro k76 A1_0 c1_0 a1.f5, Blk b8 67 [.int .i64 a2.f0, .int .i64 a2.f1, .slice A2_0 a2.f2.length c2_0], Ro k76 A2_0 c2_0 a2.f2, Blk b14 67 [.int .i64 r53.1.f0, .int .i64 r53.1.f1, .slice A54 r53.1.f2.length c55], Buf k76 76 A54 c55 r53.1.f2, Blk b20 67 [.int .i64 r57.1.f0, .int .i64 r57.1.f1, .slice A58 r57.1.f2.length c59], Buf k76 76 A58 c59 r57.1.f2]) (St.mk1 (aeq rfl (aeq rfl (aeq rfl (aeq rfl (aeq rfl (aeq rfl (aeq rfl aeq0))))))) (Gh.sel [2, 3, 4, 5, 6, 7, 8, 1, 10, 0] (by kernel_rfl) (by kernel_rfl))) fun junk => ?_
  refine SA_seq ?_
  refine SA_seq ?_
  refine SA_region ?_
  refine RA_step rfl (OA_r rfl (VR_loadA_blk (b := b14) (m := 0) (k := 6) (vs := [.int .i64 r53.1.f0, .int .i64 r53.1.f1, .slice A54 r53.1.f2.length c55]) Try.underlying67 rfl sz67 rfl rfl rfl) ?_)
  refine RA_step rfl (OA_r rfl (VR_loadA_blk (b := b20) (m := 0) (k := 8) (vs := [.int .i64 r57.1.f0, .int .i64 r57.1.f1, .slice A58 r57.1.f2.length c59]) Try.underlying67 rfl sz67 rfl rfl rfl) ?_)
  obtain ⟨r61, C1777, H⟩ := g_bind H
  refine RA_step rfl (OA.ghost (Gh.freeze (k := 7) rfl) (OA.ghost (Gh.freeze (k := 9) rfl) (OA_callA [7, 9] [0, 1, 2, 3, 4, 5, 6, 7, 8, 9] rfl (X_fn (vs := [.agg #[.int .i64 r53.1.f0, .int .i64 r53.1.f1, .slice A54 r53.1.f2.length c55], .agg #[.int .i64 r57.1.f0, .int .i64 r57.1.f1, .slice A58 r57.1.f2.length c59]]) Try.func40 nm40 rfl rfl) rfl (F40.ok (a0 := r53.1) (A0_0 := A54) (c0_0 := c55) (a1 := r57.1) (A1_0 := A58) (c1_0 := c59) C1777) rfl ?_)))
  rintro _ _ ⟨rfl, rfl⟩
  refine RA_step rfl (OA_v (v := .bool (!r61)) rfl (V_not rfl) ?_)
  refine RA_step rfl (OA_v (v := .bool (!r61)) rfl (V_move rfl) ?_)
  obtain ⟨q62, hq62, H⟩ := g_lt H
  refine RA_cut 4 (fun e ds As => St [(3, .pointer (some ⟨b4, 0, none⟩)), (4, .pointer (some ⟨b6, 0, none⟩)), (5, .pointer (some ⟨b8, 0, none⟩)), (7, .pointer (some ⟨b14, 0, none⟩)), (9, .pointer (some ⟨b20, 0, none⟩)), (144, .bool q62)] [Blk b4 67 [.int .i64 a0.f0, .int .i64 a0.f1, .slice A0_0 a0.f2.length c0_0], Ro k76 A0_0 c0_0 a0.f2, Blk b6 90 (.int .i64 a1.f0 :: .int .i64 a1.f1 :: .int .i64 a1.f2 :: .int .i64 a1.f3 :: .int .i64 a1.f4.f0 :: .int .i64 a1.f4.f1 :: .bool a1.f4.f2 :: .bool a1.f4.f3 :: .bool a1.f4.f4 :: .bool a1.f4.f5 :: .bool a1.f4.f6 :: .bool a1.f4.f7 :: .bool a1.f4.f8 :: .bool a1.f4.f9 :: .slice A1_0 a1.f5.length c1_0 :: []), Ro k76 A1_0 c1_0 a1.f5, Blk b8 67 [.int .i64 a2.f0, .int .i64 a2.f1, .slice A2_0 a2.f2.length c2_0], Ro k76 A2_0 c2_0 a2.f2, Blk b14 67 [.int .i64 r53.1.f0, .int .i64 r53.1.f1, .slice A54 r53.1.f2.length c55], Ro k76 A54 c55 r53.1.f2, Blk b20 67 [.int .i64 r57.1.f0, .int .i64 r57.1.f1, .slice A58 r57.1.f2.length c59], Ro k76 A58 c59 r57.1.f2] e ds As) ?_ ?_
  · by_cases h63 : (!r61) = true
    · refine RA_noB rfl rfl rfl rfl (h63) rfl ?_
      refine RA_noB rfl rfl rfl rfl (h63) rfl ?_
      refine RA_noB rfl rfl rfl rfl (h63) rfl ?_
      refine RA_step rfl (OA_v rfl (V_pickT rfl (h63) rfl) ?_)
      refine RA_nil ?_
      exact at_normal (St.mk1 (aeq rfl (aeq rfl (aeq rfl (aeq rfl (aeq rfl (aeq (congrArg Value.bool (or_t hq62 (h63))) aeq0)))))) (Gh.sel [0, 1, 2, 3, 4, 5, 6, 7, 8, 9] rfl rfl))
    refine RA_yesB rfl rfl rfl rfl (bno h63) (OA_v (v := .int .i64 r53.2) rfl (V_move rfl) ?_)
    refine RA_yesB rfl rfl rfl rfl (bno h63) (OA_v (v := .int .i64 r57.2) rfl (V_move rfl) ?_)
    refine RA_yesB rfl rfl rfl rfl (bno h63) (OA_v (v := .bool (decide (r53.2 ≠ r57.2))) rfl (V_neq rfl rfl) ?_)
    refine RA_step rfl (OA_v rfl (V_pickF rfl (bno h63) rfl) ?_)
    refine RA_nil ?_
    exact at_normal (St.mk1 (aeq rfl (aeq rfl (aeq rfl (aeq rfl (aeq rfl (aeq (congrArg Value.bool (or_f hq62 (bno h63))) aeq0)))))) (Gh.sel [0, 1, 2, 3, 4, 5, 6, 7, 8, 9] rfl rfl))
  rintro e ds As hst64
  refine RA_nil ?_
  refine at_normal ?_
  refine SA.of_St hst64 fun junk => ?_
  by_cases h65 : q62 = true
  · replace H := g_ift h65 H
    refine SA_condTb rfl h65 ?_
    refine SA_seq ?_
    refine SA_region ?_
    refine RA_step rfl (OA_v (v := .bool false) rfl (V_assign rfl) ?_)
    refine RA_nil ?_
    refine at_normal ?_
    refine SA_ret ?_
    refine thn_ret ?_
    have hr_ := Option.some.inj H
    subst hr_
    exact BQ_R1 [] rfl rfl (Gh.sel [] rfl rfl) ⟨rfl, rfl⟩
  replace H := g_iff h65 H
  refine SA_condFb rfl h65 ?_
  refine SA_skip ?_
  refine at_normal ?_
  refine SA_seq ?_
  refine SA_region ?_
  refine RA_step rfl (OA_r rfl (VR_loadA_blk (b := b4) (m := 0) (k := 0) (vs := [.int .i64 a0.f0, .int .i64 a0.f1, .slice A0_0 a0.f2.length c0_0]) Try.underlying67 rfl sz67 rfl rfl rfl) ?_)
  refine RA_step rfl (OA_v (v := .pointer (some ⟨b6, 0, none⟩)) rfl (V_fieldAddrN (B := ⟨b6, 0, none⟩) (m := 0) (o := 0) Try.underlying90 rfl nz3 rfl rfl) ?_)
  refine RA_step rfl (OA_r rfl (VR_load_blk (b := b6) (m := 0) (k := 2) Try.underlying3 rfl rfl rfl rfl) ?_)
  refine RA_step rfl (OA_v (v := .pointer (some ((⟨b6, 0, none⟩ : Addr).add 2))) rfl (V_fieldAddrN (B := ⟨b6, 0, none⟩) (m := 0) (o := 2) Try.underlying90 rfl nz3 rfl rfl) ?_)
  refine RA_step rfl (OA_r rfl (VR_load_blk (b := b6) (m := 2) (k := 2) Try.underlying3 rfl rfl rfl rfl) ?_)
  refine RA_step rfl (OA_v (v := .pointer (some ((⟨b6, 0, none⟩ : Addr).add 3))) rfl (V_fieldAddrN (B := ⟨b6, 0, none⟩) (m := 0) (o := 3) Try.underlying90 rfl nz3 rfl rfl) ?_)
  refine RA_step rfl (OA_r rfl (VR_load_blk (b := b6) (m := 3) (k := 2) Try.underlying3 rfl rfl rfl rfl) ?_)
  refine RA_step rfl (OA_v (v := .pointer (some ((⟨b6, 0, none⟩ : Addr).add 4))) rfl (V_fieldAddrN (B := ⟨b6, 0, none⟩) (m := 0) (o := 4) Try.underlying90 rfl nz70 rfl rfl) ?_)
  refine RA_step rfl (OA_r rfl (VR_loadA_blk (b := b6) (m := 4) (k := 2) (vs := [.int .i64 a1.f4.f0, .int .i64 a1.f4.f1, .bool a1.f4.f2, .bool a1.f4.f3, .bool a1.f4.f4, .bool a1.f4.f5, .bool a1.f4.f6, .bool a1.f4.f7, .bool a1.f4.f8, .bool a1.f4.f9]) Try.underlying70 rfl sz70 rfl rfl rfl) ?_)
  obtain ⟨r66, C1776, H⟩ := g_bind H
  refine RA_step rfl (OA_callA [1] [0, 1, 2, 3, 4, 5, 6, 7, 8, 9] rfl (X_fn (vs := [.agg #[.int .i64 a0.f0, .int .i64 a0.f1, .slice A0_0 a0.f2.length c0_0], .int .i64 a1.f0, .int .i64 a1.f2, .int .i64 a1.f3, .agg #[.int .i64 a1.f4.f0, .int .i64 a1.f4.f1, .bool a1.f4.f2, .bool a1.f4.f3, .bool a1.f4.f4, .bool a1.f4.f5, .bool a1.f4.f6, .bool a1.f4.f7, .bool a1.f4.f8, .bool a1.f4.f9]]) Try.func33 nm33 rfl rfl) rfl (F33.ok (a0 := a0) (A0_0 := A0_0) (c0_0 := c0_0) (a1 := a1.f0) (a2 := a1.f2) (a3 := a1.f3) (a4 := a1.f4) C1776) rfl ?_)
  rintro _ _ ⟨A67, c68, rfl, rfl⟩
  refine RA_step rfl (OA_v (v := .tuple #[.agg #[.int .i64 r66.1.f0, .int .i64 r66.1.f1, .slice A67 r66.1.f2.length c68], .int .i64 r66.2]) rfl (V_move rfl) ?_)
  refine RA_step rfl (OA_v (v := .agg #[.int .i64 r66.1.f0, .int .i64 r66.1.f1, .slice A67 r66.1.f2.length c68]) rfl (V_extract rfl rfl) ?_)
  refine RA_step rfl (OA_v (v := .int .i64 r66.2) rfl (V_extract rfl rfl) ?_)
  refine RA_step rfl (OA_st (b := b14) (m := 0) (k := 7) (vs := [.int .i64 r66.1.f0, .int .i64 r66.1.f1, .slice A67 r66.1.f2.length c68]) (cs' := [.int .i64 r66.1.f0, .int .i64 r66.1.f1, .slice A67 r66.1.f2.length c68]) rfl rfl rfl rfl rfl rfl sz67 rfl rfl ?_)
  refine RA_step rfl (OA_v (v := .int .i64 r66.2) rfl (V_assign rfl) ?_)
  refine RA_nil ?_
  refine at_normal ?_
  refine SA_seq ?_
  refine SA_region ?_
  refine RA_step rfl (OA_r rfl (VR_loadA_blk (b := b4) (m := 0) (k := 1) (vs := [.int .i64 a0.f0, .int .i64 a0.f1, .slice A0_0 a0.f2.length c0_0]) Try.underlying67 rfl sz67 rfl rfl rfl) ?_)
  refine RA_step rfl (OA_v (v := .pointer (some ⟨b6, 0, none⟩)) rfl (V_fieldAddrN (B := ⟨b6, 0, none⟩) (m := 0) (o := 0) Try.underlying90 rfl nz3 rfl rfl) ?_)
  refine RA_step rfl (OA_r rfl (VR_load_blk (b := b6) (m := 0) (k := 3) Try.underlying3 rfl rfl rfl rfl) ?_)
  refine RA_step rfl (OA_v (v := .pointer (some ((⟨b6, 0, none⟩ : Addr).add 2))) rfl (V_fieldAddrN (B := ⟨b6, 0, none⟩) (m := 0) (o := 2) Try.underlying90 rfl nz3 rfl rfl) ?_)
  refine RA_step rfl (OA_r rfl (VR_load_blk (b := b6) (m := 2) (k := 3) Try.underlying3 rfl rfl rfl rfl) ?_)
  refine RA_step rfl (OA_v (v := .pointer (some ((⟨b6, 0, none⟩ : Addr).add 3))) rfl (V_fieldAddrN (B := ⟨b6, 0, none⟩) (m := 0) (o := 3) Try.underlying90 rfl nz3 rfl rfl) ?_)
  refine RA_step rfl (OA_r rfl (VR_load_blk (b := b6) (m := 3) (k := 3) Try.underlying3 rfl rfl rfl rfl) ?_)
  refine RA_step rfl (OA_v (v := .pointer (some ((⟨b6, 0, none⟩ : Addr).add 4))) rfl (V_fieldAddrN (B := ⟨b6, 0, none⟩) (m := 0) (o := 4) Try.underlying90 rfl nz70 rfl rfl) ?_)
  refine RA_step rfl (OA_r rfl (VR_loadA_blk (b := b6) (m := 4) (k := 3) (vs := [.int .i64 a1.f4.f0, .int .i64 a1.f4.f1, .bool a1.f4.f2, .bool a1.f4.f3, .bool a1.f4.f4, .bool a1.f4.f5, .bool a1.f4.f6, .bool a1.f4.f7, .bool a1.f4.f8, .bool a1.f4.f9]) Try.underlying70 rfl sz70 rfl rfl rfl) ?_)
  obtain ⟨r70, C1775, H⟩ := g_bind H
  refine RA_step rfl (OA_callA [2] [0, 1, 2, 3, 4, 5, 6, 7, 8, 9, 10] rfl (X_fn (vs := [.agg #[.int .i64 a0.f0, .int .i64 a0.f1, .slice A0_0 a0.f2.length c0_0], .int .i64 a1.f0, .int .i64 a1.f2, .int .i64 a1.f3, .agg #[.int .i64 a1.f4.f0, .int .i64 a1.f4.f1, .bool a1.f4.f2, .bool a1.f4.f3, .bool a1.f4.f4, .bool a1.f4.f5, .bool a1.f4.f6, .bool a1.f4.f7, .bool a1.f4.f8, .bool a1.f4.f9]]) Try.func39 nm39 rfl rfl) rfl (F39.ok (a0 := a0) (A0_0 := A0_0) (c0_0 := c0_0) (a1 := a1.f0) (a2 := a1.f2) (a3 := a1.f3) (a4 := a1.f4) C1775) rfl ?_)
  rintro _ _ ⟨A71, c72, rfl, rfl⟩
  refine RA_step rfl (OA_v (v := .tuple #[.agg #[.int .i64 r70.1.f0, .int .i64 r70.1.f1, .slice A71 r70.1.f2.length c72], .int .i64 r70.2]) rfl (V_move rfl) ?_)
  refine RA_step rfl (OA_v (v := .agg #[.int .i64 r70.1.f0, .int .i64 r70.1.f1, .slice A71 r70.1.f2.length c72]) rfl (V_extract rfl rfl) ?_)
  refine RA_step rfl (OA_v (v := .int .i64 r70.2) rfl (V_extract rfl rfl) ?_)
  refine RA_step rfl (OA_st (b := b20) (m := 0) (k := 10) (vs := [.int .i64 r70.1.f0, .int .i64 r70.1.f1, .slice A71 r70.1.f2.length c72]) (cs' := [.int .i64 r70.1.f0, .int .i64 r70.1.f1, .slice A71 r70.1.f2.length c72]) rfl rfl rfl rfl rfl rfl sz67 rfl rfl ?_)
  refine RA_step rfl (OA_v (v := .int .i64 r70.2) rfl (V_assign rfl) ?_)
  refine RA_nil ?_
  refine at_normal ?_
  refine SA.of_St (l := [(3, .pointer (some ⟨b4, 0, none⟩)), (4, .pointer (some ⟨b6, 0, none⟩)), (5, .pointer (some ⟨b8, 0, none⟩)), (7, .pointer (some ⟨b14, 0, none⟩)), (8, .int .i64 r66.2), (9, .pointer (some ⟨b20, 0, none⟩)), (10, .int .i64 r70.2)]) (B := [Blk b4 67 [.int .i64 a0.f0, .int .i64 a0.f1, .slice A0_0 a0.f2.length c0_0], Ro k76 A0_0 c0_0 a0.f2, Blk b6 90 (.int .i64 a1.f0 :: .int .i64 a1.f1 :: .int .i64 a1.f2 :: .int .i64 a1.f3 :: .int .i64 a1.f4.f0 :: .int .i64 a1.f4.f1 :: .bool a1.f4.f2 :: .bool a1.f4.f3 :: .bool a1.f4.f4 :: .bool a1.f4.f5 :: .bool a1.f4.f6 :: .bool a1.f4.f7 :: .bool a1.f4.f8 :: .bool a1.f4.f9 :: .slice A1_0 a1.f5.length c1_0 :: []), Ro k76 A1_0 c1_0 a1.f5, Blk b8 67 [.int .i64 a2.f0, .int .i64 a2.f1, .slice A2_0 a2.f2.length c2_0], Ro k76 A2_0 c2_0 a2.f2, Blk b14 67 [.int .i64 r66.1.f0, .int .i64 r66.1.f1, .slice A67 r66.1.f2.length c68], Buf k76 76 A67 c68 r66.1.f2, Blk b20 67 [.int .i64 r70.1.f0, .int .i64 r70.1.f1, .slice A71 r70.1.f2.length c72], Buf k76 76 A71 c72 r70.1.f2]) (St.mk1 (aeq rfl (aeq rfl (aeq rfl (aeq rfl (aeq rfl (aeq rfl (aeq rfl aeq0))))))) (Gh.sel [2, 3, 4, 5, 6, 7, 8, 1, 10, 0] (by kernel_rfl) (by kernel_rfl))) fun junk => ?_
  refine SA_seq ?_
  refine SA_seq ?_
  refine SA_region ?_
  refine RA_step rfl (OA_r rfl (VR_loadA_blk (b := b14) (m := 0) (k := 6) (vs := [.int .i64 r66.1.f0, .int .i64 r66.1.f1, .slice A67 r66.1.f2.length c68]) Try.underlying67 rfl sz67 rfl rfl rfl) ?_)
  refine RA_step rfl (OA_r rfl (VR_loadA_blk (b := b20) (m := 0) (k := 8) (vs := [.int .i64 r70.1.f0, .int .i64 r70.1.f1, .slice A71 r70.1.f2.length c72]) Try.underlying67 rfl sz67 rfl rfl rfl) ?_)
  obtain ⟨r74, C1774, H⟩ := g_bind H
  refine RA_step rfl (OA.ghost (Gh.freeze (k := 7) rfl) (OA.ghost (Gh.freeze (k := 9) rfl) (OA_callA [7, 9] [0, 1, 2, 3, 4, 5, 6, 7, 8, 9] rfl (X_fn (vs := [.agg #[.int .i64 r66.1.f0, .int .i64 r66.1.f1, .slice A67 r66.1.f2.length c68], .agg #[.int .i64 r70.1.f0, .int .i64 r70.1.f1, .slice A71 r70.1.f2.length c72]]) Try.func40 nm40 rfl rfl) rfl (F40.ok (a0 := r66.1) (A0_0 := A67) (c0_0 := c68) (a1 := r70.1) (A1_0 := A71) (c1_0 := c72) C1774) rfl ?_)))
  rintro _ _ ⟨rfl, rfl⟩
  refine RA_step rfl (OA_v (v := .bool (!r74)) rfl (V_not rfl) ?_)
  refine RA_step rfl (OA_v (v := .bool (!r74)) rfl (V_move rfl) ?_)
  obtain ⟨q75, hq75, H⟩ := g_lt H
  refine RA_cut 4 (fun e ds As => St [(3, .pointer (some ⟨b4, 0, none⟩)), (4, .pointer (some ⟨b6, 0, none⟩)), (5, .pointer (some ⟨b8, 0, none⟩)), (7, .pointer (some ⟨b14, 0, none⟩)), (9, .pointer (some ⟨b20, 0, none⟩)), (179, .bool q75)] [Blk b4 67 [.int .i64 a0.f0, .int .i64 a0.f1, .slice A0_0 a0.f2.length c0_0], Ro k76 A0_0 c0_0 a0.f2, Blk b6 90 (.int .i64 a1.f0 :: .int .i64 a1.f1 :: .int .i64 a1.f2 :: .int .i64 a1.f3 :: .int .i64 a1.f4.f0 :: .int .i64 a1.f4.f1 :: .bool a1.f4.f2 :: .bool a1.f4.f3 :: .bool a1.f4.f4 :: .bool a1.f4.f5 :: .bool a1.f4.f6 :: .bool a1.f4.f7 :: .bool a1.f4.f8 :: .bool a1.f4.f9 :: .slice A1_0 a1.f5.length c1_0 :: []), Ro k76 A1_0 c1_0 a1.f5, Blk b8 67 [.int .i64 a2.f0, .int .i64 a2.f1, .slice A2_0 a2.f2.length c2_0], Ro k76 A2_0 c2_0 a2.f2, Blk b14 67 [.int .i64 r66.1.f0, .int .i64 r66.1.f1, .slice A67 r66.1.f2.length c68], Ro k76 A67 c68 r66.1.f2, Blk b20 67 [.int .i64 r70.1.f0, .int .i64 r70.1.f1, .slice A71 r70.1.f2.length c72], Ro k76 A71 c72 r70.1.f2] e ds As) ?_ ?_
  · by_cases h76 : (!r74) = true
    · refine RA_noB rfl rfl rfl rfl (h76) rfl ?_
      refine RA_noB rfl rfl rfl rfl (h76) rfl ?_
      refine RA_noB rfl rfl rfl rfl (h76) rfl ?_
      refine RA_step rfl (OA_v rfl (V_pickT rfl (h76) rfl) ?_)
      refine RA_nil ?_
      exact at_normal (St.mk1 (aeq rfl (aeq rfl (aeq rfl (aeq rfl (aeq rfl (aeq (congrArg Value.bool (or_t hq75 (h76))) aeq0)))))) (Gh.sel [0, 1, 2, 3, 4, 5, 6, 7, 8, 9] rfl rfl))
    refine RA_yesB rfl rfl rfl rfl (bno h76) (OA_v (v := .int .i64 r66.2) rfl (V_move rfl) ?_)
    refine RA_yesB rfl rfl rfl rfl (bno h76) (OA_v (v := .int .i64 r70.2) rfl (V_move rfl) ?_)
    refine RA_yesB rfl rfl rfl rfl (bno h76) (OA_v (v := .bool (decide (r66.2 ≠ r70.2))) rfl (V_neq rfl rfl) ?_)
    refine RA_step rfl (OA_v rfl (V_pickF rfl (bno h76) rfl) ?_)
    refine RA_nil ?_
    exact at_normal (St.mk1 (aeq rfl (aeq rfl (aeq rfl (aeq rfl (aeq rfl (aeq (congrArg Value.bool (or_f hq75 (bno h76))) aeq0)))))) (Gh.sel [0, 1, 2, 3, 4, 5, 6, 7, 8, 9] rfl rfl))
  rintro e ds As hst77
  refine RA_nil ?_
  refine at_normal ?_
  refine SA.of_St hst77 fun junk => ?_
  by_cases h78 : q75 = true
  · replace H := g_ift h78 H
    refine SA_condTb rfl h78 ?_
    refine SA_seq ?_
    refine SA_region ?_
    refine RA_step rfl (OA_v (v := .bool false) rfl (V_assign rfl) ?_)
    refine RA_nil ?_
    refine at_normal ?_
    refine SA_ret ?_
    refine thn_ret ?_
    have hr_ := Option.some.inj H
    subst hr_
    exact BQ_R1 [] rfl rfl (Gh.sel [] rfl rfl) ⟨rfl, rfl⟩
  replace H := g_iff h78 H
  refine SA_condFb rfl h78 ?_
  refine SA_skip ?_
  refine at_normal ?_
  refine SA_seq ?_
  refine SA_region ?_
  refine RA_step rfl (OA_r rfl (VR_loadA_blk (b := b4) (m := 0) (k := 0) (vs := [.int .i64 a0.f0, .int .i64 a0.f1, .slice A0_0 a0.f2.length c0_0]) Try.underlying67 rfl sz67 rfl rfl rfl) ?_)
  refine RA_step rfl (OA_v (v := .pointer (some ((⟨b6, 0, none⟩ : Addr).add 2))) rfl (V_fieldAddrN (B := ⟨b6, 0, none⟩) (m := 0) (o := 2) Try.underlying90 rfl nz3 rfl rfl) ?_)
  refine RA_step rfl (OA_r rfl (VR_load_blk (b := b6) (m := 2) (k := 2) Try.underlying3 rfl rfl rfl rfl) ?_)
  refine RA_step rfl (OA_v (v := .pointer (some ((⟨b6, 0, none⟩ : Addr).add 1))) rfl (V_fieldAddrN (B := ⟨b6, 0, none⟩) (m := 0) (o := 1) Try.underlying90 rfl nz3 rfl rfl) ?_)
  refine RA_step rfl (OA_r rfl (VR_load_blk (b := b6) (m := 1) (k := 2) Try.underlying3 rfl rfl rfl rfl) ?_)
  refine RA_step rfl (OA_v (v := .pointer (some ((⟨b6, 0, none⟩ : Addr).add 4))) rfl (V_fieldAddrN (B := ⟨b6, 0, none⟩) (m := 0) (o := 4) Try.underlying90 rfl nz70 rfl rfl) ?_)
  refine RA_step rfl (OA_r rfl (VR_loadA_blk (b := b6) (m := 4) (k := 2) (vs := [.int .i64 a1.f4.f0, .int .i64 a1.f4.f1, .bool a1.f4.f2, .bool a1.f4.f3, .bool a1.f4.f4, .bool a1.f4.f5, .bool a1.f4.f6, .bool a1.f4.f7, .bool a1.f4.f8, .bool a1.f4.f9]) Try.underlying70 rfl sz70 rfl rfl rfl) ?_)
  obtain ⟨r79, C1773, H⟩ := g_bind H
  refine RA_step rfl (OA_callA [1] [0, 1, 2, 3, 4, 5, 6, 7, 8, 9] rfl (X_fn (vs := [.agg #[.int .i64 a0.f0, .int .i64 a0.f1, .slice A0_0 a0.f2.length c0_0], .int .i64 a1.f2, .int .i64 a1.f1, .agg #[.int .i64 a1.f4.f0, .int .i64 a1.f4.f1, .bool a1.f4.f2, .bool a1.f4.f3, .bool a1.f4.f4, .bool a1.f4.f5, .bool a1.f4.f6, .bool a1.f4.f7, .bool a1.f4.f8, .bool a1.f4.f9]]) Try.func38 nm38 rfl rfl) rfl (F38.ok (a0 := a0) (A0_0 := A0_0) (c0_0 := c0_0) (a1 := a1.f2) (a2 := a1.f1) (a3 := a1.f4) C1773) rfl ?_)
  rintro _ _ ⟨A80, c81, rfl, rfl⟩
  refine RA_step rfl (OA_v (v := .tuple #[.agg #[.int .i64 r79.1.f0, .int .i64 r79.1.f1, .slice A80 r79.1.f2.length c81], .int .i64 r79.2]) rfl (V_move rfl) ?_)
  refine RA_step rfl (OA_v (v := .agg #[.int .i64 r79.1.f0, .int .i64 r79.1.f1, .slice A80 r79.1.f2.length c81]) rfl (V_extract rfl rfl) ?_)
  refine RA_step rfl (OA_v (v := .int .i64 r79.2) rfl (V_extract rfl rfl) ?_)
  refine RA_step rfl (OA_st (b := b14) (m := 0) (k := 7) (vs := [.int .i64 r79.1.f0, .int .i64 r79.1.f1, .slice A80 r79.1.f2.length c81]) (cs' := [.int .i64 r79.1.f0, .int .i64 r79.1.f1, .slice A80 r79.1.f2.length c81]) rfl rfl rfl rfl rfl rfl sz67 rfl rfl ?_)
  refine RA_step rfl (OA_v (v := .int .i64 r79.2) rfl (V_assign rfl) ?_)
  refine RA_nil ?_
  refine at_normal ?_
  refine SA_seq ?_
  refine SA_region ?_
  refine RA_step rfl (OA_r rfl (VR_loadA_blk (b := b4) (m := 0) (k := 1) (vs := [.int .i64 a0.f0, .int .i64 a0.f1, .slice A0_0 a0.f2.length c0_0]) Try.underlying67 rfl sz67 rfl rfl rfl) ?_)
  refine RA_step rfl (OA_v (v := .pointer (some ((⟨b6, 0, none⟩ : Addr).add 2))) rfl (V_fieldAddrN (B := ⟨b6, 0, none⟩) (m := 0) (o := 2) Try.underlying90 rfl nz3 rfl rfl) ?_)
  refine RA_step rfl (OA_r rfl (VR_load_blk (b := b6) (m := 2) (k := 3) Try.underlying3 rfl rfl rfl rfl) ?_)
  refine RA_step rfl (OA_v (v := .pointer (some ((⟨b6, 0, none⟩ : Addr).add 1))) rfl (V_fieldAddrN (B := ⟨b6, 0, none⟩) (m := 0) (o := 1) Try.underlying90 rfl nz3 rfl rfl) ?_)
  refine RA_step rfl (OA_r rfl (VR_load_blk (b := b6) (m := 1) (k := 3) Try.underlying3 rfl rfl rfl rfl) ?_)
  refine RA_step rfl (OA_v (v := .pointer (some ((⟨b6, 0, none⟩ : Addr).add 4))) rfl (V_fieldAddrN (B := ⟨b6, 0, none⟩) (m := 0) (o := 4) Try.underlying90 rfl nz70 rfl rfl) ?_)
  refine RA_step rfl (OA_r rfl (VR_loadA_blk (b := b6) (m := 4) (k := 3) (vs := [.int .i64 a1.f4.f0, .int .i64 a1.f4.f1, .bool a1.f4.f2, .bool a1.f4.f3, .bool a1.f4.f4, .bool a1.f4.f5, .bool a1.f4.f6, .bool a1.f4.f7, .bool a1.f4.f8, .bool a1.f4.f9]) Try.underlying70 rfl sz70 rfl rfl rfl) ?_)
  obtain ⟨r83, C1772, H⟩ := g_bind H
  refine RA_step rfl (OA_callA [2] [0, 1, 2, 3, 4, 5, 6, 7, 8, 9, 10] rfl (X_fn (vs := [.agg #[.int .i64 a0.f0, .int .i64 a0.f1, .slice A0_0 a0.f2.length c0_0], .int .i64 a1.f2, .int .i64 a1.f1, .agg #[.int .i64 a1.f4.f0, .int .i64 a1.f4.f1, .bool a1.f4.f2, .bool a1.f4.f3, .bool a1.f4.f4, .bool a1.f4.f5, .bool a1.f4.f6, .bool a1.f4.f7, .bool a1.f4.f8, .bool a1.f4.f9]]) Try.func49 nm49 rfl rfl) rfl (F49.ok (a0 := a0) (A0_0 := A0_0) (c0_0 := c0_0) (a1 := a1.f2) (a2 := a1.f1) (a3 := a1.f4) C1772) rfl ?_)
  rintro _ _ ⟨A84, c85, rfl, rfl⟩
  refine RA_step rfl (OA_v (v := .tuple #[.agg #[.int .i64 r83.1.f0, .int .i64 r83.1.f1, .slice A84 r83.1.f2.length c85], .int .i64 r83.2]) rfl (V_move rfl) ?_)
  refine RA_step rfl (OA_v (v := .agg #[.int .i64 r83.1.f0, .int .i64 r83.1.f1, .slice A84 r83.1.f2.length c85]) rfl (V_extract rfl rfl) ?_)
  refine RA_step rfl (OA_v (v := .int .i64 r83.2) rfl (V_extract rfl rfl) ?_)
  refine RA_step rfl (OA_st (b := b20) (m := 0) (k := 10) (vs := [.int .i64 r83.1.f0, .int .i64 r83.1.f1, .slice A84 r83.1.f2.length c85]) (cs' := [.int .i64 r83.1.f0, .int .i64 r83.1.f1, .slice A84 r83.1.f2.length c85]) rfl rfl rfl rfl rfl rfl sz67 rfl rfl ?_)
  refine RA_step rfl (OA_v (v := .int .i64 r83.2) rfl (V_assign rfl) ?_)
  refine RA_nil ?_
  refine at_normal ?_
  refine SA.of_St (l := [(3, .pointer (some ⟨b4, 0, none⟩)), (5, .pointer (some ⟨b8, 0, none⟩)), (7, .pointer (some ⟨b14, 0, none⟩)), (8, .int .i64 r79.2), (9, .pointer (some ⟨b20, 0, none⟩)), (10, .int .i64 r83.2)]) (B := [Blk b4 67 [.int .i64 a0.f0, .int .i64 a0.f1, .slice A0_0 a0.f2.length c0_0], Ro k76 A0_0 c0_0 a0.f2, Blk b8 67 [.int .i64 a2.f0, .int .i64 a2.f1, .slice A2_0 a2.f2.length c2_0], Ro k76 A2_0 c2_0 a2.f2, Blk b14 67 [.int .i64 r79.1.f0, .int .i64 r79.1.f1, .slice A80 r79.1.f2.length c81], Buf k76 76 A80 c81 r79.1.f2, Blk b20 67 [.int .i64 r83.1.f0, .int .i64 r83.1.f1, .slice A84 r83.1.f2.length c85], Buf k76 76 A84 c85 r83.1.f2]) (St.mk1 (aeq rfl (aeq rfl (aeq rfl (aeq rfl (aeq rfl (aeq rfl aeq0)))))) (Gh.sel [2, 3, 6, 7, 8, 1, 10, 0] (by kernel_rfl) (by kernel_rfl))) fun junk => ?_
  refine SA_seq ?_
  refine SA_drawHq (0 :: 1 :: 3 :: 4 :: 5 :: 6 :: 7 :: 8 :: 9 :: 10 :: 11 :: 12 :: 13 :: 14 :: 15 :: 16 :: 17 :: 18 :: 19 :: 20 :: 21 :: 22 :: 23 :: 24 :: 25 :: 26 :: 27 :: []) (List.toArray ([] :: [] :: [0, 1] :: [0, 1] :: [0, 1, 3] :: [0, 1, 3] :: [0, 1, 3, 4, 5] :: [0, 1, 3, 4, 5, 6] :: [0, 1, 3, 4, 5, 6, 7] :: [0, 1, 3, 4, 5, 6, 7, 8] :: [0, 1, 3, 4, 5, 6, 7, 8, 9] :: [0, 1, 3, 4, 5, 6, 7, 8] :: [0, 1, 3, 4, 5, 6, 7, 8, 9, 10, 11] :: [0, 1, 3, 4, 5, 6, 7, 8, 9, 10, 11, 12] :: (0 :: 1 :: 3 :: 4 :: 5 :: 6 :: 7 :: 8 :: 9 :: 10 :: 11 :: 12 :: 13 :: []) :: (0 :: 1 :: 3 :: 4 :: 5 :: 6 :: 7 :: 8 :: 9 :: 10 :: 11 :: 12 :: 13 :: 14 :: []) :: (0 :: 1 :: 3 :: 4 :: 5 :: 6 :: 7 :: 8 :: 9 :: 10 :: 11 :: 12 :: 13 :: 14 :: 15 :: []) :: (0 :: 1 :: 3 :: 4 :: 5 :: 6 :: 7 :: 8 :: 9 :: 10 :: 11 :: 12 :: 13 :: 14 :: 15 :: []) :: (0 :: 1 :: 3 :: 4 :: 5 :: 6 :: 7 :: 8 :: 9 :: 10 :: 11 :: 12 :: 13 :: 14 :: 15 :: 16 :: 17 :: []) :: (0 :: 1 :: 3 :: 4 :: 5 :: 6 :: 7 :: 8 :: 9 :: 10 :: 11 :: 12 :: 13 :: 14 :: 15 :: []) :: (0 :: 1 :: 3 :: 4 :: 5 :: 6 :: 7 :: 8 :: 9 :: 10 :: 11 :: 12 :: 13 :: 14 :: 15 :: []) :: (0 :: 1 :: 3 :: 4 :: 5 :: 6 :: 7 :: 8 :: 9 :: 10 :: 11 :: 12 :: 13 :: 14 :: 15 :: 16 :: 17 :: 18 :: 19 :: 20 :: []) :: (0 :: 1 :: 3 :: 4 :: 5 :: 6 :: 7 :: 8 :: 9 :: 10 :: 11 :: 12 :: 13 :: 14 :: 15 :: 16 :: 17 :: 18 :: 19 :: 20 :: 21 :: []) :: (0 :: 1 :: 3 :: 4 :: 5 :: 6 :: 7 :: 8 :: 9 :: 10 :: 11 :: 12 :: 13 :: 14 :: 15 :: 16 :: 17 :: 18 :: 19 :: 20 :: 21 :: 22 :: []) :: (0 :: 1 :: 3 :: 4 :: 5 :: 6 :: 7 :: 8 :: 9 :: 10 :: 11 :: 12 :: 13 :: 14 :: 15 :: 16 :: 17 :: 18 :: 19 :: 20 :: 21 :: 22 :: 23 :: []) :: (0 :: 1 :: 3 :: 4 :: 5 :: 6 :: 7 :: 8 :: 9 :: 10 :: 11 :: 12 :: 13 :: 14 :: 15 :: 16 :: 17 :: 18 :: 19 :: 20 :: 21 :: 22 :: 23 :: 24 :: []) :: (0 :: 1 :: 3 :: 4 :: 5 :: 6 :: 7 :: 8 :: 9 :: 10 :: 11 :: 12 :: 13 :: 14 :: 15 :: 16 :: 17 :: 18 :: 19 :: 20 :: 21 :: 22 :: 23 :: 24 :: 25 :: []) :: (0 :: 1 :: 3 :: 4 :: 5 :: 6 :: 7 :: 8 :: 9 :: 10 :: 11 :: 12 :: 13 :: 14 :: 15 :: 16 :: 17 :: 18 :: 19 :: 20 :: 21 :: 22 :: 23 :: 24 :: 25 :: 26 :: []) :: [])) [0, 1, 2, 3, 4, 6] [1, 3, 5, 7] mixed rfl rfl rfl (PanOk.thn PanOk.body) fun I0 hS h0 hh0 w0 sH dd pk => ?_
  refine DH_take 0 (by kernel_rfl) rfl rfl (.no rfl) pk sH rfl (VR_loadA_blk (b := b14) (m := 0) (k := 4) (vs := [.int .i64 r79.1.f0, .int .i64 r79.1.f1, .slice A80 r79.1.f2.length c81]) Try.underlying67 rfl sz67 rfl rfl rfl) ?_
  refine DH_take 1 (by kernel_rfl) rfl rfl (.no rfl) pk sH rfl (VR_loadA_blk (b := b20) (m := 0) (k := 5) (vs := [.int .i64 r83.1.f0, .int .i64 r83.1.f1, .slice A84 r83.1.f2.length c85]) Try.underlying67 rfl sz67 rfl rfl rfl) ?_
  obtain ⟨r207, C208, H⟩ := g_bind H
  refine DH_one 2 dd (by kernel_rfl) rfl (.no rfl) (OA.ghost (Gh.freeze (k := 2) rfl) (OA.ghost (Gh.freeze (k := 3) rfl) (OA_callA [2, 3] [0, 1, 2, 3] rfl (X_fn (vs := [.agg #[.int .i64 r79.1.f0, .int .i64 r79.1.f1, .slice A80 r79.1.f2.length c81], .agg #[.int .i64 r83.1.f0, .int .i64 r83.1.f1, .slice A84 r83.1.f2.length c85]]) Try.func40 nm40 rfl rfl) rfl (F40.ok (a0 := r79.1) (A0_0 := A80) (c0_0 := c81) (a1 := r83.1) (A1_0 := A84) (c1_0 := c85) C208) rfl ?_)))
  rintro _ _ ⟨rfl, rfl⟩
  refine DH_take (v := .bool r207) 3 (by kernel_rfl) rfl rfl (.no rfl) pk sH rfl (VR.ofV (V_move rfl)) ?_
  by_cases h1768 : r207 = true
  · replace H := g_ift h1768 H
    refine DH_take (v := .int .i64 r79.2) 4 (by kernel_rfl) rfl rfl (.yes rfl rfl rfl rfl (h1768)) pk sH rfl (VR.ofV (V_move rfl)) ?_
    refine DH_take (v := .int .i64 r83.2) 5 (by kernel_rfl) rfl rfl (.yes rfl rfl rfl rfl (h1768)) pk sH rfl (VR.ofV (V_move rfl)) ?_
    refine DH_take (v := .bool (decide (r79.2 = r83.2))) 6 (by kernel_rfl) rfl rfl (.yes rfl rfl rfl rfl (h1768)) pk sH rfl (VR.ofV (V_eql rfl rfl)) ?_
    refine DH_take 7 (by kernel_rfl) rfl rfl (.no rfl) pk sH rfl (VR.ofV (V_pickT rfl (h1768) rfl)) ?_
    refine DH_take (v := .bool (decide (r79.2 = r83.2))) 8 (by kernel_rfl) rfl rfl (.no rfl) pk sH rfl (VR.ofV (V_move rfl)) ?_
    by_cases h1769 : r79.2 = r83.2
    · replace H := g_ift h1769 H
      refine DH_take 9 (by kernel_rfl) rfl rfl (.yes rfl rfl rfl rfl (dec_t h1769)) pk sH rfl (VR_loadA_blk (b := b4) (m := 0) (k := 0) (vs := [.int .i64 a0.f0, .int .i64 a0.f1, .slice A0_0 a0.f2.length c0_0]) Try.underlying67 rfl sz67 rfl rfl rfl) ?_
      refine DH_take 11 (by kernel_rfl) rfl rfl (.yes rfl rfl rfl rfl (dec_t h1769)) pk sH rfl (VR_loadA_blk (b := b4) (m := 0) (k := 0) (vs := [.int .i64 a0.f0, .int .i64 a0.f1, .slice A0_0 a0.f2.length c0_0]) Try.underlying67 rfl sz67 rfl rfl rfl) ?_
      obtain ⟨r687, C688, H⟩ := g_bind H
      refine DH_one 10 dd (by kernel_rfl) rfl (.yes rfl rfl rfl rfl (dec_t h1769)) (OA_callA [0] [0, 1, 2, 3] rfl (X_fn (vs := [.agg #[.int .i64 a0.f0, .int .i64 a0.f1, .slice A0_0 a0.f2.length c0_0]]) Try.func41 nm41 rfl rfl) rfl (F41.ok (a0 := a0) (A0_0 := A0_0) (c0_0 := c0_0) C688) rfl ?_)
      rintro _ _ ⟨rfl, rfl⟩
      obtain ⟨r807, C808, H⟩ := g_bind H
      refine DH_one 12 dd (by kernel_rfl) rfl (.yes rfl rfl rfl rfl (dec_t h1769)) (OA_callA [0] [0, 1, 2, 3] rfl (X_fn (vs := [.agg #[.int .i64 a0.f0, .int .i64 a0.f1, .slice A0_0 a0.f2.length c0_0]]) Try.func30 nm30 rfl rfl) rfl (F30.ok (a0 := a0) (A0_0 := A0_0) (c0_0 := c0_0) C808) rfl ?_)
      rintro _ _ ⟨rfl, rfl⟩
      refine DH_take (v := .bool (decide (r687 = r807))) 13 (by kernel_rfl) rfl rfl (.yes rfl rfl rfl rfl (dec_t h1769)) pk sH rfl (VR.ofV (V_eqlB Try.underlying4 rfl rfl)) ?_
      refine DH_take 14 (by kernel_rfl) rfl rfl (.no rfl) pk sH rfl (VR.ofV (V_pickT rfl (dec_t h1769) rfl)) ?_
      refine DH_take (v := .bool (decide (r687 = r807))) 15 (by kernel_rfl) rfl rfl (.no rfl) pk sH rfl (VR.ofV (V_move rfl)) ?_
      by_cases h1770 : r687 = r807
      · replace H := g_ift h1770 H
        refine DH_take 16 (by kernel_rfl) rfl rfl (.yes rfl rfl rfl rfl (dec_t h1770)) pk sH rfl (VR_loadA_blk (b := b4) (m := 0) (k := 0) (vs := [.int .i64 a0.f0, .int .i64 a0.f1, .slice A0_0 a0.f2.length c0_0]) Try.underlying67 rfl sz67 rfl rfl rfl) ?_
        refine DH_take 17 (by kernel_rfl) rfl rfl (.yes rfl rfl rfl rfl (dec_t h1770)) pk sH rfl (VR_loadA_blk (b := b8) (m := 0) (k := 2) (vs := [.int .i64 a2.f0, .int .i64 a2.f1, .slice A2_0 a2.f2.length c2_0]) Try.underlying67 rfl sz67 rfl rfl rfl) ?_
        refine DH_take 19 (by kernel_rfl) rfl rfl (.yes rfl rfl rfl rfl (dec_t h1770)) pk sH rfl (VR_loadA_blk (b := b4) (m := 0) (k := 0) (vs := [.int .i64 a0.f0, .int .i64 a0.f1, .slice A0_0 a0.f2.length c0_0]) Try.underlying67 rfl sz67 rfl rfl rfl) ?_
        refine DH_take 20 (by kernel_rfl) rfl rfl (.yes rfl rfl rfl rfl (dec_t h1770)) pk sH rfl (VR_loadA_blk (b := b8) (m := 0) (k := 2) (vs := [.int .i64 a2.f0, .int .i64 a2.f1, .slice A2_0 a2.f2.length c2_0]) Try.underlying67 rfl sz67 rfl rfl rfl) ?_
        obtain ⟨r1167, C1168, H⟩ := g_bind H
        refine DH_one 18 dd (by kernel_rfl) rfl (.yes rfl rfl rfl rfl (dec_t h1770)) (OA_callA [0, 1] [0, 1, 2, 3] rfl (X_fn (vs := [.agg #[.int .i64 a0.f0, .int .i64 a0.f1, .slice A0_0 a0.f2.length c0_0], .agg #[.int .i64 a2.f0, .int .i64 a2.f1, .slice A2_0 a2.f2.length c2_0]]) Try.func50 nm50 rfl rfl) rfl (F50.ok (a0 := a0) (A0_0 := A0_0) (c0_0 := c0_0) (a1 := a2) (A1_0 := A2_0) (c1_0 := c2_0) C1168) rfl ?_)
        rintro _ _ ⟨rfl, rfl⟩
        obtain ⟨r1347, C1348, H⟩ := g_bind H
        refine DH_one 21 dd (by kernel_rfl) rfl (.yes rfl rfl rfl rfl (dec_t h1770)) (OA_callA [0, 1] [0, 1, 2, 3] rfl (X_fn (vs := [.agg #[.int .i64 a0.f0, .int .i64 a0.f1, .slice A0_0 a0.f2.length c0_0], .agg #[.int .i64 a2.f0, .int .i64 a2.f1, .slice A2_0 a2.f2.length c2_0]]) Try.func40 nm40 rfl rfl) rfl (F40.ok (a0 := a0) (A0_0 := A0_0) (c0_0 := c0_0) (a1 := a2) (A1_0 := A2_0) (c1_0 := c2_0) C1348) rfl ?_)
        rintro _ _ ⟨rfl, rfl⟩
        refine DH_take (v := .bool (decide (r1167 = r1347))) 22 (by kernel_rfl) rfl rfl (.yes rfl rfl rfl rfl (dec_t h1770)) pk sH rfl (VR.ofV (V_eqlB Try.underlying4 rfl rfl)) ?_
        refine DH_take 23 (by kernel_rfl) rfl rfl (.no rfl) pk sH rfl (VR.ofV (V_pickT rfl (dec_t h1770) rfl)) ?_
        refine DH_take (v := .bool (decide (r1167 = r1347))) 24 (by kernel_rfl) rfl rfl (.no rfl) pk sH rfl (VR.ofV (V_move rfl)) ?_
        by_cases h1771 : r1167 = r1347
        · replace H := g_ift h1771 H
          obtain ⟨r1587, C1588, H⟩ := g_bind H
          refine DH_one 25 dd (by kernel_rfl) rfl (.yes rfl rfl rfl rfl (dec_t h1771)) (OA_callA [] [0, 1, 2, 3] rfl (X_fn (vs := []) Try.func31 nm31 rfl rfl) rfl (F31.ok C1588) rfl ?_)
          rintro _ _ ⟨rfl, rfl⟩
          refine DH_take 26 (by kernel_rfl) rfl rfl (.no rfl) pk sH rfl (VR.ofV (V_pickT rfl (dec_t h1771) rfl)) ?_
          refine DH_take (v := .bool r1587) 27 (by kernel_rfl) rfl rfl (.no rfl) pk sH rfl (VR.ofV (V_assign rfl)) ?_
          refine DH_open dd sH ?_
          refine DN_done (by kernel_rfl) ?_
          refine at_normal ?_
          refine SA_ret ?_
          have hr_ := Option.some.inj H
          subst hr_
          exact BQ_R1 [] rfl rfl (Gh.sel [] rfl rfl) ⟨rfl, rfl⟩
        replace H := g_iff h1771 H
        refine DH_skip 25 (by kernel_rfl) rfl rfl (.no rfl rfl rfl rfl (dec_f h1771)) pk rfl ?_
        refine DH_take 26 (by kernel_rfl) rfl rfl (.no rfl) pk sH rfl (VR.ofV (V_pickF rfl (dec_f h1771) rfl)) ?_
        refine DH_take (v := .bool false) 27 (by kernel_rfl) rfl rfl (.no rfl) pk sH rfl (VR.ofV (V_assign rfl)) ?_
        refine DH_open dd sH ?_
        refine DN_done (by kernel_rfl) ?_
        refine at_normal ?_
        refine SA_ret ?_
        have hr_ := Option.some.inj H
        subst hr_
        exact BQ_R1 [] rfl rfl (Gh.sel [] rfl rfl) ⟨rfl, rfl⟩
      replace H := g_iff h1770 H
      refine DH_skip 16 (by kernel_rfl) rfl rfl (.no rfl rfl rfl rfl (dec_f h1770)) pk rfl ?_
      refine DH_skip 17 (by kernel_rfl) rfl rfl (.no rfl rfl rfl rfl (dec_f h1770)) pk rfl ?_
      refine DH_skip 18 (by kernel_rfl) rfl rfl (.no rfl rfl rfl rfl (dec_f h1770)) pk rfl ?_
      refine DH_skip 19 (by kernel_rfl) rfl rfl (.no rfl rfl rfl rfl (dec_f h1770)) pk rfl ?_
      refine DH_skip 20 (by kernel_rfl) rfl rfl (.no rfl rfl rfl rfl (dec_f h1770)) pk rfl ?_
      refine DH_skip 21 (by kernel_rfl) rfl rfl (.no rfl rfl rfl rfl (dec_f h1770)) pk rfl ?_
      refine DH_skip 22 (by kernel_rfl) rfl rfl (.no rfl rfl rfl rfl (dec_f h1770)) pk rfl ?_
      refine DH_take 23 (by kernel_rfl) rfl rfl (.no rfl) pk sH rfl (VR.ofV (V_pickF rfl (dec_f h1770) rfl)) ?_
      refine DH_take (v := .bool false) 24 (by kernel_rfl) rfl rfl (.no rfl) pk sH rfl (VR.ofV (V_move rfl)) ?_
      refine DH_skip 25 (by kernel_rfl) rfl rfl (.no rfl rfl rfl rfl (rfl)) pk rfl ?_
      refine DH_take 26 (by kernel_rfl) rfl rfl (.no rfl) pk sH rfl (VR.ofV (V_pickF rfl (rfl) rfl)) ?_
      refine DH_take (v := .bool false) 27 (by kernel_rfl) rfl rfl (.no rfl) pk sH rfl (VR.ofV (V_assign rfl)) ?_
      refine DH_open dd sH ?_
      refine DN_done (by kernel_rfl) ?_
      refine at_normal ?_
      refine SA_ret ?_
      have hr_ := Option.some.inj H
      subst hr_
      exact BQ_R1 [] rfl rfl (Gh.sel [] rfl rfl) ⟨rfl, rfl⟩
    replace H := g_iff h1769 H
    refine DH_skip 9 (by kernel_rfl) rfl rfl (.no rfl rfl rfl rfl (dec_f h1769)) pk rfl ?_
    refine DH_skip 10 (by kernel_rfl) rfl rfl (.no rfl rfl rfl rfl (dec_f h1769)) pk rfl ?_
    refine DH_skip 11 (by kernel_rfl) rfl rfl (.no rfl rfl rfl rfl (dec_f h1769)) pk rfl ?_
    refine DH_skip 12 (by kernel_rfl) rfl rfl (.no rfl rfl rfl rfl (dec_f h1769)) pk rfl ?_
    refine DH_skip 13 (by kernel_rfl) rfl rfl (.no rfl rfl rfl rfl (dec_f h1769)) pk rfl ?_
    refine DH_take 14 (by kernel_rfl) rfl rfl (.no rfl) pk sH rfl (VR.ofV (V_pickF rfl (dec_f h1769) rfl)) ?_
    refine DH_take (v := .bool false) 15 (by kernel_rfl) rfl rfl (.no rfl) pk sH rfl (VR.ofV (V_move rfl)) ?_
    refine DH_skip 16 (by kernel_rfl) rfl rfl (.no rfl rfl rfl rfl (rfl)) pk rfl ?_
    refine DH_skip 17 (by kernel_rfl) rfl rfl (.no rfl rfl rfl rfl (rfl)) pk rfl ?_
    refine DH_skip 18 (by kernel_rfl) rfl rfl (.no rfl rfl rfl rfl (rfl)) pk rfl ?_
    refine DH_skip 19 (by kernel_rfl) rfl rfl (.no rfl rfl rfl rfl (rfl)) pk rfl ?_
    refine DH_skip 20 (by kernel_rfl) rfl rfl (.no rfl rfl rfl rfl (rfl)) pk rfl ?_
    refine DH_skip 21 (by kernel_rfl) rfl rfl (.no rfl rfl rfl rfl (rfl)) pk rfl ?_
    refine DH_skip 22 (by kernel_rfl) rfl rfl (.no rfl rfl rfl rfl (rfl)) pk rfl ?_
    refine DH_take 23 (by kernel_rfl) rfl rfl (.no rfl) pk sH rfl (VR.ofV (V_pickF rfl (rfl) rfl)) ?_
    refine DH_take (v := .bool false) 24 (by kernel_rfl) rfl rfl (.no rfl) pk sH rfl (VR.ofV (V_move rfl)) ?_
    refine DH_skip 25 (by kernel_rfl) rfl rfl (.no rfl rfl rfl rfl (rfl)) pk rfl ?_
    refine DH_take 26 (by kernel_rfl) rfl rfl (.no rfl) pk sH rfl (VR.ofV (V_pickF rfl (rfl) rfl)) ?_
    refine DH_take (v := .bool false) 27 (by kernel_rfl) rfl rfl (.no rfl) pk sH rfl (VR.ofV (V_assign rfl)) ?_
    refine DH_open dd sH ?_
    refine DN_done (by kernel_rfl) ?_
    refine at_normal ?_
    refine SA_ret ?_
    have hr_ := Option.some.inj H
    subst hr_
    exact BQ_R1 [] rfl rfl (Gh.sel [] rfl rfl) ⟨rfl, rfl⟩
  replace H := g_iff h1768 H
  refine DH_skip 4 (by kernel_rfl) rfl rfl (.no rfl rfl rfl rfl (bno h1768)) pk rfl ?_
  refine DH_skip 5 (by kernel_rfl) rfl rfl (.no rfl rfl rfl rfl (bno h1768)) pk rfl ?_
  refine DH_skip 6 (by kernel_rfl) rfl rfl (.no rfl rfl rfl rfl (bno h1768)) pk rfl ?_
  refine DH_take 7 (by kernel_rfl) rfl rfl (.no rfl) pk sH rfl (VR.ofV (V_pickF rfl (bno h1768) rfl)) ?_
  refine DH_take (v := .bool false) 8 (by kernel_rfl) rfl rfl (.no rfl) pk sH rfl (VR.ofV (V_move rfl)) ?_
  refine DH_skip 9 (by kernel_rfl) rfl rfl (.no rfl rfl rfl rfl (rfl)) pk rfl ?_
  refine DH_skip 10 (by kernel_rfl) rfl rfl (.no rfl rfl rfl rfl (rfl)) pk rfl ?_
  refine DH_skip 11 (by kernel_rfl) rfl rfl (.no rfl rfl rfl rfl (rfl)) pk rfl ?_
  refine DH_skip 12 (by kernel_rfl) rfl rfl (.no rfl rfl rfl rfl (rfl)) pk rfl ?_
  refine DH_skip 13 (by kernel_rfl) rfl rfl (.no rfl rfl rfl rfl (rfl)) pk rfl ?_
  refine DH_take 14 (by kernel_rfl) rfl rfl (.no rfl) pk sH rfl (VR.ofV (V_pickF rfl (rfl) rfl)) ?_
  refine DH_take (v := .bool false) 15 (by kernel_rfl) rfl rfl (.no rfl) pk sH rfl (VR.ofV (V_move rfl)) ?_
  refine DH_skip 16 (by kernel_rfl) rfl rfl (.no rfl rfl rfl rfl (rfl)) pk rfl ?_
  refine DH_skip 17 (by kernel_rfl) rfl rfl (.no rfl rfl rfl rfl (rfl)) pk rfl ?_
  refine DH_skip 18 (by kernel_rfl) rfl rfl (.no rfl rfl rfl rfl (rfl)) pk rfl ?_
  refine DH_skip 19 (by kernel_rfl) rfl rfl (.no rfl rfl rfl rfl (rfl)) pk rfl ?_
  refine DH_skip 20 (by kernel_rfl) rfl rfl (.no rfl rfl rfl rfl (rfl)) pk rfl ?_
  refine DH_skip 21 (by kernel_rfl) rfl rfl (.no rfl rfl rfl rfl (rfl)) pk rfl ?_
  refine DH_skip 22 (by kernel_rfl) rfl rfl (.no rfl rfl rfl rfl (rfl)) pk rfl ?_
  refine DH_take 23 (by kernel_rfl) rfl rfl (.no rfl) pk sH rfl (VR.ofV (V_pickF rfl (rfl) rfl)) ?_
  refine DH_take (v := .bool false) 24 (by kernel_rfl) rfl rfl (.no rfl) pk sH rfl (VR.ofV (V_move rfl)) ?_
  refine DH_skip 25 (by kernel_rfl) rfl rfl (.no rfl rfl rfl rfl (rfl)) pk rfl ?_
  refine DH_take 26 (by kernel_rfl) rfl rfl (.no rfl) pk sH rfl (VR.ofV (V_pickF rfl (rfl) rfl)) ?_
  refine DH_take (v := .bool false) 27 (by kernel_rfl) rfl rfl (.no rfl) pk sH rfl (VR.ofV (V_assign rfl)) ?_
  refine DH_open dd sH ?_
  refine DN_done (by kernel_rfl) ?_
  refine at_normal ?_
  refine SA_ret ?_
  have hr_ := Option.some.inj H
  subst hr_
  exact BQ_R1 [] rfl rfl (Gh.sel [] rfl rfl) ⟨rfl, rfl⟩
end Go.Proofs.Ytodkeoibebimgaa.Gr

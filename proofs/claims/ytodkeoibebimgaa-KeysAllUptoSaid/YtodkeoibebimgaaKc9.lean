/- What functions compute, and that they do: 6. -/
import Derived.Test.YtodkeoibebimgaaKc0
import Derived.Test.YtodkeoibebimgaaKc4
import Derived.Test.YtodkeoibebimgaaKc8
namespace Go.Proofs.Ytodkeoibebimgaa.Kc
open Go Go.RowKit Go.Proofs.Ytodkeoibebimgaa.SL
set_option linter.unusedVariables false
set_option linter.unusedSimpArgs false
attribute [local irreducible] IntKind.wrap minI maxI shrI shlI andI orI xorI andNotI cplI rd sub bytesOf strOf slA
/-! ### function 6: wayfarer/wayfarerlaw20.KeysAll -/
def F6.f (k : Nat) (a0 : S83) (l1 : (List S25)) : Option (Bool) := (F34.f k a0 l1).bind (fun r8 => (F35.f k a0 l1).bind (fun r12 => (F16.f r8.1 r12.1).bind (fun r16 => lt (r16 && (decide (r8.2 = r12.2))) fun q17 => (if q17 = true then ((F19.f k ).bind (fun r22 => some r22)) else (some false) : Option Bool).bind (fun q20 => some (q20)))))
set_option maxHeartbeats 2000000 in
set_option maxRecDepth 100000 in
theorem F6.ok {k : Nat} {a0 : S83} {l1 : (List S25)} {A0_0 : Option Addr} {c0_0 : Nat} {A0_1 : Option Addr} {c0_1 : Nat} {A0_2 : Option Addr} {c0_2 : Nat} {A0_3 : Option Addr} {c0_3 : Nat} {A1 : Option Addr} {c1 : Nat} {r : Bool} (H : F6.f k a0 l1 = some r) : SCA Try.prog 6 #[.agg (List.toArray (.int .i64 a0.f0.f0 :: .int .i64 a0.f0.f1 :: .slice A0_0 a0.f0.f2.length c0_0 :: .int .i64 a0.f1 :: .int .i64 a0.f2 :: .bool a0.f3 :: .int .i64 a0.f4.f0 :: .int .i64 a0.f4.f1 :: .bool a0.f4.f2 :: .bool a0.f4.f3 :: .bool a0.f4.f4 :: .bool a0.f4.f5 :: .bool a0.f4.f6 :: .bool a0.f4.f7 :: .bool a0.f4.f8 :: .bool a0.f4.f9 :: .int .i64 a0.f5 :: .int .i64 a0.f6 :: .slice A0_1 a0.f7.length c0_1 :: .bool a0.f8 :: .bool a0.f9 :: .bool a0.f10 :: .bool a0.f11 :: .bool a0.f12 :: .bool a0.f13 :: .int .i64 a0.f14.f0 :: .int .i64 a0.f14.f1 :: .bool a0.f14.f2 :: .bool a0.f14.f3 :: .int .i64 a0.f14.f4.f0 :: .int .i64 a0.f14.f4.f1 :: .bool a0.f14.f4.f2 :: .bool a0.f14.f4.f3 :: .bool a0.f14.f4.f4 :: .bool a0.f14.f4.f5 :: .bool a0.f14.f4.f6 :: .bool a0.f14.f4.f7 :: .bool a0.f14.f4.f8 :: .bool a0.f14.f4.f9 :: .bool a0.f15 :: .int .i64 a0.f16.f0 :: .int .i64 a0.f16.f1 :: .slice A0_2 a0.f16.f2.length c0_2 :: .slice A0_3 a0.f17.length c0_3 :: [])), .slice A1 l1.length c1] [Ro k76 A0_0 c0_0 a0.f0.f2, Ro (Kd.int .i64) A0_1 c0_1 a0.f7, Ro k76 A0_2 c0_2 a0.f16.f2, Ro (Kd.int .i32) A0_3 c0_3 a0.f17, Ro k25 A1 c1 l1] (fun v B => v = .bool r ∧ B = []) := by
  refine SCA_of_body Try.func6 rfl rfl ?_
  unfold F6.f at H
  refine SA_seq ?_
  refine SA_region ?_
  refine RA_step rfl (OA_box rfl rfl fun b6 => ?_)
  refine RA_step rfl (OA_v (v := .bool false) rfl (V_assign rfl) ?_)
  refine RA_nil ?_
  refine at_normal ?_
  refine SA_seq ?_
  refine SA_region ?_
  refine RA_step rfl (OA_r rfl (VR_loadA_blk (b := b6) (m := 0) (k := 5) (vs := (.int .i64 a0.f0.f0 :: .int .i64 a0.f0.f1 :: .slice A0_0 a0.f0.f2.length c0_0 :: .int .i64 a0.f1 :: .int .i64 a0.f2 :: .bool a0.f3 :: .int .i64 a0.f4.f0 :: .int .i64 a0.f4.f1 :: .bool a0.f4.f2 :: .bool a0.f4.f3 :: .bool a0.f4.f4 :: .bool a0.f4.f5 :: .bool a0.f4.f6 :: .bool a0.f4.f7 :: .bool a0.f4.f8 :: .bool a0.f4.f9 :: .int .i64 a0.f5 :: .int .i64 a0.f6 :: .slice A0_1 a0.f7.length c0_1 :: .bool a0.f8 :: .bool a0.f9 :: .bool a0.f10 :: .bool a0.f11 :: .bool a0.f12 :: .bool a0.f13 :: .int .i64 a0.f14.f0 :: .int .i64 a0.f14.f1 :: .bool a0.f14.f2 :: .bool a0.f14.f3 :: .int .i64 a0.f14.f4.f0 :: .int .i64 a0.f14.f4.f1 :: .bool a0.f14.f4.f2 :: .bool a0.f14.f4.f3 :: .bool a0.f14.f4.f4 :: .bool a0.f14.f4.f5 :: .bool a0.f14.f4.f6 :: .bool a0.f14.f4.f7 :: .bool a0.f14.f4.f8 :: .bool a0.f14.f4.f9 :: .bool a0.f15 :: .int .i64 a0.f16.f0 :: .int .i64 a0.f16.f1 :: .slice A0_2 a0.f16.f2.length c0_2 :: .slice A0_3 a0.f17.length c0_3 :: [])) Try.underlying83 rfl sz83 rfl rfl rfl) ?_)
  refine RA_step rfl (OA_v (v := .slice A1 l1.length c1) rfl (V_move rfl) ?_)
  obtain ⟨r8, C27, H⟩ := g_bind H
  refine RA_step rfl (OA_callA [0, 1, 2, 3, 4] [0, 1, 2, 3, 4, 5] rfl (X_fn (vs := [.agg (List.toArray (.int .i64 a0.f0.f0 :: .int .i64 a0.f0.f1 :: .slice A0_0 a0.f0.f2.length c0_0 :: .int .i64 a0.f1 :: .int .i64 a0.f2 :: .bool a0.f3 :: .int .i64 a0.f4.f0 :: .int .i64 a0.f4.f1 :: .bool a0.f4.f2 :: .bool a0.f4.f3 :: .bool a0.f4.f4 :: .bool a0.f4.f5 :: .bool a0.f4.f6 :: .bool a0.f4.f7 :: .bool a0.f4.f8 :: .bool a0.f4.f9 :: .int .i64 a0.f5 :: .int .i64 a0.f6 :: .slice A0_1 a0.f7.length c0_1 :: .bool a0.f8 :: .bool a0.f9 :: .bool a0.f10 :: .bool a0.f11 :: .bool a0.f12 :: .bool a0.f13 :: .int .i64 a0.f14.f0 :: .int .i64 a0.f14.f1 :: .bool a0.f14.f2 :: .bool a0.f14.f3 :: .int .i64 a0.f14.f4.f0 :: .int .i64 a0.f14.f4.f1 :: .bool a0.f14.f4.f2 :: .bool a0.f14.f4.f3 :: .bool a0.f14.f4.f4 :: .bool a0.f14.f4.f5 :: .bool a0.f14.f4.f6 :: .bool a0.f14.f4.f7 :: .bool a0.f14.f4.f8 :: .bool a0.f14.f4.f9 :: .bool a0.f15 :: .int .i64 a0.f16.f0 :: .int .i64 a0.f16.f1 :: .slice A0_2 a0.f16.f2.length c0_2 :: .slice A0_3 a0.f17.length c0_3 :: [])), .slice A1 l1.length c1]) Try.func34 nm34 rfl rfl) rfl (F34.ok (a0 := a0) (A0_0 := A0_0) (c0_0 := c0_0) (A0_1 := A0_1) (c0_1 := c0_1) (A0_2 := A0_2) (c0_2 := c0_2) (A0_3 := A0_3) (c0_3 := c0_3) (l1 := l1) (A1 := A1) (c1 := c1) C27) rfl ?_)
  rintro _ _ ⟨A9, c10, rfl, rfl⟩
  refine RA_step rfl (OA_v (v := .tuple #[.slice A9 r8.1.length c10, .int .i64 r8.2]) rfl (V_move rfl) ?_)
  refine RA_step rfl (OA_v (v := .slice A9 r8.1.length c10) rfl (V_extract rfl rfl) ?_)
  refine RA_step rfl (OA_v (v := .int .i64 r8.2) rfl (V_extract rfl rfl) ?_)
  refine RA_step rfl (OA_v (v := .slice A9 r8.1.length c10) rfl (V_assign rfl) ?_)
  refine RA_step rfl (OA_v (v := .int .i64 r8.2) rfl (V_assign rfl) ?_)
  refine RA_nil ?_
  refine at_normal ?_
  refine SA_seq ?_
  refine SA_region ?_
  refine RA_step rfl (OA_r rfl (VR_loadA_blk (b := b6) (m := 0) (k := 6) (vs := (.int .i64 a0.f0.f0 :: .int .i64 a0.f0.f1 :: .slice A0_0 a0.f0.f2.length c0_0 :: .int .i64 a0.f1 :: .int .i64 a0.f2 :: .bool a0.f3 :: .int .i64 a0.f4.f0 :: .int .i64 a0.f4.f1 :: .bool a0.f4.f2 :: .bool a0.f4.f3 :: .bool a0.f4.f4 :: .bool a0.f4.f5 :: .bool a0.f4.f6 :: .bool a0.f4.f7 :: .bool a0.f4.f8 :: .bool a0.f4.f9 :: .int .i64 a0.f5 :: .int .i64 a0.f6 :: .slice A0_1 a0.f7.length c0_1 :: .bool a0.f8 :: .bool a0.f9 :: .bool a0.f10 :: .bool a0.f11 :: .bool a0.f12 :: .bool a0.f13 :: .int .i64 a0.f14.f0 :: .int .i64 a0.f14.f1 :: .bool a0.f14.f2 :: .bool a0.f14.f3 :: .int .i64 a0.f14.f4.f0 :: .int .i64 a0.f14.f4.f1 :: .bool a0.f14.f4.f2 :: .bool a0.f14.f4.f3 :: .bool a0.f14.f4.f4 :: .bool a0.f14.f4.f5 :: .bool a0.f14.f4.f6 :: .bool a0.f14.f4.f7 :: .bool a0.f14.f4.f8 :: .bool a0.f14.f4.f9 :: .bool a0.f15 :: .int .i64 a0.f16.f0 :: .int .i64 a0.f16.f1 :: .slice A0_2 a0.f16.f2.length c0_2 :: .slice A0_3 a0.f17.length c0_3 :: [])) Try.underlying83 rfl sz83 rfl rfl rfl) ?_)
  refine RA_step rfl (OA_v (v := .slice A1 l1.length c1) rfl (V_move rfl) ?_)
  obtain ⟨r12, C26, H⟩ := g_bind H
  refine RA_step rfl (OA_callA [1, 2, 3, 4, 5] [0, 1, 2, 3, 4, 5, 6] rfl (X_fn (vs := [.agg (List.toArray (.int .i64 a0.f0.f0 :: .int .i64 a0.f0.f1 :: .slice A0_0 a0.f0.f2.length c0_0 :: .int .i64 a0.f1 :: .int .i64 a0.f2 :: .bool a0.f3 :: .int .i64 a0.f4.f0 :: .int .i64 a0.f4.f1 :: .bool a0.f4.f2 :: .bool a0.f4.f3 :: .bool a0.f4.f4 :: .bool a0.f4.f5 :: .bool a0.f4.f6 :: .bool a0.f4.f7 :: .bool a0.f4.f8 :: .bool a0.f4.f9 :: .int .i64 a0.f5 :: .int .i64 a0.f6 :: .slice A0_1 a0.f7.length c0_1 :: .bool a0.f8 :: .bool a0.f9 :: .bool a0.f10 :: .bool a0.f11 :: .bool a0.f12 :: .bool a0.f13 :: .int .i64 a0.f14.f0 :: .int .i64 a0.f14.f1 :: .bool a0.f14.f2 :: .bool a0.f14.f3 :: .int .i64 a0.f14.f4.f0 :: .int .i64 a0.f14.f4.f1 :: .bool a0.f14.f4.f2 :: .bool a0.f14.f4.f3 :: .bool a0.f14.f4.f4 :: .bool a0.f14.f4.f5 :: .bool a0.f14.f4.f6 :: .bool a0.f14.f4.f7 :: .bool a0.f14.f4.f8 :: .bool a0.f14.f4.f9 :: .bool a0.f15 :: .int .i64 a0.f16.f0 :: .int .i64 a0.f16.f1 :: .slice A0_2 a0.f16.f2.length c0_2 :: .slice A0_3 a0.f17.length c0_3 :: [])), .slice A1 l1.length c1]) Try.func35 nm35 rfl rfl) rfl (F35.ok (a0 := a0) (A0_0 := A0_0) (c0_0 := c0_0) (A0_1 := A0_1) (c0_1 := c0_1) (A0_2 := A0_2) (c0_2 := c0_2) (A0_3 := A0_3) (c0_3 := c0_3) (l1 := l1) (A1 := A1) (c1 := c1) C26) rfl ?_)
  rintro _ _ ⟨A13, c14, rfl, rfl⟩
  refine RA_step rfl (OA_v (v := .tuple #[.slice A13 r12.1.length c14, .int .i64 r12.2]) rfl (V_move rfl) ?_)
  refine RA_step rfl (OA_v (v := .slice A13 r12.1.length c14) rfl (V_extract rfl rfl) ?_)
  refine RA_step rfl (OA_v (v := .int .i64 r12.2) rfl (V_extract rfl rfl) ?_)
  refine RA_step rfl (OA_v (v := .slice A13 r12.1.length c14) rfl (V_assign rfl) ?_)
  refine RA_step rfl (OA_v (v := .int .i64 r12.2) rfl (V_assign rfl) ?_)
  refine RA_nil ?_
  refine at_normal ?_
  refine SA_seq ?_
  refine SA_region ?_
  refine RA_step rfl (OA_v (v := .slice A9 r8.1.length c10) rfl (V_move rfl) ?_)
  refine RA_step rfl (OA_v (v := .slice A13 r12.1.length c14) rfl (V_move rfl) ?_)
  obtain ⟨r16, C25, H⟩ := g_bind H
  refine RA_step rfl (OA.ghost (Gh.freeze (k := 1) rfl) (OA.ghost (Gh.freeze (k := 0) rfl) (OA_callA [1, 0] [0, 1, 2, 3, 4, 5, 6, 7] rfl (X_fn (vs := [.slice A9 r8.1.length c10, .slice A13 r12.1.length c14]) Try.func16 nm16 rfl rfl) rfl (F16.ok (l0 := r8.1) (A0 := A9) (c0 := c10) (l1 := r12.1) (A1 := A13) (c1 := c14) C25) rfl ?_)))
  rintro _ _ ⟨rfl, rfl⟩
  refine RA_step rfl (OA_v (v := .bool r16) rfl (V_move rfl) ?_)
  obtain ⟨q17, hq17, H⟩ := g_lt H
  refine RA_cut 4 (fun e ds As => St [(28, .bool q17)] [] e ds As) ?_ ?_
  · by_cases h18 : r16 = true
    · refine RA_yesB rfl rfl rfl rfl (h18) (OA_v (v := .int .i64 r8.2) rfl (V_move rfl) ?_)
      refine RA_yesB rfl rfl rfl rfl (h18) (OA_v (v := .int .i64 r12.2) rfl (V_move rfl) ?_)
      refine RA_yesB rfl rfl rfl rfl (h18) (OA_v (v := .bool (decide (r8.2 = r12.2))) rfl (V_eql rfl rfl) ?_)
      refine RA_step rfl (OA_v rfl (V_pickT rfl (h18) rfl) ?_)
      refine RA_nil ?_
      exact at_normal (St.mk1 (aeq (congrArg Value.bool (and_t hq17 (h18))) aeq0) (Gh.sel [] rfl rfl))
    · refine RA_noB rfl rfl rfl rfl (bno h18) rfl ?_
      refine RA_noB rfl rfl rfl rfl (bno h18) rfl ?_
      refine RA_noB rfl rfl rfl rfl (bno h18) rfl ?_
      refine RA_step rfl (OA_v rfl (V_pickF rfl (bno h18) rfl) ?_)
      refine RA_nil ?_
      exact at_normal (St.mk1 (aeq (congrArg Value.bool (and_f hq17 (bno h18))) aeq0) (Gh.sel [] rfl rfl))
  · rintro e ds As hst19
    refine RA.of_St rfl hst19 fun junk => ?_
    refine RA_step rfl (OA_v (v := .bool q17) rfl (V_move rfl) ?_)
    obtain ⟨q20, H, Bq20⟩ := g_bind H
    refine RA_cut 2 (fun e ds As => St [(31, .bool q20)] [] e ds As) ?_ ?_
    · by_cases h21 : q17 = true
      · replace H := g_ift h21 H
        obtain ⟨r22, C23, H⟩ := g_bind H
        refine RA_yesB rfl rfl rfl rfl (h21) (OA_callA [] [] rfl (X_fn (vs := []) Try.func19 nm19 rfl rfl) rfl (F19.ok C23) rfl ?_)
        rintro _ _ ⟨rfl, rfl⟩
        refine RA_step rfl (OA_v rfl (V_pickT rfl (h21) rfl) ?_)
        have hr_ := Option.some.inj H
        subst hr_
        refine RA_nil ?_
        exact at_normal (St.mk1 (aeq rfl aeq0) (Gh.sel [] rfl rfl))
      · replace H := g_iff h21 H
        refine RA_noB rfl rfl rfl rfl (bno h21) rfl ?_
        refine RA_step rfl (OA_v rfl (V_pickF rfl (bno h21) rfl) ?_)
        have hr_ := Option.some.inj H
        subst hr_
        refine RA_nil ?_
        exact at_normal (St.mk1 (aeq rfl aeq0) (Gh.sel [] rfl rfl))
    · rintro e ds As hst24
      clear H
      have H := Bq20
      clear Bq20
      refine RA.of_St rfl hst24 fun junk => ?_
      refine RA_step rfl (OA_v (v := .bool q20) rfl (V_assign rfl) ?_)
      refine RA_nil ?_
      refine at_normal ?_
      refine SA_ret ?_
      have hr_ := Option.some.inj H
      subst hr_
      exact BQ_R1 [] rfl rfl (Gh.sel [] rfl rfl) ⟨rfl, rfl⟩
end Go.Proofs.Ytodkeoibebimgaa.Kc

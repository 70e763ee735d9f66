/- What functions compute, and that they do: 102, 116, 117, 118, 42, 68. -/
import Derived.Test.YtodkeoibebimgaaGr0
import Derived.Test.YtodkeoibebimgaaGr1
import Derived.Test.YtodkeoibebimgaaGr3
namespace Go.Proofs.Ytodkeoibebimgaa.Gr
open Go Go.RowKit Go.Proofs.Ytodkeoibebimgaa.SL
set_option linter.unusedVariables false
set_option linter.unusedSimpArgs false
attribute [local irreducible] IntKind.wrap minI maxI shrI shlI andI orI xorI andNotI cplI rd sub bytesOf strOf slA
/-! ### function 42: wayfarer/grid.Write -/
def F42.f (k : Nat) (a0 : S67) (a1 : Int) (a2 : Int) (a3 : S70) (l4 : (List S76)) : Option (S67 × Int) := (F76.f k a0 a1 a3).bind (fun r9 => if (0 ≤ r9.2.1.1 ∧ 0 ≤ r9.2.1.2 ∧ r9.2.1.1 + r9.2.1.2 ≤ (r9.1.f2.length : Int)) then (lt ((!r9.2.2) || (decide (a2 < 0))) fun q19 => lt (q19 || (decide (a2 ≥ a0.f0))) fun q22 => (if q22 = true then (some true) else ((F85.f k l4 (fun (x0_ : S76) => F86.f k x0_)).bind (fun r27 => some r27)) : Option Bool).bind (fun q25 => if q25 = true then (some (((S67.mk 0 0 ([] : (List S76))), 2))) else ((F87w0.f k r9.1.f2 r9.2.1.1 r9.2.1.2 a2 l4).bind (fun r33 => if r33.length = r9.1.f2.length then (some (((S67.mk r9.1.f0 r9.1.f1 r33), 0))) else none)))) else none)
set_option maxHeartbeats 2000000 in
set_option maxRecDepth 100000 in
theorem F42.ok {k : Nat} {a0 : S67} {a1 : Int} {a2 : Int} {a3 : S70} {l4 : (List S76)} {A0_0 : Option Addr} {c0_0 : Nat} {A4 : Option Addr} {c4 : Nat} {r : S67 × Int} (H : F42.f k a0 a1 a2 a3 l4 = some r) : SCA Try.prog 42 #[.agg #[.int .i64 a0.f0, .int .i64 a0.f1, .slice A0_0 a0.f2.length c0_0], .int .i64 a1, .int .i64 a2, .agg #[.int .i64 a3.f0, .int .i64 a3.f1, .bool a3.f2, .bool a3.f3, .bool a3.f4, .bool a3.f5, .bool a3.f6, .bool a3.f7, .bool a3.f8, .bool a3.f9], .slice A4 l4.length c4] [Ro k76 A0_0 c0_0 a0.f2, Ro k76 A4 c4 l4] (fun v B => ∃ (A0_0_ : Option Addr) (c0_0_ : Nat), v = .tuple #[.agg #[.int .i64 r.1.f0, .int .i64 r.1.f1, .slice A0_0_ r.1.f2.length c0_0_], .int .i64 r.2] ∧ B = [Buf k76 76 A0_0_ c0_0_ r.1.f2]) := by
  refine SCA_of_body Try.func42 rfl rfl ?_
  unfold F42.f at H
  refine SA_seq ?_
  refine SA_region ?_
  refine RA_step rfl (OA_box rfl rfl fun b3 => ?_)
  refine RA_step rfl (OA_box rfl rfl fun b5 => ?_)
  refine RA_step rfl (OA_alloc rfl zero67 fun b7 => ?_)
  refine RA_step rfl (OA_v (v := .int .i64 0) rfl (V_assign rfl) ?_)
  refine RA_nil ?_
  refine at_normal ?_
  refine SA_seq ?_
  refine SA_region ?_
  refine RA_step rfl (OA_r rfl (VR_loadA_blk (b := b3) (m := 0) (k := 2) (vs := [.int .i64 a0.f0, .int .i64 a0.f1, .slice A0_0 a0.f2.length c0_0]) Try.underlying67 rfl sz67 rfl rfl rfl) ?_)
  refine RA_step rfl (OA_v (v := .int .i64 a1) rfl (V_move rfl) ?_)
  refine RA_step rfl (OA_r rfl (VR_loadA_blk (b := b5) (m := 0) (k := 3) (vs := [.int .i64 a3.f0, .int .i64 a3.f1, .bool a3.f2, .bool a3.f3, .bool a3.f4, .bool a3.f5, .bool a3.f6, .bool a3.f7, .bool a3.f8, .bool a3.f9]) Try.underlying70 rfl sz70 rfl rfl rfl) ?_)
  obtain ⟨r9, C36, H⟩ := g_bind H
  obtain ⟨⟨hl16a, hl16b, hl16c⟩, H⟩ := g_pos H
  refine RA_step rfl (OA_callA [0] [0, 1, 2, 3, 4] rfl (X_fn (vs := [.agg #[.int .i64 a0.f0, .int .i64 a0.f1, .slice A0_0 a0.f2.length c0_0], .int .i64 a1, .agg #[.int .i64 a3.f0, .int .i64 a3.f1, .bool a3.f2, .bool a3.f3, .bool a3.f4, .bool a3.f5, .bool a3.f6, .bool a3.f7, .bool a3.f8, .bool a3.f9]]) Try.func76 nm76 rfl rfl) rfl (F76.ok (a0 := a0) (A0_0 := A0_0) (c0_0 := c0_0) (a1 := a1) (a2 := a3) C36) rfl ?_)
  rintro _ _ ⟨A10, c11, V13, v14, hW15, rfl, rfl⟩
  refine RA_step rfl (OA_v (v := .tuple #[.agg #[.int .i64 r9.1.f0, .int .i64 r9.1.f1, .slice A10 r9.1.f2.length c11], .slice V13 r9.2.1.2.toNat v14, .bool r9.2.2]) rfl (V_move rfl) ?_)
  refine RA_step rfl (OA_v (v := .agg #[.int .i64 r9.1.f0, .int .i64 r9.1.f1, .slice A10 r9.1.f2.length c11]) rfl (V_extract rfl rfl) ?_)
  refine RA_step rfl (OA_v (v := .slice V13 r9.2.1.2.toNat v14) rfl (V_extract rfl rfl) ?_)
  refine RA_step rfl (OA_v (v := .bool r9.2.2) rfl (V_extract rfl rfl) ?_)
  refine RA_step rfl (OA_alloc rfl zero67 fun b17 => ?_)
  refine RA_step rfl (OA_st (b := b17) (m := 0) (k := 6) (vs := [.int .i64 r9.1.f0, .int .i64 r9.1.f1, .slice A10 r9.1.f2.length c11]) (cs' := [.int .i64 r9.1.f0, .int .i64 r9.1.f1, .slice A10 r9.1.f2.length c11]) rfl rfl rfl rfl rfl rfl sz67 rfl rfl ?_)
  refine RA_step rfl (OA_v (v := .slice V13 r9.2.1.2.toNat v14) rfl (V_assign rfl) ?_)
  refine RA_step rfl (OA_v (v := .bool r9.2.2) rfl (V_assign rfl) ?_)
  refine RA_nil ?_
  refine at_normal ?_
  refine SA_seq ?_
  refine SA_seq ?_
  refine SA_region ?_
  refine RA_step rfl (OA_v (v := .bool r9.2.2) rfl (V_move rfl) ?_)
  refine RA_step rfl (OA_v (v := .bool (!r9.2.2)) rfl (V_not rfl) ?_)
  refine RA_step rfl (OA_v (v := .bool (!r9.2.2)) rfl (V_move rfl) ?_)
  obtain ⟨q19, hq19, H⟩ := g_lt H
  refine RA_cut 3 (fun e ds As => St [(2, .int .i64 a2), (4, .slice A4 l4.length c4), (5, .pointer (some ⟨b3, 0, none⟩)), (10, .pointer (some ⟨b7, 0, none⟩)), (12, .pointer (some ⟨b17, 0, none⟩)), (13, .slice V13 r9.2.1.2.toNat v14), (28, .bool q19)] [Ro k76 A4 c4 l4, Blk b3 67 [.int .i64 a0.f0, .int .i64 a0.f1, .slice A0_0 a0.f2.length c0_0], Ro k76 A0_0 c0_0 a0.f2, Blk b7 67 [.int .i64 0, .int .i64 0, .slice none 0 0], Blk b17 67 [.int .i64 r9.1.f0, .int .i64 r9.1.f1, .slice A10 r9.1.f2.length c11], Buf k76 76 A10 c11 r9.1.f2] e ds As) ?_ ?_
  · by_cases h20 : (!r9.2.2) = true
    · refine RA_noB rfl rfl rfl rfl (h20) rfl ?_
      refine RA_noB rfl rfl rfl rfl (h20) rfl ?_
      refine RA_step rfl (OA_v rfl (V_pickT rfl (h20) rfl) ?_)
      refine RA_nil ?_
      exact at_normal (St.mk1 (aeq rfl (aeq rfl (aeq rfl (aeq rfl (aeq rfl (aeq rfl (aeq (congrArg Value.bool (or_t hq19 (h20))) aeq0))))))) (Gh.sel [2, 3, 1, 5, 6, 0] rfl rfl))
    refine RA_yesB rfl rfl rfl rfl (bno h20) (OA_v (v := .int .i64 a2) rfl (V_move rfl) ?_)
    refine RA_yesB rfl rfl rfl rfl (bno h20) (OA_v (v := .bool (decide (a2 < 0))) rfl (V_lss rfl rfl) ?_)
    refine RA_step rfl (OA_v rfl (V_pickF rfl (bno h20) rfl) ?_)
    refine RA_nil ?_
    exact at_normal (St.mk1 (aeq rfl (aeq rfl (aeq rfl (aeq rfl (aeq rfl (aeq rfl (aeq (congrArg Value.bool (or_f hq19 (bno h20))) aeq0))))))) (Gh.sel [2, 3, 1, 5, 6, 0] rfl rfl))
  rintro e ds As hst21
  refine RA.of_St rfl hst21 fun junk => ?_
  refine RA_step rfl (OA_v (v := .bool q19) rfl (V_move rfl) ?_)
  obtain ⟨q22, hq22, H⟩ := g_lt H
  refine RA_cut 5 (fun e ds As => St [(2, .int .i64 a2), (4, .slice A4 l4.length c4), (10, .pointer (some ⟨b7, 0, none⟩)), (12, .pointer (some ⟨b17, 0, none⟩)), (13, .slice V13 r9.2.1.2.toNat v14), (34, .bool q22)] [Ro k76 A4 c4 l4, Blk b7 67 [.int .i64 0, .int .i64 0, .slice none 0 0], Blk b17 67 [.int .i64 r9.1.f0, .int .i64 r9.1.f1, .slice A10 r9.1.f2.length c11], Buf k76 76 A10 c11 r9.1.f2] e ds As) ?_ ?_
  · by_cases h23 : q19 = true
    · refine RA_noB rfl rfl rfl rfl (h23) rfl ?_
      refine RA_noB rfl rfl rfl rfl (h23) rfl ?_
      refine RA_noB rfl rfl rfl rfl (h23) rfl ?_
      refine RA_noB rfl rfl rfl rfl (h23) rfl ?_
      refine RA_step rfl (OA_v rfl (V_pickT rfl (h23) rfl) ?_)
      refine RA_nil ?_
      exact at_normal (St.mk1 (aeq rfl (aeq rfl (aeq rfl (aeq rfl (aeq rfl (aeq (congrArg Value.bool (or_t hq22 (h23))) aeq0)))))) (Gh.sel [0, 3, 4, 5] rfl rfl))
    refine RA_yesB rfl rfl rfl rfl (bno h23) (OA_v (v := .int .i64 a2) rfl (V_move rfl) ?_)
    refine RA_yesB rfl rfl rfl rfl (bno h23) (OA_v (v := .pointer (some ⟨b3, 0, none⟩)) rfl (V_fieldAddrN (B := ⟨b3, 0, none⟩) (m := 0) (o := 0) Try.underlying67 rfl nz3 rfl rfl) ?_)
    refine RA_yesB rfl rfl rfl rfl (bno h23) (OA_r rfl (VR_load_blk (b := b3) (m := 0) (k := 1) Try.underlying3 rfl rfl rfl rfl) ?_)
    refine RA_yesB rfl rfl rfl rfl (bno h23) (OA_v (v := .bool (decide (a2 ≥ a0.f0))) rfl (V_geq rfl rfl) ?_)
    refine RA_step rfl (OA_v rfl (V_pickF rfl (bno h23) rfl) ?_)
    refine RA_nil ?_
    exact at_normal (St.mk1 (aeq rfl (aeq rfl (aeq rfl (aeq rfl (aeq rfl (aeq (congrArg Value.bool (or_f hq22 (bno h23))) aeq0)))))) (Gh.sel [0, 3, 4, 5] rfl rfl))
  rintro e ds As hst24
  refine RA.of_St rfl hst24 fun junk => ?_
  refine RA_step rfl (OA_v (v := .bool q22) rfl (V_move rfl) ?_)
  obtain ⟨q25, H, Bq25⟩ := g_bind H
  refine RA_cut 3 (fun e ds As => St [(2, .int .i64 a2), (4, .slice A4 l4.length c4), (10, .pointer (some ⟨b7, 0, none⟩)), (12, .pointer (some ⟨b17, 0, none⟩)), (13, .slice V13 r9.2.1.2.toNat v14), (38, .bool q25)] [Ro k76 A4 c4 l4, Blk b7 67 [.int .i64 0, .int .i64 0, .slice none 0 0], Blk b17 67 [.int .i64 r9.1.f0, .int .i64 r9.1.f1, .slice A10 r9.1.f2.length c11], Buf k76 76 A10 c11 r9.1.f2] e ds As) ?_ ?_
  · by_cases h26 : q22 = true
    · replace H := g_ift h26 H
      refine RA_noB rfl rfl rfl rfl (h26) rfl ?_
      refine RA_noB rfl rfl rfl rfl (h26) rfl ?_
      refine RA_step rfl (OA_v rfl (V_pickT rfl (h26) rfl) ?_)
      have hr_ := Option.some.inj H
      subst hr_
      refine RA_nil ?_
      exact at_normal (St.mk1 (aeq rfl (aeq rfl (aeq rfl (aeq rfl (aeq rfl (aeq rfl aeq0)))))) (Gh.sel [0, 1, 2, 3] rfl rfl))
    replace H := g_iff h26 H
    refine RA_yesB rfl rfl rfl rfl (bno h26) (OA_v (v := .slice A4 l4.length c4) rfl (V_move rfl) ?_)
    obtain ⟨r27, C28, H⟩ := g_bind H
    refine RA_yesB rfl rfl rfl rfl (bno h26) (OA_callA [0] [0, 1, 2, 3] rfl (X_fn (vs := [.slice A4 l4.length c4, .func (.func 86) #[] #[]]) Try.func85 nm85 rfl rfl) rfl (SCA.unpk (pre0 := [Ro k76 A4 c4 l4]) (Bs := []) ((F85.ok (l0 := l4) (A0 := A4) (c0 := c4) (g1 := (fun (x0_ : S76) => F86.f k x0_)) (fv1 := .func (.func 86) #[] #[]) (Fr1 := Pk []) (hg1 := (fun {x0_} {r_} C_ => FC.of (pre0 := []) (Bs := []) (cap := []) Try.func86 nm86 rfl ((F86.ok (a0 := x0_) C_).mono (fun _ _ ⟨hv_, hB_⟩ => ⟨_, ⟨hv_, rfl⟩, hB_⟩)))) C28).mono (fun (v_ : Value) (B_ : List Asrt) ⟨hv_, hB_⟩ => (⟨[], ⟨hv_, rfl⟩, hB_⟩ : ∃ B0_ : List Asrt, (v_ = (.bool r27 : Value) ∧ B0_ = []) ∧ B_ = B0_ ++ [Pk []])))) rfl ?_)
    rintro _ _ ⟨_, ⟨rfl, rfl⟩, rfl⟩
    refine RA_step rfl (OA_v rfl (V_pickF rfl (bno h26) rfl) ?_)
    have hr_ := Option.some.inj H
    subst hr_
    refine RA_nil ?_
    exact at_normal (St.mk1 (aeq rfl (aeq rfl (aeq rfl (aeq rfl (aeq rfl (aeq rfl aeq0)))))) (Gh.sel [0, 1, 2, 3] rfl rfl))
  rintro e ds As hst29
  clear H
  have H := Bq25
  clear Bq25
  refine RA_nil ?_
  refine at_normal ?_
  refine SA.of_St hst29 fun junk => ?_
  by_cases h30 : q25 = true
  · replace H := g_ift h30 H
    refine SA_condTb rfl h30 ?_
    refine SA_seq ?_
    refine SA_region ?_
    refine RA_step rfl (OA_v (v := .agg #[.int .i64 0, .int .i64 0, .slice none 0 0]) rfl (V_build (cells := [.int .i64 0, .int .i64 0, .slice none 0 0]) zero67 Try.underlying67 plc67 (by kernel_rfl)) ?_)
    refine RA_step rfl (OA_st (b := b7) (m := 0) (k := 1) (vs := [.int .i64 0, .int .i64 0, .slice none 0 0]) (cs' := [.int .i64 0, .int .i64 0, .slice none 0 0]) rfl rfl rfl rfl rfl rfl sz67 rfl rfl ?_)
    refine RA_step rfl (OA_v (v := .int .i64 2) rfl (V_assign rfl) ?_)
    refine RA_nil ?_
    refine at_normal ?_
    refine SA_ret ?_
    refine thn_ret ?_
    have hr_ := Option.some.inj H
    subst hr_
    exact BQ_RL (rs := [.cell 10 67, .tmp 11]) (vs := [.agg #[.int .i64 0, .int .i64 0, .slice none 0 0], .int .i64 2]) [Buf k76 76 none 0 ([] : (List S76))] rfl ⟨RV.cell (k := 1) rfl rfl Try.underlying67 rfl sz67, RV.tmp rfl, trivial⟩ rfl ((Gh.nilBuf k76 76).trans (Gh.sel [4] rfl rfl)) ⟨none, 0, rfl, rfl⟩
  replace H := g_iff h30 H
  refine SA_condFb rfl h30 ?_
  refine SA_skip ?_
  refine at_normal ?_
  refine SA_seq ?_
  refine SA.fact (cap_of (k := 3) rfl) fun hc32 => ?_
  refine SA_region ?_
  refine RA_step rfl (OA_v (v := .slice V13 r9.2.1.2.toNat v14) rfl (V_move rfl) ?_)
  refine RA_step rfl (OA_v (v := .int .i64 a2) rfl (V_move rfl) ?_)
  refine RA_step rfl (OA_v (v := .slice A4 l4.length c4) rfl (V_move rfl) ?_)
  obtain ⟨r33, C35, H⟩ := g_bind H
  obtain ⟨hl34, H⟩ := g_pos H
  refine RA_step rfl (OA_callA [3, 0] [0, 1, 2] rfl (X_fn (vs := [.slice V13 r9.2.1.2.toNat v14, .int .i64 a2, .slice A4 l4.length c4]) Try.func87 nm87 rfl rfl) rfl (F87w0.ok (l0 := r9.1.f2) (o0 := r9.2.1.1) (n0 := r9.2.1.2) (A0 := A10) (c0 := c11) (V0 := V13) (v0 := v14) (hw0 := hW15) (a1 := a2) (l2 := l4) (A2 := A4) (c2 := c4) C35) rfl ?_)
  rintro _ _ ⟨rfl, rfl⟩
  try rewrite [← hl34]
  refine RA_nil ?_
  refine at_normal ?_
  refine SA_seq ?_
  refine SA_region ?_
  refine RA_step rfl (OA_r rfl (VR_loadA_blk (b := b17) (m := 0) (k := 3) (vs := [.int .i64 r9.1.f0, .int .i64 r9.1.f1, .slice A10 r33.length c11]) Try.underlying67 rfl sz67 rfl rfl rfl) ?_)
  refine RA_step rfl (OA_st (b := b7) (m := 0) (k := 2) (vs := [.int .i64 r9.1.f0, .int .i64 r9.1.f1, .slice A10 r33.length c11]) (cs' := [.int .i64 r9.1.f0, .int .i64 r9.1.f1, .slice A10 r33.length c11]) rfl rfl rfl rfl rfl rfl sz67 rfl rfl ?_)
  refine RA_step rfl (OA_v (v := .int .i64 0) rfl (V_assign rfl) ?_)
  refine RA_nil ?_
  refine at_normal ?_
  refine SA_ret ?_
  have hr_ := Option.some.inj H
  subst hr_
  exact BQ_RL (rs := [.cell 10 67, .tmp 11]) (vs := [.agg #[.int .i64 r9.1.f0, .int .i64 r9.1.f1, .slice A10 r33.length c11], .int .i64 0]) [Buf k76 76 A10 c11 r33] rfl ⟨RV.cell (k := 2) rfl rfl Try.underlying67 rfl sz67, RV.tmp rfl, trivial⟩ rfl (Gh.sel [0] rfl rfl) ⟨A10, c11, rfl, rfl⟩

/-! ### function 117: wayfarer/wayfarerref12.zero -/
def F117.f  : Option ((List S198)) := some ((((S198.mk 768 879) :: (S198.mk 1155 1161) :: (S198.mk 1425 1469) :: (S198.mk 1471 1471) :: (S198.mk 1473 1474) :: (S198.mk 1552 1562) :: (S198.mk 1611 1631) :: (S198.mk 1750 1756) :: (S198.mk 2304 2306) :: (S198.mk 2364 2364) :: (S198.mk 2369 2376) :: (S198.mk 2381 2381) :: (S198.mk 3633 3633) :: (S198.mk 3636 3642) :: (S198.mk 6832 6911) :: (S198.mk 7616 7679) :: (S198.mk 8203 8207) :: (S198.mk 8234 8238) :: (S198.mk 8288 8292) :: (S198.mk 8400 8447) :: (S198.mk 12330 12333) :: (S198.mk 12441 12442) :: (S198.mk 65024 65039) :: (S198.mk 65056 65071) :: (S198.mk 65279 65279) :: (S198.mk 917760 917999) :: []) : (List S198)))
set_option maxHeartbeats 2000000 in
set_option maxRecDepth 100000 in
theorem F117.ok  {r : (List S198)} (H : F117.f  = some r) : SCA Try.prog 117 #[] [] (fun v B => ∃ (A0_0_ : Option Addr) (c0_0_ : Nat), v = .slice A0_0_ r.length c0_0_ ∧ B = [Buf k198 198 A0_0_ c0_0_ r]) := by
  refine SCA_of_body Try.func117 rfl rfl ?_
  unfold F117.f at H
  refine SA_seq ?_
  refine SA_region ?_
  refine RA_step rfl (OA_v (v := .slice none 0 0) rfl (V_assign rfl) ?_)
  refine RA_nil ?_
  refine at_normal ?_
  refine SA_seq ?_
  refine SA_region ?_
  refine RA_step rfl (OA_v (v := .agg #[.int .i32 768, .int .i32 879]) rfl (V_build (cells := [.int .i32 768, .int .i32 879]) zero198 Try.underlying198 plc198 (by kernel_rfl)) ?_)
  refine RA_step rfl (OA_v (v := .agg #[.int .i32 1155, .int .i32 1161]) rfl (V_build (cells := [.int .i32 1155, .int .i32 1161]) zero198 Try.underlying198 plc198 (by kernel_rfl)) ?_)
  refine RA_step rfl (OA_v (v := .agg #[.int .i32 1425, .int .i32 1469]) rfl (V_build (cells := [.int .i32 1425, .int .i32 1469]) zero198 Try.underlying198 plc198 (by kernel_rfl)) ?_)
  refine RA_step rfl (OA_v (v := .agg #[.int .i32 1471, .int .i32 1471]) rfl (V_build (cells := [.int .i32 1471, .int .i32 1471]) zero198 Try.underlying198 plc198 (by kernel_rfl)) ?_)
  refine RA_step rfl (OA_v (v := .agg #[.int .i32 1473, .int .i32 1474]) rfl (V_build (cells := [.int .i32 1473, .int .i32 1474]) zero198 Try.underlying198 plc198 (by kernel_rfl)) ?_)
  refine RA_step rfl (OA_v (v := .agg #[.int .i32 1552, .int .i32 1562]) rfl (V_build (cells := [.int .i32 1552, .int .i32 1562]) zero198 Try.underlying198 plc198 (by kernel_rfl)) ?_)
  refine RA_step rfl (OA_v (v := .agg #[.int .i32 1611, .int .i32 1631]) rfl (V_build (cells := [.int .i32 1611, .int .i32 1631]) zero198 Try.underlying198 plc198 (by kernel_rfl)) ?_)
  refine RA_step rfl (OA_v (v := .agg #[.int .i32 1750, .int .i32 1756]) rfl (V_build (cells := [.int .i32 1750, .int .i32 1756]) zero198 Try.underlying198 plc198 (by kernel_rfl)) ?_)
  refine RA_step rfl (OA_v (v := .agg #[.int .i32 2304, .int .i32 2306]) rfl (V_build (cells := [.int .i32 2304, .int .i32 2306]) zero198 Try.underlying198 plc198 (by kernel_rfl)) ?_)
  refine RA_step rfl (OA_v (v := .agg #[.int .i32 2364, .int .i32 2364]) rfl (V_build (cells := [.int .i32 2364, .int .i32 2364]) zero198 Try.underlying198 plc198 (by kernel_rfl)) ?_)
  refine RA_step rfl (OA_v (v := .agg #[.int .i32 2369, .int .i32 2376]) rfl (V_build (cells := [.int .i32 2369, .int .i32 2376]) zero198 Try.underlying198 plc198 (by kernel_rfl)) ?_)
  refine RA_step rfl (OA_v (v := .agg #[.int .i32 2381, .int .i32 2381]) rfl (V_build (cells := [.int .i32 2381, .int .i32 2381]) zero198 Try.underlying198 plc198 (by kernel_rfl)) ?_)
  refine RA_step rfl (OA_v (v := .agg #[.int .i32 3633, .int .i32 3633]) rfl (V_build (cells := [.int .i32 3633, .int .i32 3633]) zero198 Try.underlying198 plc198 (by kernel_rfl)) ?_)
  refine RA_step rfl (OA_v (v := .agg #[.int .i32 3636, .int .i32 3642]) rfl (V_build (cells := [.int .i32 3636, .int .i32 3642]) zero198 Try.underlying198 plc198 (by kernel_rfl)) ?_)
  refine RA_step rfl (OA_v (v := .agg #[.int .i32 6832, .int .i32 6911]) rfl (V_build (cells := [.int .i32 6832, .int .i32 6911]) zero198 Try.underlying198 plc198 (by kernel_rfl)) ?_)
  refine RA_step rfl (OA_v (v := .agg #[.int .i32 7616, .int .i32 7679]) rfl (V_build (cells := [.int .i32 7616, .int .i32 7679]) zero198 Try.underlying198 plc198 (by kernel_rfl)) ?_)
  refine RA_step rfl (OA_v (v := .agg #[.int .i32 8203, .int .i32 8207]) rfl (V_build (cells := [.int .i32 8203, .int .i32 8207]) zero198 Try.underlying198 plc198 (by kernel_rfl)) ?_)
  refine RA_step rfl (OA_v (v := .agg #[.int .i32 8234, .int .i32 8238]) rfl (V_build (cells := [.int .i32 8234, .int .i32 8238]) zero198 Try.underlying198 plc198 (by kernel_rfl)) ?_)
  refine RA_step rfl (OA_v (v := .agg #[.int .i32 8288, .int .i32 8292]) rfl (V_build (cells := [.int .i32 8288, .int .i32 8292]) zero198 Try.underlying198 plc198 (by kernel_rfl)) ?_)
  refine RA_step rfl (OA_v (v := .agg #[.int .i32 8400, .int .i32 8447]) rfl (V_build (cells := [.int .i32 8400, .int .i32 8447]) zero198 Try.underlying198 plc198 (by kernel_rfl)) ?_)
  refine RA_step rfl (OA_v (v := .agg #[.int .i32 12330, .int .i32 12333]) rfl (V_build (cells := [.int .i32 12330, .int .i32 12333]) zero198 Try.underlying198 plc198 (by kernel_rfl)) ?_)
  refine RA_step rfl (OA_v (v := .agg #[.int .i32 12441, .int .i32 12442]) rfl (V_build (cells := [.int .i32 12441, .int .i32 12442]) zero198 Try.underlying198 plc198 (by kernel_rfl)) ?_)
  refine RA_step rfl (OA_v (v := .agg #[.int .i32 65024, .int .i32 65039]) rfl (V_build (cells := [.int .i32 65024, .int .i32 65039]) zero198 Try.underlying198 plc198 (by kernel_rfl)) ?_)
  refine RA_step rfl (OA_v (v := .agg #[.int .i32 65056, .int .i32 65071]) rfl (V_build (cells := [.int .i32 65056, .int .i32 65071]) zero198 Try.underlying198 plc198 (by kernel_rfl)) ?_)
  refine RA_step rfl (OA_v (v := .agg #[.int .i32 65279, .int .i32 65279]) rfl (V_build (cells := [.int .i32 65279, .int .i32 65279]) zero198 Try.underlying198 plc198 (by kernel_rfl)) ?_)
  refine RA_step rfl (OA_v (v := .agg #[.int .i32 917760, .int .i32 917999]) rfl (V_build (cells := [.int .i32 917760, .int .i32 917999]) zero198 Try.underlying198 plc198 (by kernel_rfl)) ?_)
  refine RA_step rfl (OA_bs (kd := k198) (zv := (.agg #[.int .i32 0, .int .i32 0])) (sz := 2) (cells := (.int .i32 768 :: .int .i32 879 :: .int .i32 1155 :: .int .i32 1161 :: .int .i32 1425 :: .int .i32 1469 :: .int .i32 1471 :: .int .i32 1471 :: .int .i32 1473 :: .int .i32 1474 :: .int .i32 1552 :: .int .i32 1562 :: .int .i32 1611 :: .int .i32 1631 :: .int .i32 1750 :: .int .i32 1756 :: .int .i32 2304 :: .int .i32 2306 :: .int .i32 2364 :: .int .i32 2364 :: .int .i32 2369 :: .int .i32 2376 :: .int .i32 2381 :: .int .i32 2381 :: .int .i32 3633 :: .int .i32 3633 :: .int .i32 3636 :: .int .i32 3642 :: .int .i32 6832 :: .int .i32 6911 :: .int .i32 7616 :: .int .i32 7679 :: .int .i32 8203 :: .int .i32 8207 :: .int .i32 8234 :: .int .i32 8238 :: .int .i32 8288 :: .int .i32 8292 :: .int .i32 8400 :: .int .i32 8447 :: .int .i32 12330 :: .int .i32 12333 :: .int .i32 12441 :: .int .i32 12442 :: .int .i32 65024 :: .int .i32 65039 :: .int .i32 65056 :: .int .i32 65071 :: .int .i32 65279 :: .int .i32 65279 :: .int .i32 917760 :: .int .i32 917999 :: [])) (xs := (((S198.mk 768 879) :: (S198.mk 1155 1161) :: (S198.mk 1425 1469) :: (S198.mk 1471 1471) :: (S198.mk 1473 1474) :: (S198.mk 1552 1562) :: (S198.mk 1611 1631) :: (S198.mk 1750 1756) :: (S198.mk 2304 2306) :: (S198.mk 2364 2364) :: (S198.mk 2369 2376) :: (S198.mk 2381 2381) :: (S198.mk 3633 3633) :: (S198.mk 3636 3642) :: (S198.mk 6832 6911) :: (S198.mk 7616 7679) :: (S198.mk 8203 8207) :: (S198.mk 8234 8238) :: (S198.mk 8288 8292) :: (S198.mk 8400 8447) :: (S198.mk 12330 12333) :: (S198.mk 12441 12442) :: (S198.mk 65024 65039) :: (S198.mk 65056 65071) :: (S198.mk 65279 65279) :: (S198.mk 917760 917999) :: []) : (List S198))) rfl Try.underlying187 zero198 sz198 rfl rfl rfl (by kernel_rfl) rfl rfl (RL_enc enc198 (fun _ _ => rfl) (by kernel_rfl)) fun b1 => ?_)
  refine RA_step rfl (OA_v (v := .slice (some ⟨b1, 0, none⟩) (((S198.mk 768 879) :: (S198.mk 1155 1161) :: (S198.mk 1425 1469) :: (S198.mk 1471 1471) :: (S198.mk 1473 1474) :: (S198.mk 1552 1562) :: (S198.mk 1611 1631) :: (S198.mk 1750 1756) :: (S198.mk 2304 2306) :: (S198.mk 2364 2364) :: (S198.mk 2369 2376) :: (S198.mk 2381 2381) :: (S198.mk 3633 3633) :: (S198.mk 3636 3642) :: (S198.mk 6832 6911) :: (S198.mk 7616 7679) :: (S198.mk 8203 8207) :: (S198.mk 8234 8238) :: (S198.mk 8288 8292) :: (S198.mk 8400 8447) :: (S198.mk 12330 12333) :: (S198.mk 12441 12442) :: (S198.mk 65024 65039) :: (S198.mk 65056 65071) :: (S198.mk 65279 65279) :: (S198.mk 917760 917999) :: []) : (List S198)).length 26) rfl (V_assign rfl) ?_)
  refine RA_nil ?_
  refine at_normal ?_
  refine SA_ret ?_
  have hr_ := Option.some.inj H
  subst hr_
  exact BQ_R1 [Buf k198 198 (some ⟨b1, 0, none⟩) 26 (((S198.mk 768 879) :: (S198.mk 1155 1161) :: (S198.mk 1425 1469) :: (S198.mk 1471 1471) :: (S198.mk 1473 1474) :: (S198.mk 1552 1562) :: (S198.mk 1611 1631) :: (S198.mk 1750 1756) :: (S198.mk 2304 2306) :: (S198.mk 2364 2364) :: (S198.mk 2369 2376) :: (S198.mk 2381 2381) :: (S198.mk 3633 3633) :: (S198.mk 3636 3642) :: (S198.mk 6832 6911) :: (S198.mk 7616 7679) :: (S198.mk 8203 8207) :: (S198.mk 8234 8238) :: (S198.mk 8288 8292) :: (S198.mk 8400 8447) :: (S198.mk 12330 12333) :: (S198.mk 12441 12442) :: (S198.mk 65024 65039) :: (S198.mk 65056 65071) :: (S198.mk 65279 65279) :: (S198.mk 917760 917999) :: []) : (List S198))] rfl rfl (Gh.sel [0] rfl rfl) ⟨some ⟨b1, 0, none⟩, 26, rfl, rfl⟩

/-! ### function 116: wayfarer/wayfarerref12.In -/
def F116.l0 (l0 : (List S198)) (a1 : Int) : Nat → Int → Option (Out (Bool) (Unit))
  | 0, _ => none
  | k + 1, x5_3 => if x5_3 < (l0.length : Int) then (if 0 ≤ x5_3 ∧ x5_3 < (l0.length : Int) then ((if a1 ≥ ((rd l0 x5_3).f0) then (if 0 ≤ x5_3 ∧ x5_3 < (l0.length : Int) then (some (decide (a1 ≤ ((rd l0 x5_3).f1)))) else none) else (some false) : Option Bool).bind (fun q9 => if q9 = true then (some (Out.ret (true))) else (lt (IntKind.i64.wrap (x5_3 + 1)) fun n15 => F116.l0 l0 a1 k n15))) else none) else (some (Out.go ()))
def F116.f (k : Nat) (l0 : (List S198)) (a1 : Int) : Option (Bool) := (F116.l0 l0 a1 k 0 : Option (Out (Bool) (Unit))).bind (fun t2 => Out.el t2 (fun r_ => some r_) (fun s3 => some (false)))
set_option maxHeartbeats 2000000 in
set_option maxRecDepth 100000 in
theorem F116.ok {k : Nat} {l0 : (List S198)} {a1 : Int} {A0 : Option Addr} {c0 : Nat} {r : Bool} (H : F116.f k l0 a1 = some r) : SCA Try.prog 116 #[.slice A0 l0.length c0, .int .i32 a1] [Ro k198 A0 c0 l0] (fun v B => v = .bool r ∧ B = []) := by
  refine SCA_of_body Try.func116 rfl rfl ?_
  unfold F116.f at H
  refine SA_seq ?_
  refine SA_region ?_
  refine RA_step rfl (OA_v (v := .bool false) rfl (V_assign rfl) ?_)
  refine RA_nil ?_
  refine at_normal ?_
  refine SA_seq ?_
  refine SA_seq ?_
  refine SA_region ?_
  refine RA_step rfl (OA_v (v := .int .i64 0) rfl (V_assign rfl) ?_)
  refine RA_nil ?_
  refine at_normal ?_
  obtain ⟨t2, H, Bt2⟩ := g_bind H
  refine SA_mid (fun e ds As => ∃ (s3 : Unit), t2 = Out.go s3 ∧ St [] [] e ds As) ?_ ?_
  · refine SA_block ?_
    refine SA_loop (fun k_ e ds As => ∃ (x5_3 : Int), F116.l0 l0 a1 k_ x5_3 = some t2 ∧ St [(0, .slice A0 l0.length c0), (1, .int .i32 a1), (5, .int .i64 x5_3)] [Ro k198 A0 c0 l0] e ds As) (k := k) ⟨_, H, St.mk1 (aeq rfl (aeq rfl (aeq rfl aeq0))) (Gh.sel [0] rfl rfl)⟩ ?_
    clear H
    rintro k4 e ds As ⟨x5_3, H, hst5⟩
    obtain _ | k4 := k4
    · cases H
    rw [F116.l0] at H
    refine SA.of_St hst5 fun junk => ?_
    refine SA_seq ?_
    refine SA_seq ?_
    refine SA_region ?_
    refine RA_step rfl (OA_v (v := .int .i64 x5_3) rfl (V_move rfl) ?_)
    refine RA_step rfl (OA_v (v := .slice A0 l0.length c0) rfl (V_move rfl) ?_)
    refine RA_step rfl (OA_v (v := .int .i64 (l0.length : Int)) rfl (V_len Try.underlying187 rfl) ?_)
    refine RA_step rfl (OA_v (v := .bool (decide (x5_3 < (l0.length : Int)))) rfl (V_lss rfl rfl) ?_)
    refine RA_nil ?_
    refine at_normal ?_
    by_cases h6 : x5_3 < (l0.length : Int)
    · replace H := g_ift h6 H
      refine SA_condT rfl h6 ?_
      refine SA_skip ?_
      refine at_normal ?_
      refine SA_seq ?_
      refine SA_block ?_
      refine SA_seq ?_
      refine SA_region ?_
      refine RA_step rfl (OA_v (v := .int .i32 a1) rfl (V_move rfl) ?_)
      refine RA_step rfl (OA_v (v := .slice A0 l0.length c0) rfl (V_move rfl) ?_)
      refine RA_step rfl (OA_v (v := .int .i64 x5_3) rfl (V_move rfl) ?_)
      obtain ⟨⟨g7, g8⟩, H⟩ := g_pos H
      refine RA_step rfl (OA_r rfl (VR_index (i := x5_3) Try.underlying187 sz198 rfl rfl (Src.ro (k := 0) rfl) g7 g8) ?_)
      refine RA_step rfl (OA_v (v := .pointer (some ((el A0 (x5_3.toNat * 2)).add 0))) rfl (V_fieldAddrN (B := el A0 (x5_3.toNat * 2)) (m := 0) (o := 0) Try.underlying198 rfl nz21 rfl rfl) ?_)
      refine RA_step rfl (OA_r rfl (VR_load_el (enc := enc198) (i := x5_3) (j := x5_3.toNat * 2) (m := 0) (sz := 2) Try.underlying21 rfl rfl rfl rfl (Src.ro (k := 0) rfl) g7 g8 (fun _ _ h => h) rfl) ?_)
      refine RA_step rfl (OA_v (v := .bool (decide (a1 ≥ ((rd l0 x5_3).f0)))) rfl (V_geq rfl rfl) ?_)
      refine RA_step rfl (OA_v (v := .bool (decide (a1 ≥ ((rd l0 x5_3).f0)))) rfl (V_move rfl) ?_)
      obtain ⟨q9, H, Bq9⟩ := g_bind H
      refine RA_cut 8 (fun e ds As => St [(0, .slice A0 l0.length c0), (1, .int .i32 a1), (5, .int .i64 x5_3), (27, .bool q9)] [Ro k198 A0 c0 l0] e ds As) ?_ ?_
      · by_cases h10 : a1 ≥ ((rd l0 x5_3).f0)
        · replace H := g_ift h10 H
          refine RA_yesB rfl rfl rfl rfl (dec_t h10) (OA_v (v := .int .i32 a1) rfl (V_move rfl) ?_)
          refine RA_yesB rfl rfl rfl rfl (dec_t h10) (OA_v (v := .slice A0 l0.length c0) rfl (V_move rfl) ?_)
          refine RA_yesB rfl rfl rfl rfl (dec_t h10) (OA_v (v := .int .i64 x5_3) rfl (V_move rfl) ?_)
          obtain ⟨⟨g11, g12⟩, H⟩ := g_pos H
          refine RA_yesB rfl rfl rfl rfl (dec_t h10) (OA_r rfl (VR_index (i := x5_3) Try.underlying187 sz198 rfl rfl (Src.ro (k := 0) rfl) g11 g12) ?_)
          refine RA_yesB rfl rfl rfl rfl (dec_t h10) (OA_v (v := .pointer (some ((el A0 (x5_3.toNat * 2)).add 1))) rfl (V_fieldAddrN (B := el A0 (x5_3.toNat * 2)) (m := 0) (o := 1) Try.underlying198 rfl nz21 rfl rfl) ?_)
          refine RA_yesB rfl rfl rfl rfl (dec_t h10) (OA_r rfl (VR_load_el (enc := enc198) (i := x5_3) (j := x5_3.toNat * 2) (m := 1) (sz := 2) Try.underlying21 rfl rfl rfl rfl (Src.ro (k := 0) rfl) g11 g12 (fun _ _ h => h) rfl) ?_)
          refine RA_yesB rfl rfl rfl rfl (dec_t h10) (OA_v (v := .bool (decide (a1 ≤ ((rd l0 x5_3).f1)))) rfl (V_leq rfl rfl) ?_)
          refine RA_step rfl (OA_v rfl (V_pickT rfl (dec_t h10) rfl) ?_)
          have hr_ := Option.some.inj H
          subst hr_
          refine RA_nil ?_
          exact at_normal (St.mk1 (aeq rfl (aeq rfl (aeq rfl (aeq rfl aeq0)))) (Gh.sel [0] rfl rfl))
        replace H := g_iff h10 H
        refine RA_noB rfl rfl rfl rfl (dec_f h10) rfl ?_
        refine RA_noB rfl rfl rfl rfl (dec_f h10) rfl ?_
        refine RA_noB rfl rfl rfl rfl (dec_f h10) rfl ?_
        refine RA_noB rfl rfl rfl rfl (dec_f h10) rfl ?_
        refine RA_noB rfl rfl rfl rfl (dec_f h10) rfl ?_
        refine RA_noB rfl rfl rfl rfl (dec_f h10) rfl ?_
        refine RA_noB rfl rfl rfl rfl (dec_f h10) rfl ?_
        refine RA_step rfl (OA_v rfl (V_pickF rfl (dec_f h10) rfl) ?_)
        have hr_ := Option.some.inj H
        subst hr_
        refine RA_nil ?_
        exact at_normal (St.mk1 (aeq rfl (aeq rfl (aeq rfl (aeq rfl aeq0)))) (Gh.sel [0] rfl rfl))
      rintro e ds As hst13
      clear H
      have H := Bq9
      clear Bq9
      refine RA_nil ?_
      refine at_normal ?_
      refine SA.of_St hst13 fun junk => ?_
      by_cases h14 : q9 = true
      · replace H := g_ift h14 H
        refine SA_condTb rfl h14 ?_
        refine SA_seq ?_
        refine SA_region ?_
        refine RA_step rfl (OA_v (v := .bool true) rfl (V_assign rfl) ?_)
        refine RA_nil ?_
        refine at_normal ?_
        refine SA_ret ?_
        refine inb_ret ?_
        refine thn_ret ?_
        refine thn_ret ?_
        refine inb_ret ?_
        refine thn_ret ?_
        refine thn_ret ?_
        have hr_ := Option.some.inj H
        subst hr_
        have hb_ := el_ret Bt2
        have hr_ := Option.some.inj hb_
        clear hb_
        subst hr_
        exact BQ_R1 [] rfl rfl (Gh.sel [] rfl rfl) ⟨rfl, rfl⟩
      replace H := g_iff h14 H
      refine SA_condFb rfl h14 ?_
      refine SA_skip ?_
      refine inb_normal ?_
      refine at_normal ?_
      refine SA_region ?_
      refine RA_step rfl (OA_v (v := .int .i64 x5_3) rfl (V_move rfl) ?_)
      refine RA_step rfl (OA_v (v := .int .i64 (IntKind.i64.wrap (x5_3 + 1))) rfl (V_add rfl rfl) ?_)
      obtain ⟨n15, hn15, H⟩ := g_lt H
      refine RA_step rfl (OA_v (v := .int .i64 n15) rfl (V_assign (v := .int .i64 n15) (congrArg (Value.int .i64) hn15.symm)) ?_)
      refine RA_nil ?_
      exact at_normal ⟨k4, Nat.lt_succ_self _, _, H, St.mk1 (aeq rfl (aeq rfl (aeq rfl aeq0))) (Gh.sel [0] rfl rfl)⟩
    replace H := g_iff h6 H
    refine SA_condF rfl h6 ?_
    refine SA_exit ?_
    refine thn_exit ?_
    refine thn_exit ?_
    refine inb_hit ?_
    have hr_ := Option.some.inj H
    subst hr_
    exact at_normal ⟨(), rfl, St.mk1 aeq0 (Gh.sel [] rfl rfl)⟩
  rintro e ds As ⟨s3, ht, hst16⟩
  clear H
  subst ht
  replace Bt2 := el_go Bt2
  have H := Bt2
  clear Bt2
  refine at_normal ?_
  refine SA.of_St hst16 fun junk => ?_
  refine SA_seq ?_
  refine SA_region ?_
  refine RA_step rfl (OA_v (v := .bool false) rfl (V_assign rfl) ?_)
  refine RA_nil ?_
  refine at_normal ?_
  refine SA_ret ?_
  have hr_ := Option.some.inj H
  subst hr_
  exact BQ_R1 [] rfl rfl (Gh.sel [] rfl rfl) ⟨rfl, rfl⟩

/-! ### function 118: wayfarer/wayfarerref12.wide -/
def F118.f  : Option ((List S198)) := some ((((S198.mk 4352 4447) :: (S198.mk 8986 8987) :: (S198.mk 9001 9002) :: (S198.mk 9193 9196) :: (S198.mk 9725 9726) :: (S198.mk 9748 9749) :: (S198.mk 9800 9811) :: (S198.mk 9889 9889) :: (S198.mk 9917 9918) :: (S198.mk 9989 9989) :: (S198.mk 10024 10024) :: (S198.mk 10060 10060) :: (S198.mk 10067 10069) :: (S198.mk 10133 10135) :: (S198.mk 11035 11036) :: (S198.mk 11088 11088) :: (S198.mk 11904 12350) :: (S198.mk 12353 13311) :: (S198.mk 13312 19903) :: (S198.mk 19968 40959) :: (S198.mk 40960 42191) :: (S198.mk 44032 55203) :: (S198.mk 63744 64255) :: (S198.mk 65072 65135) :: (S198.mk 65281 65376) :: (S198.mk 65504 65510) :: (S198.mk 127744 127776) :: (S198.mk 127789 127797) :: (S198.mk 127799 127868) :: (S198.mk 128000 128062) :: (S198.mk 128064 128064) :: (S198.mk 128066 128252) :: (S198.mk 128512 128591) :: (S198.mk 128640 128709) :: (S198.mk 129280 129535) :: (S198.mk 131072 196605) :: (S198.mk 196608 262141) :: []) : (List S198)))
set_option maxHeartbeats 2000000 in
set_option maxRecDepth 100000 in
theorem F118.ok  {r : (List S198)} (H : F118.f  = some r) : SCA Try.prog 118 #[] [] (fun v B => ∃ (A0_0_ : Option Addr) (c0_0_ : Nat), v = .slice A0_0_ r.length c0_0_ ∧ B = [Buf k198 198 A0_0_ c0_0_ r]) := by
  refine SCA_of_body Try.func118 rfl rfl ?_
  unfold F118.f at H
  refine SA_seq ?_
  refine SA_region ?_
  refine RA_step rfl (OA_v (v := .slice none 0 0) rfl (V_assign rfl) ?_)
  refine RA_nil ?_
  refine at_normal ?_
  refine SA_seq ?_
  refine SA_region ?_
  refine RA_step rfl (OA_v (v := .agg #[.int .i32 4352, .int .i32 4447]) rfl (V_build (cells := [.int .i32 4352, .int .i32 4447]) zero198 Try.underlying198 plc198 (by kernel_rfl)) ?_)
  refine RA_step rfl (OA_v (v := .agg #[.int .i32 8986, .int .i32 8987]) rfl (V_build (cells := [.int .i32 8986, .int .i32 8987]) zero198 Try.underlying198 plc198 (by kernel_rfl)) ?_)
  refine RA_step rfl (OA_v (v := .agg #[.int .i32 9001, .int .i32 9002]) rfl (V_build (cells := [.int .i32 9001, .int .i32 9002]) zero198 Try.underlying198 plc198 (by kernel_rfl)) ?_)
  refine RA_step rfl (OA_v (v := .agg #[.int .i32 9193, .int .i32 9196]) rfl (V_build (cells := [.int .i32 9193, .int .i32 9196]) zero198 Try.underlying198 plc198 (by kernel_rfl)) ?_)
  refine RA_step rfl (OA_v (v := .agg #[.int .i32 9725, .int .i32 9726]) rfl (V_build (cells := [.int .i32 9725, .int .i32 9726]) zero198 Try.underlying198 plc198 (by kernel_rfl)) ?_)
  refine RA_step rfl (OA_v (v := .agg #[.int .i32 9748, .int .i32 9749]) rfl (V_build (cells := [.int .i32 9748, .int .i32 9749]) zero198 Try.underlying198 plc198 (by kernel_rfl)) ?_)
  refine RA_step rfl (OA_v (v := .agg #[.int .i32 9800, .int .i32 9811]) rfl (V_build (cells := [.int .i32 9800, .int .i32 9811]) zero198 Try.underlying198 plc198 (by kernel_rfl)) ?_)
  refine RA_step rfl (OA_v (v := .agg #[.int .i32 9889, .int .i32 9889]) rfl (V_build (cells := [.int .i32 9889, .int .i32 9889]) zero198 Try.underlying198 plc198 (by kernel_rfl)) ?_)
  refine RA_step rfl (OA_v (v := .agg #[.int .i32 9917, .int .i32 9918]) rfl (V_build (cells := [.int .i32 9917, .int .i32 9918]) zero198 Try.underlying198 plc198 (by kernel_rfl)) ?_)
  refine RA_step rfl (OA_v (v := .agg #[.int .i32 9989, .int .i32 9989]) rfl (V_build (cells := [.int .i32 9989, .int .i32 9989]) zero198 Try.underlying198 plc198 (by kernel_rfl)) ?_)
  refine RA_step rfl (OA_v (v := .agg #[.int .i32 10024, .int .i32 10024]) rfl (V_build (cells := [.int .i32 10024, .int .i32 10024]) zero198 Try.underlying198 plc198 (by kernel_rfl)) ?_)
  refine RA_step rfl (OA_v (v := .agg #[.int .i32 10060, .int .i32 10060]) rfl (V_build (cells := [.int .i32 10060, .int .i32 10060]) zero198 Try.underlying198 plc198 (by kernel_rfl)) ?_)
  refine RA_step rfl (OA_v (v := .agg #[.int .i32 10067, .int .i32 10069]) rfl (V_build (cells := [.int .i32 10067, .int .i32 10069]) zero198 Try.underlying198 plc198 (by kernel_rfl)) ?_)
  refine RA_step rfl (OA_v (v := .agg #[.int .i32 10133, .int .i32 10135]) rfl (V_build (cells := [.int .i32 10133, .int .i32 10135]) zero198 Try.underlying198 plc198 (by kernel_rfl)) ?_)
  refine RA_step rfl (OA_v (v := .agg #[.int .i32 11035, .int .i32 11036]) rfl (V_build (cells := [.int .i32 11035, .int .i32 11036]) zero198 Try.underlying198 plc198 (by kernel_rfl)) ?_)
  refine RA_step rfl (OA_v (v := .agg #[.int .i32 11088, .int .i32 11088]) rfl (V_build (cells := [.int .i32 11088, .int .i32 11088]) zero198 Try.underlying198 plc198 (by kernel_rfl)) ?_)
  refine RA_step rfl (OA_v (v := .agg #[.int .i32 11904, .int .i32 12350]) rfl (V_build (cells := [.int .i32 11904, .int .i32 12350]) zero198 Try.underlying198 plc198 (by kernel_rfl)) ?_)
  refine RA_step rfl (OA_v (v := .agg #[.int .i32 12353, .int .i32 13311]) rfl (V_build (cells := [.int .i32 12353, .int .i32 13311]) zero198 Try.underlying198 plc198 (by kernel_rfl)) ?_)
  refine RA_step rfl (OA_v (v := .agg #[.int .i32 13312, .int .i32 19903]) rfl (V_build (cells := [.int .i32 13312, .int .i32 19903]) zero198 Try.underlying198 plc198 (by kernel_rfl)) ?_)
  refine RA_step rfl (OA_v (v := .agg #[.int .i32 19968, .int .i32 40959]) rfl (V_build (cells := [.int .i32 19968, .int .i32 40959]) zero198 Try.underlying198 plc198 (by kernel_rfl)) ?_)
  refine RA_step rfl (OA_v (v := .agg #[.int .i32 40960, .int .i32 42191]) rfl (V_build (cells := [.int .i32 40960, .int .i32 42191]) zero198 Try.underlying198 plc198 (by kernel_rfl)) ?_)
  refine RA_step rfl (OA_v (v := .agg #[.int .i32 44032, .int .i32 55203]) rfl (V_build (cells := [.int .i32 44032, .int .i32 55203]) zero198 Try.underlying198 plc198 (by kernel_rfl)) ?_)
  refine RA_step rfl (OA_v (v := .agg #[.int .i32 63744, .int .i32 64255]) rfl (V_build (cells := [.int .i32 63744, .int .i32 64255]) zero198 Try.underlying198 plc198 (by kernel_rfl)) ?_)
  refine RA_step rfl (OA_v (v := .agg #[.int .i32 65072, .int .i32 65135]) rfl (V_build (cells := [.int .i32 65072, .int .i32 65135]) zero198 Try.underlying198 plc198 (by kernel_rfl)) ?_)
  refine RA_step rfl (OA_v (v := .agg #[.int .i32 65281, .int .i32 65376]) rfl (V_build (cells := [.int .i32 65281, .int .i32 65376]) zero198 Try.underlying198 plc198 (by kernel_rfl)) ?_)
  refine RA_step rfl (OA_v (v := .agg #[.int .i32 65504, .int .i32 65510]) rfl (V_build (cells := [.int .i32 65504, .int .i32 65510]) zero198 Try.underlying198 plc198 (by kernel_rfl)) ?_)
  refine RA_step rfl (OA_v (v := .agg #[.int .i32 127744, .int .i32 127776]) rfl (V_build (cells := [.int .i32 127744, .int .i32 127776]) zero198 Try.underlying198 plc198 (by kernel_rfl)) ?_)
  refine RA_step rfl (OA_v (v := .agg #[.int .i32 127789, .int .i32 127797]) rfl (V_build (cells := [.int .i32 127789, .int .i32 127797]) zero198 Try.underlying198 plc198 (by kernel_rfl)) ?_)
  refine RA_step rfl (OA_v (v := .agg #[.int .i32 127799, .int .i32 127868]) rfl (V_build (cells := [.int .i32 127799, .int .i32 127868]) zero198 Try.underlying198 plc198 (by kernel_rfl)) ?_)
  refine RA_step rfl (OA_v (v := .agg #[.int .i32 128000, .int .i32 128062]) rfl (V_build (cells := [.int .i32 128000, .int .i32 128062]) zero198 Try.underlying198 plc198 (by kernel_rfl)) ?_)
  refine RA_step rfl (OA_v (v := .agg #[.int .i32 128064, .int .i32 128064]) rfl (V_build (cells := [.int .i32 128064, .int .i32 128064]) zero198 Try.underlying198 plc198 (by kernel_rfl)) ?_)
  refine RA_step rfl (OA_v (v := .agg #[.int .i32 128066, .int .i32 128252]) rfl (V_build (cells := [.int .i32 128066, .int .i32 128252]) zero198 Try.underlying198 plc198 (by kernel_rfl)) ?_)
  refine RA_step rfl (OA_v (v := .agg #[.int .i32 128512, .int .i32 128591]) rfl (V_build (cells := [.int .i32 128512, .int .i32 128591]) zero198 Try.underlying198 plc198 (by kernel_rfl)) ?_)
  refine RA_step rfl (OA_v (v := .agg #[.int .i32 128640, .int .i32 128709]) rfl (V_build (cells := [.int .i32 128640, .int .i32 128709]) zero198 Try.underlying198 plc198 (by kernel_rfl)) ?_)
  refine RA_step rfl (OA_v (v := .agg #[.int .i32 129280, .int .i32 129535]) rfl (V_build (cells := [.int .i32 129280, .int .i32 129535]) zero198 Try.underlying198 plc198 (by kernel_rfl)) ?_)
  refine RA_step rfl (OA_v (v := .agg #[.int .i32 131072, .int .i32 196605]) rfl (V_build (cells := [.int .i32 131072, .int .i32 196605]) zero198 Try.underlying198 plc198 (by kernel_rfl)) ?_)
  refine RA_step rfl (OA_v (v := .agg #[.int .i32 196608, .int .i32 262141]) rfl (V_build (cells := [.int .i32 196608, .int .i32 262141]) zero198 Try.underlying198 plc198 (by kernel_rfl)) ?_)
  refine RA_step rfl (OA_bs (kd := k198) (zv := (.agg #[.int .i32 0, .int .i32 0])) (sz := 2) (cells := (.int .i32 4352 :: .int .i32 4447 :: .int .i32 8986 :: .int .i32 8987 :: .int .i32 9001 :: .int .i32 9002 :: .int .i32 9193 :: .int .i32 9196 :: .int .i32 9725 :: .int .i32 9726 :: .int .i32 9748 :: .int .i32 9749 :: .int .i32 9800 :: .int .i32 9811 :: .int .i32 9889 :: .int .i32 9889 :: .int .i32 9917 :: .int .i32 9918 :: .int .i32 9989 :: .int .i32 9989 :: .int .i32 10024 :: .int .i32 10024 :: .int .i32 10060 :: .int .i32 10060 :: .int .i32 10067 :: .int .i32 10069 :: .int .i32 10133 :: .int .i32 10135 :: .int .i32 11035 :: .int .i32 11036 :: .int .i32 11088 :: .int .i32 11088 :: .int .i32 11904 :: .int .i32 12350 :: .int .i32 12353 :: .int .i32 13311 :: .int .i32 13312 :: .int .i32 19903 :: .int .i32 19968 :: .int .i32 40959 :: .int .i32 40960 :: .int .i32 42191 :: .int .i32 44032 :: .int .i32 55203 :: .int .i32 63744 :: .int .i32 64255 :: .int .i32 65072 :: .int .i32 65135 :: .int .i32 65281 :: .int .i32 65376 :: .int .i32 65504 :: .int .i32 65510 :: .int .i32 127744 :: .int .i32 127776 :: .int .i32 127789 :: .int .i32 127797 :: .int .i32 127799 :: .int .i32 127868 :: .int .i32 128000 :: .int .i32 128062 :: .int .i32 128064 :: .int .i32 128064 :: .int .i32 128066 :: .int .i32 128252 :: .int .i32 128512 :: .int .i32 128591 :: .int .i32 128640 :: .int .i32 128709 :: .int .i32 129280 :: .int .i32 129535 :: .int .i32 131072 :: .int .i32 196605 :: .int .i32 196608 :: .int .i32 262141 :: [])) (xs := (((S198.mk 4352 4447) :: (S198.mk 8986 8987) :: (S198.mk 9001 9002) :: (S198.mk 9193 9196) :: (S198.mk 9725 9726) :: (S198.mk 9748 9749) :: (S198.mk 9800 9811) :: (S198.mk 9889 9889) :: (S198.mk 9917 9918) :: (S198.mk 9989 9989) :: (S198.mk 10024 10024) :: (S198.mk 10060 10060) :: (S198.mk 10067 10069) :: (S198.mk 10133 10135) :: (S198.mk 11035 11036) :: (S198.mk 11088 11088) :: (S198.mk 11904 12350) :: (S198.mk 12353 13311) :: (S198.mk 13312 19903) :: (S198.mk 19968 40959) :: (S198.mk 40960 42191) :: (S198.mk 44032 55203) :: (S198.mk 63744 64255) :: (S198.mk 65072 65135) :: (S198.mk 65281 65376) :: (S198.mk 65504 65510) :: (S198.mk 127744 127776) :: (S198.mk 127789 127797) :: (S198.mk 127799 127868) :: (S198.mk 128000 128062) :: (S198.mk 128064 128064) :: (S198.mk 128066 128252) :: (S198.mk 128512 128591) :: (S198.mk 128640 128709) :: (S198.mk 129280 129535) :: (S198.mk 131072 196605) :: (S198.mk 196608 262141) :: []) : (List S198))) rfl Try.underlying187 zero198 sz198 rfl rfl rfl (by kernel_rfl) rfl rfl (RL_enc enc198 (fun _ _ => rfl) (by kernel_rfl)) fun b1 => ?_)
  refine RA_step rfl (OA_v (v := .slice (some ⟨b1, 0, none⟩) (((S198.mk 4352 4447) :: (S198.mk 8986 8987) :: (S198.mk 9001 9002) :: (S198.mk 9193 9196) :: (S198.mk 9725 9726) :: (S198.mk 9748 9749) :: (S198.mk 9800 9811) :: (S198.mk 9889 9889) :: (S198.mk 9917 9918) :: (S198.mk 9989 9989) :: (S198.mk 10024 10024) :: (S198.mk 10060 10060) :: (S198.mk 10067 10069) :: (S198.mk 10133 10135) :: (S198.mk 11035 11036) :: (S198.mk 11088 11088) :: (S198.mk 11904 12350) :: (S198.mk 12353 13311) :: (S198.mk 13312 19903) :: (S198.mk 19968 40959) :: (S198.mk 40960 42191) :: (S198.mk 44032 55203) :: (S198.mk 63744 64255) :: (S198.mk 65072 65135) :: (S198.mk 65281 65376) :: (S198.mk 65504 65510) :: (S198.mk 127744 127776) :: (S198.mk 127789 127797) :: (S198.mk 127799 127868) :: (S198.mk 128000 128062) :: (S198.mk 128064 128064) :: (S198.mk 128066 128252) :: (S198.mk 128512 128591) :: (S198.mk 128640 128709) :: (S198.mk 129280 129535) :: (S198.mk 131072 196605) :: (S198.mk 196608 262141) :: []) : (List S198)).length 37) rfl (V_assign rfl) ?_)
  refine RA_nil ?_
  refine at_normal ?_
  refine SA_ret ?_
  have hr_ := Option.some.inj H
  subst hr_
  exact BQ_R1 [Buf k198 198 (some ⟨b1, 0, none⟩) 37 (((S198.mk 4352 4447) :: (S198.mk 8986 8987) :: (S198.mk 9001 9002) :: (S198.mk 9193 9196) :: (S198.mk 9725 9726) :: (S198.mk 9748 9749) :: (S198.mk 9800 9811) :: (S198.mk 9889 9889) :: (S198.mk 9917 9918) :: (S198.mk 9989 9989) :: (S198.mk 10024 10024) :: (S198.mk 10060 10060) :: (S198.mk 10067 10069) :: (S198.mk 10133 10135) :: (S198.mk 11035 11036) :: (S198.mk 11088 11088) :: (S198.mk 11904 12350) :: (S198.mk 12353 13311) :: (S198.mk 13312 19903) :: (S198.mk 19968 40959) :: (S198.mk 40960 42191) :: (S198.mk 44032 55203) :: (S198.mk 63744 64255) :: (S198.mk 65072 65135) :: (S198.mk 65281 65376) :: (S198.mk 65504 65510) :: (S198.mk 127744 127776) :: (S198.mk 127789 127797) :: (S198.mk 127799 127868) :: (S198.mk 128000 128062) :: (S198.mk 128064 128064) :: (S198.mk 128066 128252) :: (S198.mk 128512 128591) :: (S198.mk 128640 128709) :: (S198.mk 129280 129535) :: (S198.mk 131072 196605) :: (S198.mk 196608 262141) :: []) : (List S198))] rfl rfl (Gh.sel [0] rfl rfl) ⟨some ⟨b1, 0, none⟩, 37, rfl, rfl⟩

/-! ### function 102: wayfarer/wayfarerref12.Of -/
def F102.f (k : Nat) (a0 : Int) : Option (Int) := (if a0 < 32 then (some true) else (if a0 ≥ 127 then (some (decide (a0 ≤ 159))) else (some false)) : Option Bool).bind (fun q1 => lt (q1 || (decide (a0 > 1114111))) fun q5 => (if q5 = true then (some true) else (if a0 ≥ 55296 then (some (decide (a0 ≤ 57343))) else (some false)) : Option Bool).bind (fun q8 => if q8 = true then (some ((-1))) else ((F117.f ).bind (fun r13 => (F116.f k r13 a0).bind (fun r17 => if r17 = true then (some (0)) else ((F118.f ).bind (fun r19 => (F116.f k r19 a0).bind (fun r23 => if r23 = true then (some (2)) else (some (1))))))))))
set_option maxHeartbeats 2000000 in
set_option maxRecDepth 100000 in
theorem F102.ok {k : Nat} {a0 : Int} {r : Int} (H : F102.f k a0 = some r) : SCA Try.prog 102 #[.int .i32 a0] [] (fun v B => v = .int .i64 r ∧ B = []) := by
  refine SCA_of_body Try.func102 rfl rfl ?_
  unfold F102.f at H
  refine SA_seq ?_
  refine SA_region ?_
  refine RA_step rfl (OA_v (v := .int .i64 0) rfl (V_assign rfl) ?_)
  refine RA_nil ?_
  refine at_normal ?_
  refine SA_seq ?_
  refine SA_seq ?_
  refine SA_region ?_
  refine RA_step rfl (OA_v (v := .int .i32 a0) rfl (V_move rfl) ?_)
  refine RA_step rfl (OA_v (v := .bool (decide (a0 < 32))) rfl (V_lss rfl rfl) ?_)
  refine RA_step rfl (OA_v (v := .bool (decide (a0 < 32))) rfl (V_move rfl) ?_)
  obtain ⟨q1, H, Bq1⟩ := g_bind H
  refine RA_cut 7 (fun e ds As => St [(0, .int .i32 a0), (12, .bool q1)] [] e ds As) ?_ ?_
  · by_cases h2 : a0 < 32
    · replace H := g_ift h2 H
      refine RA_noB rfl rfl rfl rfl (dec_t h2) rfl ?_
      refine RA_noB rfl rfl rfl rfl (dec_t h2) rfl ?_
      refine RA_noB rfl rfl rfl rfl (dec_t h2) rfl ?_
      refine RA_noU rfl rfl rfl rfl rfl ?_
      refine RA_noU rfl rfl rfl rfl rfl ?_
      refine RA_noB rfl rfl rfl rfl (dec_t h2) rfl ?_
      refine RA_step rfl (OA_v rfl (V_pickT rfl (dec_t h2) rfl) ?_)
      have hr_ := Option.some.inj H
      subst hr_
      refine RA_nil ?_
      exact at_normal (St.mk1 (aeq rfl (aeq rfl aeq0)) (Gh.sel [] rfl rfl))
    replace H := g_iff h2 H
    refine RA_yesB rfl rfl rfl rfl (dec_f h2) (OA_v (v := .int .i32 a0) rfl (V_move rfl) ?_)
    refine RA_yesB rfl rfl rfl rfl (dec_f h2) (OA_v (v := .bool (decide (a0 ≥ 127))) rfl (V_geq rfl rfl) ?_)
    refine RA_yesB rfl rfl rfl rfl (dec_f h2) (OA_v (v := .bool (decide (a0 ≥ 127))) rfl (V_move rfl) ?_)
    by_cases h3 : a0 ≥ 127
    · replace H := g_ift h3 H
      refine RA_yesB rfl rfl rfl rfl (dec_t h3) (OA_v (v := .int .i32 a0) rfl (V_move rfl) ?_)
      refine RA_yesB rfl rfl rfl rfl (dec_t h3) (OA_v (v := .bool (decide (a0 ≤ 159))) rfl (V_leq rfl rfl) ?_)
      refine RA_yesB rfl rfl rfl rfl (dec_f h2) (OA_v rfl (V_pickT rfl (dec_t h3) rfl) ?_)
      refine RA_step rfl (OA_v rfl (V_pickF rfl (dec_f h2) rfl) ?_)
      have hr_ := Option.some.inj H
      subst hr_
      refine RA_nil ?_
      exact at_normal (St.mk1 (aeq rfl (aeq rfl aeq0)) (Gh.sel [] rfl rfl))
    replace H := g_iff h3 H
    refine RA_noB rfl rfl rfl rfl (dec_f h3) rfl ?_
    refine RA_noB rfl rfl rfl rfl (dec_f h3) rfl ?_
    refine RA_yesB rfl rfl rfl rfl (dec_f h2) (OA_v rfl (V_pickF rfl (dec_f h3) rfl) ?_)
    refine RA_step rfl (OA_v rfl (V_pickF rfl (dec_f h2) rfl) ?_)
    have hr_ := Option.some.inj H
    subst hr_
    refine RA_nil ?_
    exact at_normal (St.mk1 (aeq rfl (aeq rfl aeq0)) (Gh.sel [] rfl rfl))
  rintro e ds As hst4
  clear H
  have H := Bq1
  clear Bq1
  refine RA.of_St rfl hst4 fun junk => ?_
  refine RA_step rfl (OA_v (v := .bool q1) rfl (V_move rfl) ?_)
  obtain ⟨q5, hq5, H⟩ := g_lt H
  refine RA_cut 3 (fun e ds As => St [(0, .int .i32 a0), (16, .bool q5)] [] e ds As) ?_ ?_
  · by_cases h6 : q1 = true
    · refine RA_noB rfl rfl rfl rfl (h6) rfl ?_
      refine RA_noB rfl rfl rfl rfl (h6) rfl ?_
      refine RA_step rfl (OA_v rfl (V_pickT rfl (h6) rfl) ?_)
      refine RA_nil ?_
      exact at_normal (St.mk1 (aeq rfl (aeq (congrArg Value.bool (or_t hq5 (h6))) aeq0)) (Gh.sel [] rfl rfl))
    refine RA_yesB rfl rfl rfl rfl (bno h6) (OA_v (v := .int .i32 a0) rfl (V_move rfl) ?_)
    refine RA_yesB rfl rfl rfl rfl (bno h6) (OA_v (v := .bool (decide (a0 > 1114111))) rfl (V_gtr rfl rfl) ?_)
    refine RA_step rfl (OA_v rfl (V_pickF rfl (bno h6) rfl) ?_)
    refine RA_nil ?_
    exact at_normal (St.mk1 (aeq rfl (aeq (congrArg Value.bool (or_f hq5 (bno h6))) aeq0)) (Gh.sel [] rfl rfl))
  rintro e ds As hst7
  refine RA.of_St rfl hst7 fun junk => ?_
  refine RA_step rfl (OA_v (v := .bool q5) rfl (V_move rfl) ?_)
  obtain ⟨q8, H, Bq8⟩ := g_bind H
  refine RA_cut 7 (fun e ds As => St [(0, .int .i32 a0), (24, .bool q8)] [] e ds As) ?_ ?_
  · by_cases h9 : q5 = true
    · replace H := g_ift h9 H
      refine RA_noB rfl rfl rfl rfl (h9) rfl ?_
      refine RA_noB rfl rfl rfl rfl (h9) rfl ?_
      refine RA_noB rfl rfl rfl rfl (h9) rfl ?_
      refine RA_noU rfl rfl rfl rfl rfl ?_
      refine RA_noU rfl rfl rfl rfl rfl ?_
      refine RA_noB rfl rfl rfl rfl (h9) rfl ?_
      refine RA_step rfl (OA_v rfl (V_pickT rfl (h9) rfl) ?_)
      have hr_ := Option.some.inj H
      subst hr_
      refine RA_nil ?_
      exact at_normal (St.mk1 (aeq rfl (aeq rfl aeq0)) (Gh.sel [] rfl rfl))
    replace H := g_iff h9 H
    refine RA_yesB rfl rfl rfl rfl (bno h9) (OA_v (v := .int .i32 a0) rfl (V_move rfl) ?_)
    refine RA_yesB rfl rfl rfl rfl (bno h9) (OA_v (v := .bool (decide (a0 ≥ 55296))) rfl (V_geq rfl rfl) ?_)
    refine RA_yesB rfl rfl rfl rfl (bno h9) (OA_v (v := .bool (decide (a0 ≥ 55296))) rfl (V_move rfl) ?_)
    by_cases h10 : a0 ≥ 55296
    · replace H := g_ift h10 H
      refine RA_yesB rfl rfl rfl rfl (dec_t h10) (OA_v (v := .int .i32 a0) rfl (V_move rfl) ?_)
      refine RA_yesB rfl rfl rfl rfl (dec_t h10) (OA_v (v := .bool (decide (a0 ≤ 57343))) rfl (V_leq rfl rfl) ?_)
      refine RA_yesB rfl rfl rfl rfl (bno h9) (OA_v rfl (V_pickT rfl (dec_t h10) rfl) ?_)
      refine RA_step rfl (OA_v rfl (V_pickF rfl (bno h9) rfl) ?_)
      have hr_ := Option.some.inj H
      subst hr_
      refine RA_nil ?_
      exact at_normal (St.mk1 (aeq rfl (aeq rfl aeq0)) (Gh.sel [] rfl rfl))
    replace H := g_iff h10 H
    refine RA_noB rfl rfl rfl rfl (dec_f h10) rfl ?_
    refine RA_noB rfl rfl rfl rfl (dec_f h10) rfl ?_
    refine RA_yesB rfl rfl rfl rfl (bno h9) (OA_v rfl (V_pickF rfl (dec_f h10) rfl) ?_)
    refine RA_step rfl (OA_v rfl (V_pickF rfl (bno h9) rfl) ?_)
    have hr_ := Option.some.inj H
    subst hr_
    refine RA_nil ?_
    exact at_normal (St.mk1 (aeq rfl (aeq rfl aeq0)) (Gh.sel [] rfl rfl))
  rintro e ds As hst11
  clear H
  have H := Bq8
  clear Bq8
  refine RA_nil ?_
  refine at_normal ?_
  refine SA.of_St hst11 fun junk => ?_
  by_cases h12 : q8 = true
  · replace H := g_ift h12 H
    refine SA_condTb rfl h12 ?_
    refine SA_seq ?_
    refine SA_region ?_
    refine RA_step rfl (OA_v (v := .int .i64 (-1)) rfl (V_assign rfl) ?_)
    refine RA_nil ?_
    refine at_normal ?_
    refine SA_ret ?_
    refine thn_ret ?_
    have hr_ := Option.some.inj H
    subst hr_
    exact BQ_R1 [] rfl rfl (Gh.sel [] rfl rfl) ⟨rfl, rfl⟩
  replace H := g_iff h12 H
  refine SA_condFb rfl h12 ?_
  refine SA_skip ?_
  refine at_normal ?_
  refine SA_seq ?_
  refine SA_seq ?_
  refine SA_region ?_
  obtain ⟨r13, C28, H⟩ := g_bind H
  refine RA_step rfl (OA_callA [] [] rfl (X_fn (vs := []) Try.func117 nm117 rfl rfl) rfl (F117.ok C28) rfl ?_)
  rintro _ _ ⟨A14, c15, rfl, rfl⟩
  refine RA_step rfl (OA_v (v := .int .i32 a0) rfl (V_move rfl) ?_)
  obtain ⟨r17, C27, H⟩ := g_bind H
  refine RA_step rfl (OA.ghost (Gh.freeze (k := 0) rfl) (OA_callA [0] [0] rfl (X_fn (vs := [.slice A14 r13.length c15, .int .i32 a0]) Try.func116 nm116 rfl rfl) rfl (F116.ok (l0 := r13) (A0 := A14) (c0 := c15) (a1 := a0) C27) rfl ?_))
  rintro _ _ ⟨rfl, rfl⟩
  refine RA_nil ?_
  refine at_normal ?_
  by_cases h18 : r17 = true
  · replace H := g_ift h18 H
    refine SA_condTb rfl h18 ?_
    refine SA_seq ?_
    refine SA_region ?_
    refine RA_step rfl (OA_v (v := .int .i64 0) rfl (V_assign rfl) ?_)
    refine RA_nil ?_
    refine at_normal ?_
    refine SA_ret ?_
    refine thn_ret ?_
    have hr_ := Option.some.inj H
    subst hr_
    exact BQ_R1 [] rfl rfl (Gh.sel [] rfl rfl) ⟨rfl, rfl⟩
  replace H := g_iff h18 H
  refine SA_condFb rfl h18 ?_
  refine SA_skip ?_
  refine at_normal ?_
  refine SA_seq ?_
  refine SA_seq ?_
  refine SA_region ?_
  obtain ⟨r19, C26, H⟩ := g_bind H
  refine RA_step rfl (OA_callA [] [0] rfl (X_fn (vs := []) Try.func118 nm118 rfl rfl) rfl (F118.ok C26) rfl ?_)
  rintro _ _ ⟨A20, c21, rfl, rfl⟩
  refine RA_step rfl (OA_v (v := .int .i32 a0) rfl (V_move rfl) ?_)
  obtain ⟨r23, C25, H⟩ := g_bind H
  refine RA_step rfl (OA.ghost (Gh.freeze (k := 0) rfl) (OA_callA [0] [0, 1] rfl (X_fn (vs := [.slice A20 r19.length c21, .int .i32 a0]) Try.func116 nm116 rfl rfl) rfl (F116.ok (l0 := r19) (A0 := A20) (c0 := c21) (a1 := a0) C25) rfl ?_))
  rintro _ _ ⟨rfl, rfl⟩
  refine RA_nil ?_
  refine at_normal ?_
  by_cases h24 : r23 = true
  · replace H := g_ift h24 H
    refine SA_condTb rfl h24 ?_
    refine SA_seq ?_
    refine SA_region ?_
    refine RA_step rfl (OA_v (v := .int .i64 2) rfl (V_assign rfl) ?_)
    refine RA_nil ?_
    refine at_normal ?_
    refine SA_ret ?_
    refine thn_ret ?_
    have hr_ := Option.some.inj H
    subst hr_
    exact BQ_R1 [] rfl rfl (Gh.sel [] rfl rfl) ⟨rfl, rfl⟩
  replace H := g_iff h24 H
  refine SA_condFb rfl h24 ?_
  refine SA_skip ?_
  refine at_normal ?_
  refine SA_seq ?_
  refine SA_region ?_
  refine RA_step rfl (OA_v (v := .int .i64 1) rfl (V_assign rfl) ?_)
  refine RA_nil ?_
  refine at_normal ?_
  refine SA_ret ?_
  have hr_ := Option.some.inj H
  subst hr_
  exact BQ_R1 [] rfl rfl (Gh.sel [] rfl rfl) ⟨rfl, rfl⟩

/-! ### function 68: wayfarer/wayfarerref14.May -/
def F68.l0 (a0 : S76) : Nat → Int → Option (Out (Bool) (Unit))
  | 0, _ => none
  | k + 1, x3_735 => if x3_735 < 3 then (if 0 ≤ x3_735 ∧ x3_735 < (3 : Int) then (if (rd ([a0.f1.f0, a0.f1.f1, a0.f1.f2] : List Int) x3_735) = 0 then ((if (IntKind.i64.wrap (x3_735 + 1)) < 3 then (if 0 ≤ (IntKind.i64.wrap (x3_735 + 1)) ∧ (IntKind.i64.wrap (x3_735 + 1)) < (3 : Int) then (some (decide ((rd ([a0.f1.f0, a0.f1.f1, a0.f1.f2] : List Int) (IntKind.i64.wrap (x3_735 + 1))) ≠ 0))) else none) else (some false) : Option Bool).bind (fun q742 => if q742 = true then (some (Out.ret (false))) else (lt (IntKind.i64.wrap (x3_735 + 1)) fun n748 => F68.l0 a0 k n748))) else (if 0 ≤ x3_735 ∧ x3_735 < (3 : Int) then ((F102.f k (rd ([a0.f1.f0, a0.f1.f1, a0.f1.f2] : List Int) x3_735)).bind (fun r751 => if r751 ≠ 0 then (some (Out.ret (false))) else (lt (IntKind.i64.wrap (x3_735 + 1)) fun n753 => F68.l0 a0 k n753))) else none)) else none) else (some (Out.go ()))
def F68.f (k : Nat) (a0 : S76) : Option (Bool) := (F89.f a0.f3).bind (fun r3 => if (!r3) = true then (some (false)) else (if a0.f2 = 0 then (lt ((decide (a0.f0 = 0)) && (decide (a0.f1 = (S74.mk 0 0 0)))) fun q6 => some (q6)) else ((if a0.f2 > 2 then (some true) else ((F102.f k a0.f0).bind (fun r370 => some (decide (r370 ≠ (IntKind.i64.wrap (a0.f2)))))) : Option (Bool)).bind (fun t9 => if t9 = true then (some (false)) else ((F68.l0 a0 k 0 : Option (Out (Bool) (Unit))).bind (fun t734 => Out.el t734 (fun r_ => some r_) (fun s735 => some (true))))))))
set_option maxHeartbeats 2000000 in
set_option maxRecDepth 100000 in
theorem F68.ok {k : Nat} {a0 : S76} {r : Bool} (H : F68.f k a0 = some r) : SCA Try.prog 68 #[.agg (List.toArray (.int .i32 a0.f0 :: .int .i32 a0.f1.f0 :: .int .i32 a0.f1.f1 :: .int .i32 a0.f1.f2 :: .int .u8 a0.f2 :: .int .i64 a0.f3.f0 :: .int .i64 a0.f3.f1 :: .bool a0.f3.f2 :: .bool a0.f3.f3 :: .bool a0.f3.f4 :: .bool a0.f3.f5 :: .bool a0.f3.f6 :: .bool a0.f3.f7 :: .bool a0.f3.f8 :: .bool a0.f3.f9 :: []))] [] (fun v B => v = .bool r ∧ B = []) := by
  refine SCA_of_body Try.func68 rfl rfl ?_
  unfold F68.f at H
  refine SA_seq ?_
  refine SA_region ?_
  refine RA_step rfl (OA_box rfl rfl fun b1 => ?_)
  refine RA_step rfl (OA_v (v := .bool false) rfl (V_assign rfl) ?_)
  refine RA_nil ?_
  refine at_normal ?_
  refine SA_seq ?_
  refine SA_seq ?_
  refine SA_region ?_
  refine RA_step rfl (OA_v (v := .pointer (some ((⟨b1, 0, none⟩ : Addr).add 5))) rfl (V_fieldAddrN (B := ⟨b1, 0, none⟩) (m := 0) (o := 5) Try.underlying76 rfl nz70 rfl rfl) ?_)
  refine RA_step rfl (OA_r rfl (VR_loadA_blk (b := b1) (m := 5) (k := 0) (vs := [.int .i64 a0.f3.f0, .int .i64 a0.f3.f1, .bool a0.f3.f2, .bool a0.f3.f3, .bool a0.f3.f4, .bool a0.f3.f5, .bool a0.f3.f6, .bool a0.f3.f7, .bool a0.f3.f8, .bool a0.f3.f9]) Try.underlying70 rfl sz70 rfl rfl rfl) ?_)
  obtain ⟨r3, C756, H⟩ := g_bind H
  refine RA_step rfl (OA_callA [] [0] rfl (X_fn (vs := [.agg #[.int .i64 a0.f3.f0, .int .i64 a0.f3.f1, .bool a0.f3.f2, .bool a0.f3.f3, .bool a0.f3.f4, .bool a0.f3.f5, .bool a0.f3.f6, .bool a0.f3.f7, .bool a0.f3.f8, .bool a0.f3.f9]]) Try.func89 nm89 rfl rfl) rfl (F89.ok (a0 := a0.f3) C756) rfl ?_)
  rintro _ _ ⟨rfl, rfl⟩
  refine RA_step rfl (OA_v (v := .bool (!r3)) rfl (V_not rfl) ?_)
  refine RA_nil ?_
  refine at_normal ?_
  by_cases h4 : (!r3) = true
  · replace H := g_ift h4 H
    refine SA_condTb rfl h4 ?_
    refine SA_seq ?_
    refine SA_region ?_
    refine RA_step rfl (OA_v (v := .bool false) rfl (V_assign rfl) ?_)
    refine RA_nil ?_
    refine at_normal ?_
    refine SA_ret ?_
    refine thn_ret ?_
    have hr_ := Option.some.inj H
    subst hr_
    exact BQ_R1 [] rfl rfl (Gh.sel [] rfl rfl) ⟨rfl, rfl⟩
  replace H := g_iff h4 H
  refine SA_condFb rfl h4 ?_
  refine SA_skip ?_
  refine at_normal ?_
  refine SA_seq ?_
  refine SA_seq ?_
  refine SA_region ?_
  refine RA_step rfl (OA_v (v := .pointer (some ((⟨b1, 0, none⟩ : Addr).add 4))) rfl (V_fieldAddrN (B := ⟨b1, 0, none⟩) (m := 0) (o := 4) Try.underlying76 rfl nz5 rfl rfl) ?_)
  refine RA_step rfl (OA_r rfl (VR_load_blk (b := b1) (m := 4) (k := 0) Try.underlying5 rfl rfl rfl rfl) ?_)
  refine RA_step rfl (OA_v (v := .bool (decide (a0.f2 = 0))) rfl (V_eql rfl rfl) ?_)
  refine RA_nil ?_
  refine at_normal ?_
  by_cases h5 : a0.f2 = 0
  · replace H := g_ift h5 H
    refine SA_condT rfl h5 ?_
    refine SA_seq ?_
    refine SA_region ?_
    refine RA_step rfl (OA_v (v := .pointer (some ⟨b1, 0, none⟩)) rfl (V_fieldAddrN (B := ⟨b1, 0, none⟩) (m := 0) (o := 0) Try.underlying76 rfl nz21 rfl rfl) ?_)
    refine RA_step rfl (OA_r rfl (VR_load_blk (b := b1) (m := 0) (k := 0) Try.underlying21 rfl rfl rfl rfl) ?_)
    refine RA_step rfl (OA_v (v := .bool (decide (a0.f0 = 0))) rfl (V_eql rfl rfl) ?_)
    refine RA_step rfl (OA_v (v := .bool (decide (a0.f0 = 0))) rfl (V_move rfl) ?_)
    obtain ⟨q6, hq6, H⟩ := g_lt H
    refine RA_cut 5 (fun e ds As => St [(19, .bool q6)] [] e ds As) ?_ ?_
    · by_cases h7 : a0.f0 = 0
      · refine RA_yesB rfl rfl rfl rfl (dec_t h7) (OA_v (v := .pointer (some ((⟨b1, 0, none⟩ : Addr).add 1))) rfl (V_fieldAddrN (B := ⟨b1, 0, none⟩) (m := 0) (o := 1) Try.underlying76 rfl nz74 rfl rfl) ?_)
        refine RA_yesB rfl rfl rfl rfl (dec_t h7) (OA_r rfl (VR_loadA_blk (b := b1) (m := 1) (k := 0) (vs := [.int .i32 a0.f1.f0, .int .i32 a0.f1.f1, .int .i32 a0.f1.f2]) Try.underlying74 rfl sz74 rfl rfl rfl) ?_)
        refine RA_yesB rfl rfl rfl rfl (dec_t h7) (OA_v (v := .agg #[.int .i32 0, .int .i32 0, .int .i32 0]) rfl (V_buildA (cells := [.int .i32 0, .int .i32 0, .int .i32 0]) (sz := 1) zero74 Try.underlying74 sz21 (by kernel_rfl)) ?_)
        refine RA_yesB rfl rfl rfl rfl (dec_t h7) (OA_v (v := .bool (decide (a0.f1 = (S74.mk 0 0 0)))) rfl (V_eqlD (xs := [.int .i32 a0.f1.f0, .int .i32 a0.f1.f1, .int .i32 a0.f1.f2]) (ys := [.int .i32 0, .int .i32 0, .int .i32 0]) (r := ((a0.f1.f0 == 0) && ((a0.f1.f1 == 0) && ((a0.f1.f2 == 0) && true)))) (p := a0.f1 = (S74.mk 0 0 0)) eqg74 rfl rfl (by kernel_rfl) (eqv74 (x := a0.f1) (y := (S74.mk 0 0 0)))) ?_)
        refine RA_step rfl (OA_v rfl (V_pickT rfl (dec_t h7) rfl) ?_)
        refine RA_nil ?_
        exact at_normal (St.mk1 (aeq (congrArg Value.bool (and_t hq6 (dec_t h7))) aeq0) (Gh.sel [] rfl rfl))
      refine RA_noB rfl rfl rfl rfl (dec_f h7) rfl ?_
      refine RA_noB rfl rfl rfl rfl (dec_f h7) rfl ?_
      refine RA_noB rfl rfl rfl rfl (dec_f h7) rfl ?_
      refine RA_noB rfl rfl rfl rfl (dec_f h7) rfl ?_
      refine RA_step rfl (OA_v rfl (V_pickF rfl (dec_f h7) rfl) ?_)
      refine RA_nil ?_
      exact at_normal (St.mk1 (aeq (congrArg Value.bool (and_f hq6 (dec_f h7))) aeq0) (Gh.sel [] rfl rfl))
    rintro e ds As hst8
    refine RA.of_St rfl hst8 fun junk => ?_
    refine RA_step rfl (OA_v (v := .bool q6) rfl (V_assign rfl) ?_)
    refine RA_nil ?_
    refine at_normal ?_
    refine SA_ret ?_
    refine thn_ret ?_
    have hr_ := Option.some.inj H
    subst hr_
    exact BQ_R1 [] rfl rfl (Gh.sel [] rfl rfl) ⟨rfl, rfl⟩
  replace H := g_iff h5 H
  refine SA_condF rfl h5 ?_
  refine SA_skip ?_
  refine at_normal ?_
  refine SA_seq ?_
  refine SA_seq ?_
  obtain ⟨t9, H, Bt9⟩ := g_bind H
  refine SA_mid (fun e ds As => St [(1, .pointer (some ⟨b1, 0, none⟩)), (31, .bool t9)] [Blk b1 76 (.int .i32 a0.f0 :: .int .i32 a0.f1.f0 :: .int .i32 a0.f1.f1 :: .int .i32 a0.f1.f2 :: .int .u8 a0.f2 :: .int .i64 a0.f3.f0 :: .int .i64 a0.f3.f1 :: .bool a0.f3.f2 :: .bool a0.f3.f3 :: .bool a0.f3.f4 :: .bool a0.f3.f5 :: .bool a0.f3.f6 :: .bool a0.f3.f7 :: .bool a0.f3.f8 :: .bool a0.f3.f9 :: [])] e ds As) ?_ ?_
  · refine SA_drawHq [0, 1, 2, 3, 4, 5, 6, 7, 8, 9, 10, 11] #[[], [0], [0, 1], [0, 1, 2], [0, 1, 2, 3], [0, 1, 2, 3, 4], [0, 1, 2, 3, 4, 5], [0, 1, 2, 3], [0, 1, 2, 3, 7], [0, 1, 2, 3, 7, 8], [0, 1, 2, 3, 4, 5, 6, 7, 8, 9], [0, 1, 2, 3, 4, 5, 6, 7, 8, 9, 10]] [0] [] mixed rfl rfl rfl (PanOk.thn (PanOk.thn (PanOk.thn PanOk.body))) fun I0 hS h0 hh0 w0 sH dd pk => ?_
    refine DH_take (v := .pointer (some ((⟨b1, 0, none⟩ : Addr).add 4))) 0 (by kernel_rfl) rfl rfl (.no rfl) pk sH rfl (VR.ofV (V_fieldAddrN (B := ⟨b1, 0, none⟩) (m := 0) (o := 4) Try.underlying76 rfl nz5 rfl rfl)) ?_
    refine DH_take 1 (by kernel_rfl) rfl rfl (.no rfl) pk sH rfl (VR_load_blk (b := b1) (m := 4) (k := 0) Try.underlying5 rfl rfl rfl rfl) ?_
    refine DH_take (v := .bool (decide (a0.f2 > 2))) 2 (by kernel_rfl) rfl rfl (.no rfl) pk sH rfl (VR.ofV (V_gtr rfl rfl)) ?_
    refine DH_take (v := .bool (decide (a0.f2 > 2))) 3 (by kernel_rfl) rfl rfl (.no rfl) pk sH rfl (VR.ofV (V_move rfl)) ?_
    by_cases h731 : a0.f2 > 2
    · replace H := g_ift h731 H
      refine DH_skip 4 (by kernel_rfl) rfl rfl (.no rfl rfl rfl rfl (dec_t h731)) pk rfl ?_
      refine DH_skip 5 (by kernel_rfl) rfl rfl (.no rfl rfl rfl rfl (dec_t h731)) pk rfl ?_
      refine DH_skip 6 (by kernel_rfl) rfl rfl (.no rfl rfl rfl rfl (dec_t h731)) pk rfl ?_
      refine DH_skip 7 (by kernel_rfl) rfl rfl (.no rfl rfl rfl rfl (dec_t h731)) pk rfl ?_
      refine DH_skip 8 (by kernel_rfl) rfl rfl (.no rfl rfl rfl rfl (dec_t h731)) pk rfl ?_
      refine DH_skip 9 (by kernel_rfl) rfl rfl (.no rfl rfl rfl rfl (dec_t h731)) pk rfl ?_
      refine DH_skip 10 (by kernel_rfl) rfl rfl (.no rfl rfl rfl rfl (dec_t h731)) pk rfl ?_
      refine DH_take 11 (by kernel_rfl) rfl rfl (.no rfl) pk sH rfl (VR.ofV (V_pickT rfl (dec_t h731) rfl)) ?_
      refine DH_open dd sH ?_
      refine DN_done (by kernel_rfl) ?_
      have hr_ := Option.some.inj H
      subst hr_
      exact at_normal (St.mk1 (aeq rfl (aeq rfl aeq0)) (Gh.sel [0] rfl rfl))
    replace H := g_iff h731 H
    refine DH_take (v := .pointer (some ⟨b1, 0, none⟩)) 4 (by kernel_rfl) rfl rfl (.yes rfl rfl rfl rfl (dec_f h731)) pk sH rfl (VR.ofV (V_fieldAddrN (B := ⟨b1, 0, none⟩) (m := 0) (o := 0) Try.underlying76 rfl nz21 rfl rfl)) ?_
    refine DH_take 5 (by kernel_rfl) rfl rfl (.yes rfl rfl rfl rfl (dec_f h731)) pk sH rfl (VR_load_blk (b := b1) (m := 0) (k := 0) Try.underlying21 rfl rfl rfl rfl) ?_
    refine DH_take (v := .pointer (some ((⟨b1, 0, none⟩ : Addr).add 4))) 7 (by kernel_rfl) rfl rfl (.yes rfl rfl rfl rfl (dec_f h731)) pk sH rfl (VR.ofV (V_fieldAddrN (B := ⟨b1, 0, none⟩) (m := 0) (o := 4) Try.underlying76 rfl nz5 rfl rfl)) ?_
    refine DH_take 8 (by kernel_rfl) rfl rfl (.yes rfl rfl rfl rfl (dec_f h731)) pk sH rfl (VR_load_blk (b := b1) (m := 4) (k := 0) Try.underlying5 rfl rfl rfl rfl) ?_
    refine DH_take (v := .int .i64 (IntKind.i64.wrap (a0.f2))) 9 (by kernel_rfl) rfl rfl (.yes rfl rfl rfl rfl (dec_f h731)) pk sH rfl (VR.ofV (V_conv (T := 5) (by kernel_rfl) Try.underlying3 rfl)) ?_
    obtain ⟨r370, C371, H⟩ := g_bind H
    refine DH_one 6 dd (by kernel_rfl) rfl (.yes rfl rfl rfl rfl (dec_f h731)) (OA_callA [] [] rfl (X_fn (vs := [.int .i32 a0.f0]) Try.func102 nm102 rfl rfl) rfl (F102.ok (a0 := a0.f0) C371) rfl ?_)
    rintro _ _ ⟨rfl, rfl⟩
    refine DH_take (v := .bool (decide (r370 ≠ (IntKind.i64.wrap (a0.f2))))) 10 (by kernel_rfl) rfl rfl (.yes rfl rfl rfl rfl (dec_f h731)) pk sH rfl (VR.ofV (V_neq rfl rfl)) ?_
    refine DH_take 11 (by kernel_rfl) rfl rfl (.no rfl) pk sH rfl (VR.ofV (V_pickF rfl (dec_f h731) rfl)) ?_
    refine DH_open dd sH ?_
    refine DN_done (by kernel_rfl) ?_
    have hr_ := Option.some.inj H
    subst hr_
    exact at_normal (St.mk1 (aeq rfl (aeq rfl aeq0)) (Gh.sel [0] rfl rfl))
  rintro e ds As hst732
  clear H
  have H := Bt9
  clear Bt9
  refine at_normal ?_
  refine SA.of_St hst732 fun junk => ?_
  by_cases h733 : t9 = true
  · replace H := g_ift h733 H
    refine SA_condTb rfl h733 ?_
    refine SA_seq ?_
    refine SA_region ?_
    refine RA_step rfl (OA_v (v := .bool false) rfl (V_assign rfl) ?_)
    refine RA_nil ?_
    refine at_normal ?_
    refine SA_ret ?_
    refine thn_ret ?_
    have hr_ := Option.some.inj H
    subst hr_
    exact BQ_R1 [] rfl rfl (Gh.sel [] rfl rfl) ⟨rfl, rfl⟩
  replace H := g_iff h733 H
  refine SA_condFb rfl h733 ?_
  refine SA_skip ?_
  refine at_normal ?_
  refine SA_seq ?_
  refine SA_seq ?_
  refine SA_region ?_
  refine RA_step rfl (OA_v (v := .int .i64 0) rfl (V_assign rfl) ?_)
  refine RA_nil ?_
  refine at_normal ?_
  obtain ⟨t734, H, Bt734⟩ := g_bind H
  refine SA_mid (fun e ds As => ∃ (s735 : Unit), t734 = Out.go s735 ∧ St [] [] e ds As) ?_ ?_
  · refine SA_block ?_
    refine SA_loop (fun k_ e ds As => ∃ (x3_735 : Int), F68.l0 a0 k_ x3_735 = some t734 ∧ St [(1, .pointer (some ⟨b1, 0, none⟩)), (3, .int .i64 x3_735)] [Blk b1 76 (.int .i32 a0.f0 :: .int .i32 a0.f1.f0 :: .int .i32 a0.f1.f1 :: .int .i32 a0.f1.f2 :: .int .u8 a0.f2 :: .int .i64 a0.f3.f0 :: .int .i64 a0.f3.f1 :: .bool a0.f3.f2 :: .bool a0.f3.f3 :: .bool a0.f3.f4 :: .bool a0.f3.f5 :: .bool a0.f3.f6 :: .bool a0.f3.f7 :: .bool a0.f3.f8 :: .bool a0.f3.f9 :: [])] e ds As) (k := k) ⟨_, H, St.mk1 (aeq rfl (aeq rfl aeq0)) (Gh.sel [0] rfl rfl)⟩ ?_
    clear H
    rintro k736 e ds As ⟨x3_735, H, hst737⟩
    obtain _ | k736 := k736
    · cases H
    rw [F68.l0] at H
    refine SA.of_St hst737 fun junk => ?_
    refine SA_seq ?_
    refine SA_seq ?_
    refine SA_region ?_
    refine RA_step rfl (OA_v (v := .int .i64 x3_735) rfl (V_move rfl) ?_)
    refine RA_step rfl (OA_v (v := .bool (decide (x3_735 < 3))) rfl (V_lss rfl rfl) ?_)
    refine RA_nil ?_
    refine at_normal ?_
    by_cases h738 : x3_735 < 3
    · replace H := g_ift h738 H
      refine SA_condT rfl h738 ?_
      refine SA_skip ?_
      refine at_normal ?_
      refine SA_seq ?_
      refine SA_block ?_
      refine SA_seq ?_
      refine SA_region ?_
      refine RA_step rfl (OA_v (v := .int .i64 x3_735) rfl (V_move rfl) ?_)
      refine RA_step rfl (OA_v (v := .pointer (some ((⟨b1, 0, none⟩ : Addr).add 1))) rfl (V_fieldAddrN (B := ⟨b1, 0, none⟩) (m := 0) (o := 1) Try.underlying76 rfl nz74 rfl rfl) ?_)
      obtain ⟨⟨g739, g740⟩, H⟩ := g_pos H
      refine RA_step rfl (OA_v (v := .pointer (some ((⟨b1, 0, none⟩ : Addr).add (1 + x3_735.toNat * 1 + 0)))) rfl (V_indexArr (B := ⟨b1, 0, none⟩) (m := 1) (o := 1 + x3_735.toNat * 1 + 0) Try.underlying74 sz21 rfl rfl g739 g740 rfl) ?_)
      refine RA_step rfl (OA_r rfl (VR_load_blk (b := b1) (m := 1 + x3_735.toNat * 1 + 0) (k := 0) (v := .int .i32 (rd ([a0.f1.f0, a0.f1.f1, a0.f1.f2] : List Int) x3_735)) Try.underlying21 rfl rfl rfl (ai_get (q := 0) (kd := (Kd.int .i32)) (m0 := 1) (N := 3) (sz := 1) (xs := ([a0.f1.f0, a0.f1.f1, a0.f1.f2] : List Int)) (i := x3_735) (RL_enc (fun x_ : Int => [Value.int .i32 x_]) (fun _ _ => rfl) (by kernel_rfl) _) rfl rfl g739 g740 (fun _ h_ => by rw [h_]; rfl))) ?_)
      refine RA_step rfl (OA_v (v := .bool (decide ((rd ([a0.f1.f0, a0.f1.f1, a0.f1.f2] : List Int) x3_735) = 0))) rfl (V_eql rfl rfl) ?_)
      refine RA_nil ?_
      refine at_normal ?_
      by_cases h741 : (rd ([a0.f1.f0, a0.f1.f1, a0.f1.f2] : List Int) x3_735) = 0
      · replace H := g_ift h741 H
        refine SA_condT rfl h741 ?_
        refine SA_seq ?_
        refine SA_region ?_
        refine RA_step rfl (OA_v (v := .int .i64 x3_735) rfl (V_move rfl) ?_)
        refine RA_step rfl (OA_v (v := .int .i64 (IntKind.i64.wrap (x3_735 + 1))) rfl (V_add rfl rfl) ?_)
        refine RA_step rfl (OA_v (v := .bool (decide ((IntKind.i64.wrap (x3_735 + 1)) < 3))) rfl (V_lss rfl rfl) ?_)
        refine RA_step rfl (OA_v (v := .bool (decide ((IntKind.i64.wrap (x3_735 + 1)) < 3))) rfl (V_move rfl) ?_)
        obtain ⟨q742, H, Bq742⟩ := g_bind H
        refine RA_cut 7 (fun e ds As => St [(1, .pointer (some ⟨b1, 0, none⟩)), (3, .int .i64 x3_735), (51, .bool q742)] [Blk b1 76 (.int .i32 a0.f0 :: .int .i32 a0.f1.f0 :: .int .i32 a0.f1.f1 :: .int .i32 a0.f1.f2 :: .int .u8 a0.f2 :: .int .i64 a0.f3.f0 :: .int .i64 a0.f3.f1 :: .bool a0.f3.f2 :: .bool a0.f3.f3 :: .bool a0.f3.f4 :: .bool a0.f3.f5 :: .bool a0.f3.f6 :: .bool a0.f3.f7 :: .bool a0.f3.f8 :: .bool a0.f3.f9 :: [])] e ds As) ?_ ?_
        · by_cases h743 : (IntKind.i64.wrap (x3_735 + 1)) < 3
          · replace H := g_ift h743 H
            refine RA_yesB rfl rfl rfl rfl (dec_t h743) (OA_v (v := .int .i64 x3_735) rfl (V_move rfl) ?_)
            refine RA_yesB rfl rfl rfl rfl (dec_t h743) (OA_v (v := .int .i64 (IntKind.i64.wrap (x3_735 + 1))) rfl (V_add rfl rfl) ?_)
            refine RA_yesB rfl rfl rfl rfl (dec_t h743) (OA_v (v := .pointer (some ((⟨b1, 0, none⟩ : Addr).add 1))) rfl (V_fieldAddrN (B := ⟨b1, 0, none⟩) (m := 0) (o := 1) Try.underlying76 rfl nz74 rfl rfl) ?_)
            obtain ⟨⟨g744, g745⟩, H⟩ := g_pos H
            refine RA_yesB rfl rfl rfl rfl (dec_t h743) (OA_v (v := .pointer (some ((⟨b1, 0, none⟩ : Addr).add (1 + (IntKind.i64.wrap (x3_735 + 1)).toNat * 1 + 0)))) rfl (V_indexArr (B := ⟨b1, 0, none⟩) (m := 1) (o := 1 + (IntKind.i64.wrap (x3_735 + 1)).toNat * 1 + 0) Try.underlying74 sz21 rfl rfl g744 g745 rfl) ?_)
            refine RA_yesB rfl rfl rfl rfl (dec_t h743) (OA_r rfl (VR_load_blk (b := b1) (m := 1 + (IntKind.i64.wrap (x3_735 + 1)).toNat * 1 + 0) (k := 0) (v := .int .i32 (rd ([a0.f1.f0, a0.f1.f1, a0.f1.f2] : List Int) (IntKind.i64.wrap (x3_735 + 1)))) Try.underlying21 rfl rfl rfl (ai_get (q := 0) (kd := (Kd.int .i32)) (m0 := 1) (N := 3) (sz := 1) (xs := ([a0.f1.f0, a0.f1.f1, a0.f1.f2] : List Int)) (i := IntKind.i64.wrap (x3_735 + 1)) (RL_enc (fun x_ : Int => [Value.int .i32 x_]) (fun _ _ => rfl) (by kernel_rfl) _) rfl rfl g744 g745 (fun _ h_ => by rw [h_]; rfl))) ?_)
            refine RA_yesB rfl rfl rfl rfl (dec_t h743) (OA_v (v := .bool (decide ((rd ([a0.f1.f0, a0.f1.f1, a0.f1.f2] : List Int) (IntKind.i64.wrap (x3_735 + 1))) ≠ 0))) rfl (V_neq rfl rfl) ?_)
            refine RA_step rfl (OA_v rfl (V_pickT rfl (dec_t h743) rfl) ?_)
            have hr_ := Option.some.inj H
            subst hr_
            refine RA_nil ?_
            exact at_normal (St.mk1 (aeq rfl (aeq rfl (aeq rfl aeq0))) (Gh.sel [0] rfl rfl))
          replace H := g_iff h743 H
          refine RA_noB rfl rfl rfl rfl (dec_f h743) rfl ?_
          refine RA_noB rfl rfl rfl rfl (dec_f h743) rfl ?_
          refine RA_noB rfl rfl rfl rfl (dec_f h743) rfl ?_
          refine RA_noB rfl rfl rfl rfl (dec_f h743) rfl ?_
          refine RA_noB rfl rfl rfl rfl (dec_f h743) rfl ?_
          refine RA_noB rfl rfl rfl rfl (dec_f h743) rfl ?_
          refine RA_step rfl (OA_v rfl (V_pickF rfl (dec_f h743) rfl) ?_)
          have hr_ := Option.some.inj H
          subst hr_
          refine RA_nil ?_
          exact at_normal (St.mk1 (aeq rfl (aeq rfl (aeq rfl aeq0))) (Gh.sel [0] rfl rfl))
        rintro e ds As hst746
        clear H
        have H := Bq742
        clear Bq742
        refine RA_nil ?_
        refine at_normal ?_
        refine SA.of_St hst746 fun junk => ?_
        by_cases h747 : q742 = true
        · replace H := g_ift h747 H
          refine SA_condTb rfl h747 ?_
          refine SA_seq ?_
          refine SA_region ?_
          refine RA_step rfl (OA_v (v := .bool false) rfl (V_assign rfl) ?_)
          refine RA_nil ?_
          refine at_normal ?_
          refine SA_ret ?_
          refine inb_ret ?_
          refine thn_ret ?_
          refine thn_ret ?_
          refine inb_ret ?_
          refine thn_ret ?_
          refine thn_ret ?_
          have hr_ := Option.some.inj H
          subst hr_
          have hb_ := el_ret Bt734
          have hr_ := Option.some.inj hb_
          clear hb_
          subst hr_
          exact BQ_R1 [] rfl rfl (Gh.sel [] rfl rfl) ⟨rfl, rfl⟩
        replace H := g_iff h747 H
        refine SA_condFb rfl h747 ?_
        refine SA_skip ?_
        refine inb_normal ?_
        refine at_normal ?_
        refine SA_region ?_
        refine RA_step rfl (OA_v (v := .int .i64 x3_735) rfl (V_move rfl) ?_)
        refine RA_step rfl (OA_v (v := .int .i64 (IntKind.i64.wrap (x3_735 + 1))) rfl (V_add rfl rfl) ?_)
        obtain ⟨n748, hn748, H⟩ := g_lt H
        refine RA_step rfl (OA_v (v := .int .i64 n748) rfl (V_assign (v := .int .i64 n748) (congrArg (Value.int .i64) hn748.symm)) ?_)
        refine RA_nil ?_
        exact at_normal ⟨k736, Nat.lt_succ_self _, _, H, St.mk1 (aeq rfl (aeq rfl aeq0)) (Gh.sel [0] rfl rfl)⟩
      replace H := g_iff h741 H
      refine SA_condF rfl h741 ?_
      refine SA_seq ?_
      refine SA_region ?_
      refine RA_step rfl (OA_v (v := .int .i64 x3_735) rfl (V_move rfl) ?_)
      refine RA_step rfl (OA_v (v := .pointer (some ((⟨b1, 0, none⟩ : Addr).add 1))) rfl (V_fieldAddrN (B := ⟨b1, 0, none⟩) (m := 0) (o := 1) Try.underlying76 rfl nz74 rfl rfl) ?_)
      obtain ⟨⟨g749, g750⟩, H⟩ := g_pos H
      refine RA_step rfl (OA_v (v := .pointer (some ((⟨b1, 0, none⟩ : Addr).add (1 + x3_735.toNat * 1 + 0)))) rfl (V_indexArr (B := ⟨b1, 0, none⟩) (m := 1) (o := 1 + x3_735.toNat * 1 + 0) Try.underlying74 sz21 rfl rfl g749 g750 rfl) ?_)
      refine RA_step rfl (OA_r rfl (VR_load_blk (b := b1) (m := 1 + x3_735.toNat * 1 + 0) (k := 0) (v := .int .i32 (rd ([a0.f1.f0, a0.f1.f1, a0.f1.f2] : List Int) x3_735)) Try.underlying21 rfl rfl rfl (ai_get (q := 0) (kd := (Kd.int .i32)) (m0 := 1) (N := 3) (sz := 1) (xs := ([a0.f1.f0, a0.f1.f1, a0.f1.f2] : List Int)) (i := x3_735) (RL_enc (fun x_ : Int => [Value.int .i32 x_]) (fun _ _ => rfl) (by kernel_rfl) _) rfl rfl g749 g750 (fun _ h_ => by rw [h_]; rfl))) ?_)
      obtain ⟨r751, C754, H⟩ := g_bind H
      refine RA_step rfl (OA_callA [] [0] rfl (X_fn (vs := [.int .i32 (rd ([a0.f1.f0, a0.f1.f1, a0.f1.f2] : List Int) x3_735)]) Try.func102 nm102 rfl rfl) rfl (F102.ok (a0 := rd ([a0.f1.f0, a0.f1.f1, a0.f1.f2] : List Int) x3_735) C754) rfl ?_)
      rintro _ _ ⟨rfl, rfl⟩
      refine RA_step rfl (OA_v (v := .bool (decide (r751 ≠ 0))) rfl (V_neq rfl rfl) ?_)
      refine RA_nil ?_
      refine at_normal ?_
      by_cases h752 : r751 ≠ 0
      · replace H := g_ift h752 H
        refine SA_condT rfl h752 ?_
        refine SA_seq ?_
        refine SA_region ?_
        refine RA_step rfl (OA_v (v := .bool false) rfl (V_assign rfl) ?_)
        refine RA_nil ?_
        refine at_normal ?_
        refine SA_ret ?_
        refine inb_ret ?_
        refine thn_ret ?_
        refine thn_ret ?_
        refine inb_ret ?_
        refine thn_ret ?_
        refine thn_ret ?_
        have hr_ := Option.some.inj H
        subst hr_
        have hb_ := el_ret Bt734
        have hr_ := Option.some.inj hb_
        clear hb_
        subst hr_
        exact BQ_R1 [] rfl rfl (Gh.sel [] rfl rfl) ⟨rfl, rfl⟩
      replace H := g_iff h752 H
      refine SA_condF rfl h752 ?_
      refine SA_skip ?_
      refine inb_normal ?_
      refine at_normal ?_
      refine SA_region ?_
      refine RA_step rfl (OA_v (v := .int .i64 x3_735) rfl (V_move rfl) ?_)
      refine RA_step rfl (OA_v (v := .int .i64 (IntKind.i64.wrap (x3_735 + 1))) rfl (V_add rfl rfl) ?_)
      obtain ⟨n753, hn753, H⟩ := g_lt H
      refine RA_step rfl (OA_v (v := .int .i64 n753) rfl (V_assign (v := .int .i64 n753) (congrArg (Value.int .i64) hn753.symm)) ?_)
      refine RA_nil ?_
      exact at_normal ⟨k736, Nat.lt_succ_self _, _, H, St.mk1 (aeq rfl (aeq rfl aeq0)) (Gh.sel [0] rfl rfl)⟩
    replace H := g_iff h738 H
    refine SA_condF rfl h738 ?_
    refine SA_exit ?_
    refine thn_exit ?_
    refine thn_exit ?_
    refine inb_hit ?_
    have hr_ := Option.some.inj H
    subst hr_
    exact at_normal ⟨(), rfl, St.mk1 aeq0 (Gh.sel [] rfl rfl)⟩
  rintro e ds As ⟨s735, ht, hst755⟩
  clear H
  subst ht
  replace Bt734 := el_go Bt734
  have H := Bt734
  clear Bt734
  refine at_normal ?_
  refine SA.of_St hst755 fun junk => ?_
  refine SA_seq ?_
  refine SA_region ?_
  refine RA_step rfl (OA_v (v := .bool true) rfl (V_assign rfl) ?_)
  refine RA_nil ?_
  refine at_normal ?_
  refine SA_ret ?_
  have hr_ := Option.some.inj H
  subst hr_
  exact BQ_R1 [] rfl rfl (Gh.sel [] rfl rfl) ⟨rfl, rfl⟩
end Go.Proofs.Ytodkeoibebimgaa.Gr

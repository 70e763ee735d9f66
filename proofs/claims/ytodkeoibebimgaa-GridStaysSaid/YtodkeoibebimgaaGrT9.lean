/- What a function computes, and that it does: 9. -/
import Derived.Test.YtodkeoibebimgaaGr0
import Derived.Test.YtodkeoibebimgaaGr2
import Derived.Test.YtodkeoibebimgaaGr4
import Derived.Test.YtodkeoibebimgaaGr5
import Derived.Test.YtodkeoibebimgaaGr7
import Derived.Test.YtodkeoibebimgaaGr8
import Derived.Test.YtodkeoibebimgaaGr9
import Derived.Test.YtodkeoibebimgaaGr10
namespace Go.Proofs.Ytodkeoibebimgaa.Gr
open Go Go.RowKit Go.Proofs.Ytodkeoibebimgaa.SL
set_option linter.unusedVariables false
set_option linter.unusedSimpArgs false
attribute [local irreducible] IntKind.wrap minI maxI shrI shlI andI orI xorI andNotI cplI rd sub bytesOf strOf slA
/-! ### function 9: wayfarer/wayfarerlaw15.GridStays -/
def F9.l0 (l1 : (List S90)) : Nat → S67 → Int → Option (Out (Bool) (Unit))
  | 0, _, _ => none
  | k + 1, x2_15, x5_15 => if x5_15 < (l1.length : Int) then (if 0 ≤ x5_15 ∧ x5_15 < (l1.length : Int) then ((if (x5_15.tmod 5) = 0 then ((F42.f k x2_15 ((rd l1 x5_15).f0) ((rd l1 x5_15).f1) ((rd l1 x5_15).f4) ((rd l1 x5_15).f5)).bind (fun r38 => some (r38.1, r38.2))) else (if (x5_15.tmod 5) = 1 then ((F37.f k x2_15 ((rd l1 x5_15).f0) ((rd l1 x5_15).f1) ((rd l1 x5_15).f2) ((rd l1 x5_15).f4)).bind (fun r44 => some (r44.1, r44.2))) else (if (x5_15.tmod 5) = 2 then ((F43.f k x2_15 ((rd l1 x5_15).f0) ((rd l1 x5_15).f1) ((rd l1 x5_15).f3) ((rd l1 x5_15).f4)).bind (fun r50 => some (r50.1, r50.2))) else (if (x5_15.tmod 5) = 3 then ((F33.f k x2_15 ((rd l1 x5_15).f0) ((rd l1 x5_15).f2) ((rd l1 x5_15).f3) ((rd l1 x5_15).f4)).bind (fun r56 => some (r56.1, r56.2))) else (if (x5_15.tmod 5) = 4 then ((F38.f k x2_15 ((rd l1 x5_15).f2) ((rd l1 x5_15).f1) ((rd l1 x5_15).f4)).bind (fun r62 => some (r62.1, r62.2))) else (some (x2_15, 0)))))) : Option (S67 × Int)).bind (fun t32 => if t32.2 ≠ 0 then (lt (IntKind.i64.wrap (x5_15 + 1)) fun n69 => F9.l0 l1 k x2_15 n69) else ((F41.f k t32.1).bind (fun r70 => (if (!r70) = true then (some true) else ((F30.f k t32.1).bind (fun r73 => some (!r73))) : Option Bool).bind (fun q71 => if q71 = true then (some (Out.ret (false))) else (lt (IntKind.i64.wrap (x5_15 + 1)) fun n77 => F9.l0 l1 k t32.1 n77)))))) else none) else (some (Out.go ()))
def F9.f (k : Nat) (a0 : S67) (l1 : (List S90)) : Option (Bool) := (F30.f k a0).bind (fun r5 => if (!r5) = true then ((F31.f k ).bind (fun r7 => (if r7 = true then ((F41.f k a0).bind (fun r10 => some (!r10))) else (some false) : Option Bool).bind (fun q8 => some (q8)))) else ((F9.l0 l1 k a0 0 : Option (Out (Bool) (Unit))).bind (fun t14 => Out.el t14 (fun r_ => some r_) (fun s15 => (F31.f k ).bind (fun r80 => some (r80))))))
set_option maxHeartbeats 2000000 in
set_option maxRecDepth 100000 in
theorem F9.ok {k : Nat} {a0 : S67} {l1 : (List S90)} {A0_0 : Option Addr} {c0_0 : Nat} {A1 : Option Addr} {c1 : Nat} {r : Bool} (H : F9.f k a0 l1 = some r) : SCA Try.prog 9 #[.agg #[.int .i64 a0.f0, .int .i64 a0.f1, .slice A0_0 a0.f2.length c0_0], .slice A1 l1.length c1] [Ro k76 A0_0 c0_0 a0.f2, Ro k90 A1 c1 l1] (fun v B => v = .bool r ∧ B = []) := by
  refine SCA_of_body Try.func9 rfl rfl ?_
  unfold F9.f at H
  refine SA_seq ?_
  refine SA_region ?_
  refine RA_step rfl (OA_box rfl rfl fun b3 => ?_)
  refine RA_step rfl (OA_v (v := .bool false) rfl (V_assign rfl) ?_)
  refine RA_nil ?_
  refine at_normal ?_
  refine SA_seq ?_
  refine SA_seq ?_
  refine SA_region ?_
  refine RA_step rfl (OA_r rfl (VR_loadA_blk (b := b3) (m := 0) (k := 2) (vs := [.int .i64 a0.f0, .int .i64 a0.f1, .slice A0_0 a0.f2.length c0_0]) Try.underlying67 rfl sz67 rfl rfl rfl) ?_)
  obtain ⟨r5, C82, H⟩ := g_bind H
  refine RA_step rfl (OA_callA [0] [0, 1, 2] rfl (X_fn (vs := [.agg #[.int .i64 a0.f0, .int .i64 a0.f1, .slice A0_0 a0.f2.length c0_0]]) Try.func30 nm30 rfl rfl) rfl (F30.ok (a0 := a0) (A0_0 := A0_0) (c0_0 := c0_0) C82) rfl ?_)
  rintro _ _ ⟨rfl, rfl⟩
  refine RA_step rfl (OA_v (v := .bool (!r5)) rfl (V_not rfl) ?_)
  refine RA_nil ?_
  refine at_normal ?_
  by_cases h6 : (!r5) = true
  · replace H := g_ift h6 H
    refine SA_condTb rfl h6 ?_
    refine SA_seq ?_
    refine SA_region ?_
    obtain ⟨r7, C13, H⟩ := g_bind H
    refine RA_step rfl (OA_callA [] [0, 1, 2] rfl (X_fn (vs := []) Try.func31 nm31 rfl rfl) rfl (F31.ok C13) rfl ?_)
    rintro _ _ ⟨rfl, rfl⟩
    refine RA_step rfl (OA_v (v := .bool r7) rfl (V_move rfl) ?_)
    obtain ⟨q8, H, Bq8⟩ := g_bind H
    refine RA_cut 4 (fun e ds As => St [(17, .bool q8)] [] e ds As) ?_ ?_
    · by_cases h9 : r7 = true
      · replace H := g_ift h9 H
        refine RA_yesB rfl rfl rfl rfl (h9) (OA_r rfl (VR_loadA_blk (b := b3) (m := 0) (k := 2) (vs := [.int .i64 a0.f0, .int .i64 a0.f1, .slice A0_0 a0.f2.length c0_0]) Try.underlying67 rfl sz67 rfl rfl rfl) ?_)
        obtain ⟨r10, C11, H⟩ := g_bind H
        refine RA_yesB rfl rfl rfl rfl (h9) (OA_callA [0] [0, 1, 2] rfl (X_fn (vs := [.agg #[.int .i64 a0.f0, .int .i64 a0.f1, .slice A0_0 a0.f2.length c0_0]]) Try.func41 nm41 rfl rfl) rfl (F41.ok (a0 := a0) (A0_0 := A0_0) (c0_0 := c0_0) C11) rfl ?_)
        rintro _ _ ⟨rfl, rfl⟩
        refine RA_yesB rfl rfl rfl rfl (h9) (OA_v (v := .bool (!r10)) rfl (V_not rfl) ?_)
        refine RA_step rfl (OA_v rfl (V_pickT rfl (h9) rfl) ?_)
        have hr_ := Option.some.inj H
        subst hr_
        refine RA_nil ?_
        exact at_normal (St.mk1 (aeq rfl aeq0) (Gh.sel [] rfl rfl))
      replace H := g_iff h9 H
      refine RA_noB rfl rfl rfl rfl (bno h9) rfl ?_
      refine RA_noB rfl rfl rfl rfl (bno h9) rfl ?_
      refine RA_noB rfl rfl rfl rfl (bno h9) rfl ?_
      refine RA_step rfl (OA_v rfl (V_pickF rfl (bno h9) rfl) ?_)
      have hr_ := Option.some.inj H
      subst hr_
      refine RA_nil ?_
      exact at_normal (St.mk1 (aeq rfl aeq0) (Gh.sel [] rfl rfl))
    rintro e ds As hst12
    clear H
    have H := Bq8
    clear Bq8
    refine RA.of_St rfl hst12 fun junk => ?_
    refine RA_step rfl (OA_v (v := .bool q8) rfl (V_assign rfl) ?_)
    refine RA_nil ?_
    refine at_normal ?_
    refine SA_ret ?_
    refine thn_ret ?_
    have hr_ := Option.some.inj H
    subst hr_
    exact BQ_R1 [] rfl rfl (Gh.sel [] rfl rfl) ⟨rfl, rfl⟩
  replace H := g_iff h6 H
  refine SA_condFb rfl h6 ?_
  refine SA_skip ?_
  refine at_normal ?_
  refine SA_seq ?_
  refine SA_seq ?_
  refine SA_region ?_
  refine RA_step rfl (OA_v (v := .int .i64 0) rfl (V_assign rfl) ?_)
  refine RA_nil ?_
  refine at_normal ?_
  obtain ⟨t14, H, Bt14⟩ := g_bind H
  refine SA_mid (fun e ds As => ∃ (s15 : Unit), t14 = Out.go s15 ∧ St [] [] e ds As) ?_ ?_
  · refine SA_block ?_
    refine SA_loop (fun k_ e ds As => ∃ (x2_15 : S67) (x5_15 : Int), ∃ (b16 : Nat), ∃ (A17 : Option Addr) (c18 : Nat), F9.l0 l1 k_ x2_15 x5_15 = some t14 ∧ St [(1, .slice A1 l1.length c1), (2, .pointer (some ⟨b16, 0, none⟩)), (5, .int .i64 x5_15)] [Ro k90 A1 c1 l1, Blk b16 67 [.int .i64 x2_15.f0, .int .i64 x2_15.f1, .slice A17 x2_15.f2.length c18], Ro k76 A17 c18 x2_15.f2] e ds As) (k := k) ⟨_, _, b3, A0_0, c0_0, H, St.mk1 (aeq rfl (aeq rfl (aeq rfl aeq0))) (Gh.sel [1, 2, 0] rfl rfl)⟩ ?_
    clear H
    rintro k20 e ds As ⟨x2_15, x5_15, b16, A17, c18, H, hst21⟩
    obtain _ | k20 := k20
    · cases H
    rw [F9.l0] at H
    refine SA.of_St hst21 fun junk => ?_
    refine SA_seq ?_
    refine SA_seq ?_
    refine SA_region ?_
    refine RA_step rfl (OA_v (v := .int .i64 x5_15) rfl (V_move rfl) ?_)
    refine RA_step rfl (OA_v (v := .slice A1 l1.length c1) rfl (V_move rfl) ?_)
    refine RA_step rfl (OA_v (v := .int .i64 (l1.length : Int)) rfl (V_len Try.underlying97 rfl) ?_)
    refine RA_step rfl (OA_v (v := .bool (decide (x5_15 < (l1.length : Int)))) rfl (V_lss rfl rfl) ?_)
    refine RA_nil ?_
    refine at_normal ?_
    by_cases h22 : x5_15 < (l1.length : Int)
    · replace H := g_ift h22 H
      refine SA_condT rfl h22 ?_
      refine SA_skip ?_
      refine at_normal ?_
      refine SA_seq ?_
      refine SA_block ?_
      refine SA_seq ?_
      refine SA_region ?_
      refine RA_step rfl (OA_v (v := .slice A1 l1.length c1) rfl (V_move rfl) ?_)
      refine RA_step rfl (OA_v (v := .int .i64 x5_15) rfl (V_move rfl) ?_)
      obtain ⟨⟨g23, g24⟩, H⟩ := g_pos H
      refine RA_step rfl (OA_r rfl (VR_index (i := x5_15) Try.underlying97 sz90 rfl rfl (Src.ro (k := 0) rfl) g23 g24) ?_)
      refine RA_step rfl (OA_loadSlA (i := x5_15) (j := x5_15.toNat * 15) (m := 0) (sz := 15) (k := 15) (fun vs_ Bs_ => ∃ (A25 : Option Addr) (c26 : Nat), vs_ = (.int .i64 ((rd l1 x5_15).f0) :: .int .i64 ((rd l1 x5_15).f1) :: .int .i64 ((rd l1 x5_15).f2) :: .int .i64 ((rd l1 x5_15).f3) :: .int .i64 (((rd l1 x5_15).f4).f0) :: .int .i64 (((rd l1 x5_15).f4).f1) :: .bool (((rd l1 x5_15).f4).f2) :: .bool (((rd l1 x5_15).f4).f3) :: .bool (((rd l1 x5_15).f4).f4) :: .bool (((rd l1 x5_15).f4).f5) :: .bool (((rd l1 x5_15).f4).f6) :: .bool (((rd l1 x5_15).f4).f7) :: .bool (((rd l1 x5_15).f4).f8) :: .bool (((rd l1 x5_15).f4).f9) :: .slice A25 ((rd l1 x5_15).f5).length c26 :: []) ∧ Bs_ = [Ro k76 A25 c26 ((rd l1 x5_15).f5)]) rfl Try.underlying90 rfl sz90 rfl rfl rfl (Src.ro (k := 0) rfl) g23 g24 (fun _ _ ⟨_, ⟨A25, c26, e_, eb_⟩, hp_⟩ => ⟨_, ⟨A25, c26, by subst e_; rfl, rfl⟩, fun B_ hB_ => hp_ B_ (by subst eb_; first | exact hB_ | (simp only [List.mem_cons, List.not_mem_nil, or_false] at hB_ ⊢; first | exact hB_ | simp [hB_]))⟩) (fun _ _ ⟨_, _, e_, _⟩ => by subst e_; rfl) ?_)
      rintro _ _ ⟨A25, c26, rfl, rfl⟩
      refine RA_step rfl (OA_alloc rfl zero90 fun b28 => ?_)
      refine RA_step rfl (OA_st (b := b28) (m := 0) (k := 4) (vs := (.int .i64 ((rd l1 x5_15).f0) :: .int .i64 ((rd l1 x5_15).f1) :: .int .i64 ((rd l1 x5_15).f2) :: .int .i64 ((rd l1 x5_15).f3) :: .int .i64 (((rd l1 x5_15).f4).f0) :: .int .i64 (((rd l1 x5_15).f4).f1) :: .bool (((rd l1 x5_15).f4).f2) :: .bool (((rd l1 x5_15).f4).f3) :: .bool (((rd l1 x5_15).f4).f4) :: .bool (((rd l1 x5_15).f4).f5) :: .bool (((rd l1 x5_15).f4).f6) :: .bool (((rd l1 x5_15).f4).f7) :: .bool (((rd l1 x5_15).f4).f8) :: .bool (((rd l1 x5_15).f4).f9) :: .slice A25 ((rd l1 x5_15).f5).length c26 :: [])) (cs' := (.int .i64 ((rd l1 x5_15).f0) :: .int .i64 ((rd l1 x5_15).f1) :: .int .i64 ((rd l1 x5_15).f2) :: .int .i64 ((rd l1 x5_15).f3) :: .int .i64 (((rd l1 x5_15).f4).f0) :: .int .i64 (((rd l1 x5_15).f4).f1) :: .bool (((rd l1 x5_15).f4).f2) :: .bool (((rd l1 x5_15).f4).f3) :: .bool (((rd l1 x5_15).f4).f4) :: .bool (((rd l1 x5_15).f4).f5) :: .bool (((rd l1 x5_15).f4).f6) :: .bool (((rd l1 x5_15).f4).f7) :: .bool (((rd l1 x5_15).f4).f8) :: .bool (((rd l1 x5_15).f4).f9) :: .slice A25 ((rd l1 x5_15).f5).length c26 :: [])) rfl rfl rfl rfl rfl rfl sz90 rfl rfl ?_)
      refine RA_nil ?_
      refine at_normal ?_
      refine SA_seq ?_
      refine SA_region ?_
      refine RA_step rfl (OA_r rfl (VR_loadA_blk (b := b16) (m := 0) (k := 1) (vs := [.int .i64 x2_15.f0, .int .i64 x2_15.f1, .slice A17 x2_15.f2.length c18]) Try.underlying67 rfl sz67 rfl rfl rfl) ?_)
      refine RA_step rfl (OA_alloc rfl zero67 fun b30 => ?_)
      refine RA_step rfl (OA_st (b := b30) (m := 0) (k := 5) (vs := [.int .i64 x2_15.f0, .int .i64 x2_15.f1, .slice A17 x2_15.f2.length c18]) (cs' := [.int .i64 x2_15.f0, .int .i64 x2_15.f1, .slice A17 x2_15.f2.length c18]) rfl rfl rfl rfl rfl rfl sz67 rfl rfl ?_)
      refine RA_step rfl (OA_v (v := .int .i64 0) rfl (V_assign rfl) ?_)
      refine RA_nil ?_
      refine at_normal ?_
      refine SA_seq ?_
      refine SA_seq ?_
      refine SA_region ?_
      refine RA_step rfl (OA_v (v := .int .i64 x5_15) rfl (V_move rfl) ?_)
      refine RA_step rfl (OA_v (v := .int .i64 (x5_15.tmod 5)) rfl (V_rem rfl rfl (by decide)) ?_)
      refine RA_nil ?_
      refine at_normal ?_
      obtain ⟨t32, H, Bt32⟩ := g_bind H
      refine SA_mid (fun e ds As => ∃ (b33 : Nat), ∃ (A34 : Option Addr) (c35 : Nat), St [(1, .slice A1 l1.length c1), (2, .pointer (some ⟨b16, 0, none⟩)), (5, .int .i64 x5_15), (7, .pointer (some ⟨b33, 0, none⟩)), (8, .int .i64 t32.2)] [Blk b33 67 [.int .i64 t32.1.f0, .int .i64 t32.1.f1, .slice A34 t32.1.f2.length c35], Ro k76 A34 c35 t32.1.f2, Ro k90 A1 c1 l1, Blk b16 67 [.int .i64 x2_15.f0, .int .i64 x2_15.f1, .slice A17 x2_15.f2.length c18], Ro k76 A17 c18 x2_15.f2] e ds As) ?_ ?_
      · refine SA_block ?_
        refine SA_seq ?_
        refine SA_region ?_
        refine RA_step rfl (OA_v (v := .bool (decide ((x5_15.tmod 5) = 0))) rfl (V_eql rfl rfl) ?_)
        refine RA_step rfl (OA_v (v := .bool (decide ((x5_15.tmod 5) = 0))) rfl (V_assign rfl) ?_)
        refine RA_nil ?_
        refine at_normal ?_
        by_cases h37 : (x5_15.tmod 5) = 0
        · replace H := g_ift h37 H
          refine SA_condT rfl h37 ?_
          refine SA_region ?_
          refine RA_step rfl (OA_r rfl (VR_loadA_blk (b := b16) (m := 0) (k := 1) (vs := [.int .i64 x2_15.f0, .int .i64 x2_15.f1, .slice A17 x2_15.f2.length c18]) Try.underlying67 rfl sz67 rfl rfl rfl) ?_)
          refine RA_step rfl (OA_v (v := .pointer (some ⟨b28, 0, none⟩)) rfl (V_fieldAddrN (B := ⟨b28, 0, none⟩) (m := 0) (o := 0) Try.underlying90 rfl nz3 rfl rfl) ?_)
          refine RA_step rfl (OA_r rfl (VR_load_blk (b := b28) (m := 0) (k := 4) Try.underlying3 rfl rfl rfl rfl) ?_)
          refine RA_step rfl (OA_v (v := .pointer (some ((⟨b28, 0, none⟩ : Addr).add 1))) rfl (V_fieldAddrN (B := ⟨b28, 0, none⟩) (m := 0) (o := 1) Try.underlying90 rfl nz3 rfl rfl) ?_)
          refine RA_step rfl (OA_r rfl (VR_load_blk (b := b28) (m := 1) (k := 4) Try.underlying3 rfl rfl rfl rfl) ?_)
          refine RA_step rfl (OA_v (v := .pointer (some ((⟨b28, 0, none⟩ : Addr).add 4))) rfl (V_fieldAddrN (B := ⟨b28, 0, none⟩) (m := 0) (o := 4) Try.underlying90 rfl nz70 rfl rfl) ?_)
          refine RA_step rfl (OA_r rfl (VR_loadA_blk (b := b28) (m := 4) (k := 4) (vs := [.int .i64 (((rd l1 x5_15).f4).f0), .int .i64 (((rd l1 x5_15).f4).f1), .bool (((rd l1 x5_15).f4).f2), .bool (((rd l1 x5_15).f4).f3), .bool (((rd l1 x5_15).f4).f4), .bool (((rd l1 x5_15).f4).f5), .bool (((rd l1 x5_15).f4).f6), .bool (((rd l1 x5_15).f4).f7), .bool (((rd l1 x5_15).f4).f8), .bool (((rd l1 x5_15).f4).f9)]) Try.underlying70 rfl sz70 rfl rfl rfl) ?_)
          refine RA_step rfl (OA_v (v := .pointer (some ((⟨b28, 0, none⟩ : Addr).add 14))) rfl (V_fieldAddrN (B := ⟨b28, 0, none⟩) (m := 0) (o := 14) Try.underlying90 rfl nz65 rfl rfl) ?_)
          refine RA_step rfl (OA_r rfl (VR_load_blk (b := b28) (m := 14) (k := 4) Try.underlying65 rfl rfl rfl rfl) ?_)
          obtain ⟨r38, C42, H⟩ := g_bind H
          refine RA_step rfl (OA_callA [2, 3] [0, 1, 2, 3, 4, 5] rfl (X_fn (vs := [.agg #[.int .i64 x2_15.f0, .int .i64 x2_15.f1, .slice A17 x2_15.f2.length c18], .int .i64 ((rd l1 x5_15).f0), .int .i64 ((rd l1 x5_15).f1), .agg #[.int .i64 (((rd l1 x5_15).f4).f0), .int .i64 (((rd l1 x5_15).f4).f1), .bool (((rd l1 x5_15).f4).f2), .bool (((rd l1 x5_15).f4).f3), .bool (((rd l1 x5_15).f4).f4), .bool (((rd l1 x5_15).f4).f5), .bool (((rd l1 x5_15).f4).f6), .bool (((rd l1 x5_15).f4).f7), .bool (((rd l1 x5_15).f4).f8), .bool (((rd l1 x5_15).f4).f9)], .slice A25 ((rd l1 x5_15).f5).length c26]) Try.func42 nm42 rfl rfl) rfl (F42.ok (a0 := x2_15) (A0_0 := A17) (c0_0 := c18) (a1 := (rd l1 x5_15).f0) (a2 := (rd l1 x5_15).f1) (a3 := ((rd l1 x5_15).f4)) (l4 := (rd l1 x5_15).f5) (A4 := A25) (c4 := c26) C42) rfl ?_)
          rintro _ _ ⟨A39, c40, rfl, rfl⟩
          refine RA_step rfl (OA_v (v := .tuple #[.agg #[.int .i64 r38.1.f0, .int .i64 r38.1.f1, .slice A39 r38.1.f2.length c40], .int .i64 r38.2]) rfl (V_move rfl) ?_)
          refine RA_step rfl (OA_v (v := .agg #[.int .i64 r38.1.f0, .int .i64 r38.1.f1, .slice A39 r38.1.f2.length c40]) rfl (V_extract rfl rfl) ?_)
          refine RA_step rfl (OA_v (v := .int .i64 r38.2) rfl (V_extract rfl rfl) ?_)
          refine RA_step rfl (OA_st (b := b30) (m := 0) (k := 6) (vs := [.int .i64 r38.1.f0, .int .i64 r38.1.f1, .slice A39 r38.1.f2.length c40]) (cs' := [.int .i64 r38.1.f0, .int .i64 r38.1.f1, .slice A39 r38.1.f2.length c40]) rfl rfl rfl rfl rfl rfl sz67 rfl rfl ?_)
          refine RA_step rfl (OA_v (v := .int .i64 r38.2) rfl (V_assign rfl) ?_)
          refine RA_nil ?_
          refine inb_normal ?_
          have hr_ := Option.some.inj H
          subst hr_
          exact at_normal ⟨b30, A39, c40, St.mk1 (aeq rfl (aeq rfl (aeq rfl (aeq rfl (aeq rfl aeq0))))) ((Gh.freeze (k := 0) rfl).trans (Gh.sel [6, 0, 1, 2, 3] rfl rfl))⟩
        replace H := g_iff h37 H
        refine SA_condF rfl h37 ?_
        refine SA_seq ?_
        refine SA_region ?_
        refine RA_step rfl (OA_v (v := .bool (decide ((x5_15.tmod 5) = 1))) rfl (V_eql rfl rfl) ?_)
        refine RA_step rfl (OA_v (v := .bool (decide ((x5_15.tmod 5) = 1))) rfl (V_assign rfl) ?_)
        refine RA_nil ?_
        refine at_normal ?_
        by_cases h43 : (x5_15.tmod 5) = 1
        · replace H := g_ift h43 H
          refine SA_condT rfl h43 ?_
          refine SA_region ?_
          refine RA_step rfl (OA_r rfl (VR_loadA_blk (b := b16) (m := 0) (k := 1) (vs := [.int .i64 x2_15.f0, .int .i64 x2_15.f1, .slice A17 x2_15.f2.length c18]) Try.underlying67 rfl sz67 rfl rfl rfl) ?_)
          refine RA_step rfl (OA_v (v := .pointer (some ⟨b28, 0, none⟩)) rfl (V_fieldAddrN (B := ⟨b28, 0, none⟩) (m := 0) (o := 0) Try.underlying90 rfl nz3 rfl rfl) ?_)
          refine RA_step rfl (OA_r rfl (VR_load_blk (b := b28) (m := 0) (k := 4) Try.underlying3 rfl rfl rfl rfl) ?_)
          refine RA_step rfl (OA_v (v := .pointer (some ((⟨b28, 0, none⟩ : Addr).add 1))) rfl (V_fieldAddrN (B := ⟨b28, 0, none⟩) (m := 0) (o := 1) Try.underlying90 rfl nz3 rfl rfl) ?_)
          refine RA_step rfl (OA_r rfl (VR_load_blk (b := b28) (m := 1) (k := 4) Try.underlying3 rfl rfl rfl rfl) ?_)
          refine RA_step rfl (OA_v (v := .pointer (some ((⟨b28, 0, none⟩ : Addr).add 2))) rfl (V_fieldAddrN (B := ⟨b28, 0, none⟩) (m := 0) (o := 2) Try.underlying90 rfl nz3 rfl rfl) ?_)
          refine RA_step rfl (OA_r rfl (VR_load_blk (b := b28) (m := 2) (k := 4) Try.underlying3 rfl rfl rfl rfl) ?_)
          refine RA_step rfl (OA_v (v := .pointer (some ((⟨b28, 0, none⟩ : Addr).add 4))) rfl (V_fieldAddrN (B := ⟨b28, 0, none⟩) (m := 0) (o := 4) Try.underlying90 rfl nz70 rfl rfl) ?_)
          refine RA_step rfl (OA_r rfl (VR_loadA_blk (b := b28) (m := 4) (k := 4) (vs := [.int .i64 (((rd l1 x5_15).f4).f0), .int .i64 (((rd l1 x5_15).f4).f1), .bool (((rd l1 x5_15).f4).f2), .bool (((rd l1 x5_15).f4).f3), .bool (((rd l1 x5_15).f4).f4), .bool (((rd l1 x5_15).f4).f5), .bool (((rd l1 x5_15).f4).f6), .bool (((rd l1 x5_15).f4).f7), .bool (((rd l1 x5_15).f4).f8), .bool (((rd l1 x5_15).f4).f9)]) Try.underlying70 rfl sz70 rfl rfl rfl) ?_)
          obtain ⟨r44, C48, H⟩ := g_bind H
          refine RA_step rfl (OA_callA [2] [0, 1, 2, 3, 4, 5] rfl (X_fn (vs := [.agg #[.int .i64 x2_15.f0, .int .i64 x2_15.f1, .slice A17 x2_15.f2.length c18], .int .i64 ((rd l1 x5_15).f0), .int .i64 ((rd l1 x5_15).f1), .int .i64 ((rd l1 x5_15).f2), .agg #[.int .i64 (((rd l1 x5_15).f4).f0), .int .i64 (((rd l1 x5_15).f4).f1), .bool (((rd l1 x5_15).f4).f2), .bool (((rd l1 x5_15).f4).f3), .bool (((rd l1 x5_15).f4).f4), .bool (((rd l1 x5_15).f4).f5), .bool (((rd l1 x5_15).f4).f6), .bool (((rd l1 x5_15).f4).f7), .bool (((rd l1 x5_15).f4).f8), .bool (((rd l1 x5_15).f4).f9)]]) Try.func37 nm37 rfl rfl) rfl (F37.ok (a0 := x2_15) (A0_0 := A17) (c0_0 := c18) (a1 := (rd l1 x5_15).f0) (a2 := (rd l1 x5_15).f1) (a3 := (rd l1 x5_15).f2) (a4 := ((rd l1 x5_15).f4)) C48) rfl ?_)
          rintro _ _ ⟨A45, c46, rfl, rfl⟩
          refine RA_step rfl (OA_v (v := .tuple #[.agg #[.int .i64 r44.1.f0, .int .i64 r44.1.f1, .slice A45 r44.1.f2.length c46], .int .i64 r44.2]) rfl (V_move rfl) ?_)
          refine RA_step rfl (OA_v (v := .agg #[.int .i64 r44.1.f0, .int .i64 r44.1.f1, .slice A45 r44.1.f2.length c46]) rfl (V_extract rfl rfl) ?_)
          refine RA_step rfl (OA_v (v := .int .i64 r44.2) rfl (V_extract rfl rfl) ?_)
          refine RA_step rfl (OA_st (b := b30) (m := 0) (k := 6) (vs := [.int .i64 r44.1.f0, .int .i64 r44.1.f1, .slice A45 r44.1.f2.length c46]) (cs' := [.int .i64 r44.1.f0, .int .i64 r44.1.f1, .slice A45 r44.1.f2.length c46]) rfl rfl rfl rfl rfl rfl sz67 rfl rfl ?_)
          refine RA_step rfl (OA_v (v := .int .i64 r44.2) rfl (V_assign rfl) ?_)
          refine RA_nil ?_
          refine inb_normal ?_
          have hr_ := Option.some.inj H
          subst hr_
          exact at_normal ⟨b30, A45, c46, St.mk1 (aeq rfl (aeq rfl (aeq rfl (aeq rfl (aeq rfl aeq0))))) ((Gh.freeze (k := 0) rfl).trans (Gh.sel [6, 0, 1, 2, 3] rfl rfl))⟩
        replace H := g_iff h43 H
        refine SA_condF rfl h43 ?_
        refine SA_seq ?_
        refine SA_region ?_
        refine RA_step rfl (OA_v (v := .bool (decide ((x5_15.tmod 5) = 2))) rfl (V_eql rfl rfl) ?_)
        refine RA_step rfl (OA_v (v := .bool (decide ((x5_15.tmod 5) = 2))) rfl (V_assign rfl) ?_)
        refine RA_nil ?_
        refine at_normal ?_
        by_cases h49 : (x5_15.tmod 5) = 2
        · replace H := g_ift h49 H
          refine SA_condT rfl h49 ?_
          refine SA_region ?_
          refine RA_step rfl (OA_r rfl (VR_loadA_blk (b := b16) (m := 0) (k := 1) (vs := [.int .i64 x2_15.f0, .int .i64 x2_15.f1, .slice A17 x2_15.f2.length c18]) Try.underlying67 rfl sz67 rfl rfl rfl) ?_)
          refine RA_step rfl (OA_v (v := .pointer (some ⟨b28, 0, none⟩)) rfl (V_fieldAddrN (B := ⟨b28, 0, none⟩) (m := 0) (o := 0) Try.underlying90 rfl nz3 rfl rfl) ?_)
          refine RA_step rfl (OA_r rfl (VR_load_blk (b := b28) (m := 0) (k := 4) Try.underlying3 rfl rfl rfl rfl) ?_)
          refine RA_step rfl (OA_v (v := .pointer (some ((⟨b28, 0, none⟩ : Addr).add 1))) rfl (V_fieldAddrN (B := ⟨b28, 0, none⟩) (m := 0) (o := 1) Try.underlying90 rfl nz3 rfl rfl) ?_)
          refine RA_step rfl (OA_r rfl (VR_load_blk (b := b28) (m := 1) (k := 4) Try.underlying3 rfl rfl rfl rfl) ?_)
          refine RA_step rfl (OA_v (v := .pointer (some ((⟨b28, 0, none⟩ : Addr).add 3))) rfl (V_fieldAddrN (B := ⟨b28, 0, none⟩) (m := 0) (o := 3) Try.underlying90 rfl nz3 rfl rfl) ?_)
          refine RA_step rfl (OA_r rfl (VR_load_blk (b := b28) (m := 3) (k := 4) Try.underlying3 rfl rfl rfl rfl) ?_)
          refine RA_step rfl (OA_v (v := .pointer (some ((⟨b28, 0, none⟩ : Addr).add 4))) rfl (V_fieldAddrN (B := ⟨b28, 0, none⟩) (m := 0) (o := 4) Try.underlying90 rfl nz70 rfl rfl) ?_)
          refine RA_step rfl (OA_r rfl (VR_loadA_blk (b := b28) (m := 4) (k := 4) (vs := [.int .i64 (((rd l1 x5_15).f4).f0), .int .i64 (((rd l1 x5_15).f4).f1), .bool (((rd l1 x5_15).f4).f2), .bool (((rd l1 x5_15).f4).f3), .bool (((rd l1 x5_15).f4).f4), .bool (((rd l1 x5_15).f4).f5), .bool (((rd l1 x5_15).f4).f6), .bool (((rd l1 x5_15).f4).f7), .bool (((rd l1 x5_15).f4).f8), .bool (((rd l1 x5_15).f4).f9)]) Try.underlying70 rfl sz70 rfl rfl rfl) ?_)
          obtain ⟨r50, C54, H⟩ := g_bind H
          refine RA_step rfl (OA_callA [2] [0, 1, 2, 3, 4, 5] rfl (X_fn (vs := [.agg #[.int .i64 x2_15.f0, .int .i64 x2_15.f1, .slice A17 x2_15.f2.length c18], .int .i64 ((rd l1 x5_15).f0), .int .i64 ((rd l1 x5_15).f1), .int .i64 ((rd l1 x5_15).f3), .agg #[.int .i64 (((rd l1 x5_15).f4).f0), .int .i64 (((rd l1 x5_15).f4).f1), .bool (((rd l1 x5_15).f4).f2), .bool (((rd l1 x5_15).f4).f3), .bool (((rd l1 x5_15).f4).f4), .bool (((rd l1 x5_15).f4).f5), .bool (((rd l1 x5_15).f4).f6), .bool (((rd l1 x5_15).f4).f7), .bool (((rd l1 x5_15).f4).f8), .bool (((rd l1 x5_15).f4).f9)]]) Try.func43 nm43 rfl rfl) rfl (F43.ok (a0 := x2_15) (A0_0 := A17) (c0_0 := c18) (a1 := (rd l1 x5_15).f0) (a2 := (rd l1 x5_15).f1) (a3 := (rd l1 x5_15).f3) (a4 := ((rd l1 x5_15).f4)) C54) rfl ?_)
          rintro _ _ ⟨A51, c52, rfl, rfl⟩
          refine RA_step rfl (OA_v (v := .tuple #[.agg #[.int .i64 r50.1.f0, .int .i64 r50.1.f1, .slice A51 r50.1.f2.length c52], .int .i64 r50.2]) rfl (V_move rfl) ?_)
          refine RA_step rfl (OA_v (v := .agg #[.int .i64 r50.1.f0, .int .i64 r50.1.f1, .slice A51 r50.1.f2.length c52]) rfl (V_extract rfl rfl) ?_)
          refine RA_step rfl (OA_v (v := .int .i64 r50.2) rfl (V_extract rfl rfl) ?_)
          refine RA_step rfl (OA_st (b := b30) (m := 0) (k := 6) (vs := [.int .i64 r50.1.f0, .int .i64 r50.1.f1, .slice A51 r50.1.f2.length c52]) (cs' := [.int .i64 r50.1.f0, .int .i64 r50.1.f1, .slice A51 r50.1.f2.length c52]) rfl rfl rfl rfl rfl rfl sz67 rfl rfl ?_)
          refine RA_step rfl (OA_v (v := .int .i64 r50.2) rfl (V_assign rfl) ?_)
          refine RA_nil ?_
          refine inb_normal ?_
          have hr_ := Option.some.inj H
          subst hr_
          exact at_normal ⟨b30, A51, c52, St.mk1 (aeq rfl (aeq rfl (aeq rfl (aeq rfl (aeq rfl aeq0))))) ((Gh.freeze (k := 0) rfl).trans (Gh.sel [6, 0, 1, 2, 3] rfl rfl))⟩
        replace H := g_iff h49 H
        refine SA_condF rfl h49 ?_
        refine SA_seq ?_
        refine SA_region ?_
        refine RA_step rfl (OA_v (v := .bool (decide ((x5_15.tmod 5) = 3))) rfl (V_eql rfl rfl) ?_)
        refine RA_step rfl (OA_v (v := .bool (decide ((x5_15.tmod 5) = 3))) rfl (V_assign rfl) ?_)
        refine RA_nil ?_
        refine at_normal ?_
        by_cases h55 : (x5_15.tmod 5) = 3
        · replace H := g_ift h55 H
          refine SA_condT rfl h55 ?_
          refine SA_region ?_
          refine RA_step rfl (OA_r rfl (VR_loadA_blk (b := b16) (m := 0) (k := 1) (vs := [.int .i64 x2_15.f0, .int .i64 x2_15.f1, .slice A17 x2_15.f2.length c18]) Try.underlying67 rfl sz67 rfl rfl rfl) ?_)
          refine RA_step rfl (OA_v (v := .pointer (some ⟨b28, 0, none⟩)) rfl (V_fieldAddrN (B := ⟨b28, 0, none⟩) (m := 0) (o := 0) Try.underlying90 rfl nz3 rfl rfl) ?_)
          refine RA_step rfl (OA_r rfl (VR_load_blk (b := b28) (m := 0) (k := 4) Try.underlying3 rfl rfl rfl rfl) ?_)
          refine RA_step rfl (OA_v (v := .pointer (some ((⟨b28, 0, none⟩ : Addr).add 2))) rfl (V_fieldAddrN (B := ⟨b28, 0, none⟩) (m := 0) (o := 2) Try.underlying90 rfl nz3 rfl rfl) ?_)
          refine RA_step rfl (OA_r rfl (VR_load_blk (b := b28) (m := 2) (k := 4) Try.underlying3 rfl rfl rfl rfl) ?_)
          refine RA_step rfl (OA_v (v := .pointer (some ((⟨b28, 0, none⟩ : Addr).add 3))) rfl (V_fieldAddrN (B := ⟨b28, 0, none⟩) (m := 0) (o := 3) Try.underlying90 rfl nz3 rfl rfl) ?_)
          refine RA_step rfl (OA_r rfl (VR_load_blk (b := b28) (m := 3) (k := 4) Try.underlying3 rfl rfl rfl rfl) ?_)
          refine RA_step rfl (OA_v (v := .pointer (some ((⟨b28, 0, none⟩ : Addr).add 4))) rfl (V_fieldAddrN (B := ⟨b28, 0, none⟩) (m := 0) (o := 4) Try.underlying90 rfl nz70 rfl rfl) ?_)
          refine RA_step rfl (OA_r rfl (VR_loadA_blk (b := b28) (m := 4) (k := 4) (vs := [.int .i64 (((rd l1 x5_15).f4).f0), .int .i64 (((rd l1 x5_15).f4).f1), .bool (((rd l1 x5_15).f4).f2), .bool (((rd l1 x5_15).f4).f3), .bool (((rd l1 x5_15).f4).f4), .bool (((rd l1 x5_15).f4).f5), .bool (((rd l1 x5_15).f4).f6), .bool (((rd l1 x5_15).f4).f7), .bool (((rd l1 x5_15).f4).f8), .bool (((rd l1 x5_15).f4).f9)]) Try.underlying70 rfl sz70 rfl rfl rfl) ?_)
          obtain ⟨r56, C60, H⟩ := g_bind H
          refine RA_step rfl (OA_callA [2] [0, 1, 2, 3, 4, 5] rfl (X_fn (vs := [.agg #[.int .i64 x2_15.f0, .int .i64 x2_15.f1, .slice A17 x2_15.f2.length c18], .int .i64 ((rd l1 x5_15).f0), .int .i64 ((rd l1 x5_15).f2), .int .i64 ((rd l1 x5_15).f3), .agg #[.int .i64 (((rd l1 x5_15).f4).f0), .int .i64 (((rd l1 x5_15).f4).f1), .bool (((rd l1 x5_15).f4).f2), .bool (((rd l1 x5_15).f4).f3), .bool (((rd l1 x5_15).f4).f4), .bool (((rd l1 x5_15).f4).f5), .bool (((rd l1 x5_15).f4).f6), .bool (((rd l1 x5_15).f4).f7), .bool (((rd l1 x5_15).f4).f8), .bool (((rd l1 x5_15).f4).f9)]]) Try.func33 nm33 rfl rfl) rfl (F33.ok (a0 := x2_15) (A0_0 := A17) (c0_0 := c18) (a1 := (rd l1 x5_15).f0) (a2 := (rd l1 x5_15).f2) (a3 := (rd l1 x5_15).f3) (a4 := ((rd l1 x5_15).f4)) C60) rfl ?_)
          rintro _ _ ⟨A57, c58, rfl, rfl⟩
          refine RA_step rfl (OA_v (v := .tuple #[.agg #[.int .i64 r56.1.f0, .int .i64 r56.1.f1, .slice A57 r56.1.f2.length c58], .int .i64 r56.2]) rfl (V_move rfl) ?_)
          refine RA_step rfl (OA_v (v := .agg #[.int .i64 r56.1.f0, .int .i64 r56.1.f1, .slice A57 r56.1.f2.length c58]) rfl (V_extract rfl rfl) ?_)
          refine RA_step rfl (OA_v (v := .int .i64 r56.2) rfl (V_extract rfl rfl) ?_)
          refine RA_step rfl (OA_st (b := b30) (m := 0) (k := 6) (vs := [.int .i64 r56.1.f0, .int .i64 r56.1.f1, .slice A57 r56.1.f2.length c58]) (cs' := [.int .i64 r56.1.f0, .int .i64 r56.1.f1, .slice A57 r56.1.f2.length c58]) rfl rfl rfl rfl rfl rfl sz67 rfl rfl ?_)
          refine RA_step rfl (OA_v (v := .int .i64 r56.2) rfl (V_assign rfl) ?_)
          refine RA_nil ?_
          refine inb_normal ?_
          have hr_ := Option.some.inj H
          subst hr_
          exact at_normal ⟨b30, A57, c58, St.mk1 (aeq rfl (aeq rfl (aeq rfl (aeq rfl (aeq rfl aeq0))))) ((Gh.freeze (k := 0) rfl).trans (Gh.sel [6, 0, 1, 2, 3] rfl rfl))⟩
        replace H := g_iff h55 H
        refine SA_condF rfl h55 ?_
        refine SA_seq ?_
        refine SA_region ?_
        refine RA_step rfl (OA_v (v := .bool (decide ((x5_15.tmod 5) = 4))) rfl (V_eql rfl rfl) ?_)
        refine RA_step rfl (OA_v (v := .bool (decide ((x5_15.tmod 5) = 4))) rfl (V_assign rfl) ?_)
        refine RA_nil ?_
        refine at_normal ?_
        refine SA.of_St (l := [(1, .slice A1 l1.length c1), (2, .pointer (some ⟨b16, 0, none⟩)), (5, .int .i64 x5_15), (6, .pointer (some ⟨b28, 0, none⟩)), (7, .pointer (some ⟨b30, 0, none⟩)), (8, .int .i64 0), (91, .bool (decide ((x5_15.tmod 5) = 4)))]) (B := [Ro k90 A1 c1 l1, Blk b16 67 [.int .i64 x2_15.f0, .int .i64 x2_15.f1, .slice A17 x2_15.f2.length c18], Ro k76 A17 c18 x2_15.f2, Blk b28 90 (.int .i64 ((rd l1 x5_15).f0) :: .int .i64 ((rd l1 x5_15).f1) :: .int .i64 ((rd l1 x5_15).f2) :: .int .i64 ((rd l1 x5_15).f3) :: .int .i64 (((rd l1 x5_15).f4).f0) :: .int .i64 (((rd l1 x5_15).f4).f1) :: .bool (((rd l1 x5_15).f4).f2) :: .bool (((rd l1 x5_15).f4).f3) :: .bool (((rd l1 x5_15).f4).f4) :: .bool (((rd l1 x5_15).f4).f5) :: .bool (((rd l1 x5_15).f4).f6) :: .bool (((rd l1 x5_15).f4).f7) :: .bool (((rd l1 x5_15).f4).f8) :: .bool (((rd l1 x5_15).f4).f9) :: .slice A25 ((rd l1 x5_15).f5).length c26 :: []), Ro k76 A25 c26 ((rd l1 x5_15).f5), Blk b30 67 [.int .i64 x2_15.f0, .int .i64 x2_15.f1, .slice A17 x2_15.f2.length c18]]) (St.mk1 (aeq rfl (aeq rfl (aeq rfl (aeq rfl (aeq rfl (aeq rfl (aeq rfl aeq0))))))) (Gh.sel [0, 1, 2, 4, 3, 5] (by kernel_rfl) (by kernel_rfl))) fun junk => ?_
        by_cases h61 : (x5_15.tmod 5) = 4
        · replace H := g_ift h61 H
          refine SA_condT rfl h61 ?_
          refine SA_region ?_
          refine RA_step rfl (OA_r rfl (VR_loadA_blk (b := b16) (m := 0) (k := 1) (vs := [.int .i64 x2_15.f0, .int .i64 x2_15.f1, .slice A17 x2_15.f2.length c18]) Try.underlying67 rfl sz67 rfl rfl rfl) ?_)
          refine RA_step rfl (OA_v (v := .pointer (some ((⟨b28, 0, none⟩ : Addr).add 2))) rfl (V_fieldAddrN (B := ⟨b28, 0, none⟩) (m := 0) (o := 2) Try.underlying90 rfl nz3 rfl rfl) ?_)
          refine RA_step rfl (OA_r rfl (VR_load_blk (b := b28) (m := 2) (k := 3) Try.underlying3 rfl rfl rfl rfl) ?_)
          refine RA_step rfl (OA_v (v := .pointer (some ((⟨b28, 0, none⟩ : Addr).add 1))) rfl (V_fieldAddrN (B := ⟨b28, 0, none⟩) (m := 0) (o := 1) Try.underlying90 rfl nz3 rfl rfl) ?_)
          refine RA_step rfl (OA_r rfl (VR_load_blk (b := b28) (m := 1) (k := 3) Try.underlying3 rfl rfl rfl rfl) ?_)
          refine RA_step rfl (OA_v (v := .pointer (some ((⟨b28, 0, none⟩ : Addr).add 4))) rfl (V_fieldAddrN (B := ⟨b28, 0, none⟩) (m := 0) (o := 4) Try.underlying90 rfl nz70 rfl rfl) ?_)
          refine RA_step rfl (OA_r rfl (VR_loadA_blk (b := b28) (m := 4) (k := 3) (vs := [.int .i64 (((rd l1 x5_15).f4).f0), .int .i64 (((rd l1 x5_15).f4).f1), .bool (((rd l1 x5_15).f4).f2), .bool (((rd l1 x5_15).f4).f3), .bool (((rd l1 x5_15).f4).f4), .bool (((rd l1 x5_15).f4).f5), .bool (((rd l1 x5_15).f4).f6), .bool (((rd l1 x5_15).f4).f7), .bool (((rd l1 x5_15).f4).f8), .bool (((rd l1 x5_15).f4).f9)]) Try.underlying70 rfl sz70 rfl rfl rfl) ?_)
          obtain ⟨r62, C66, H⟩ := g_bind H
          refine RA_step rfl (OA_callA [2] [0, 1, 2, 3, 4, 5] rfl (X_fn (vs := [.agg #[.int .i64 x2_15.f0, .int .i64 x2_15.f1, .slice A17 x2_15.f2.length c18], .int .i64 ((rd l1 x5_15).f2), .int .i64 ((rd l1 x5_15).f1), .agg #[.int .i64 (((rd l1 x5_15).f4).f0), .int .i64 (((rd l1 x5_15).f4).f1), .bool (((rd l1 x5_15).f4).f2), .bool (((rd l1 x5_15).f4).f3), .bool (((rd l1 x5_15).f4).f4), .bool (((rd l1 x5_15).f4).f5), .bool (((rd l1 x5_15).f4).f6), .bool (((rd l1 x5_15).f4).f7), .bool (((rd l1 x5_15).f4).f8), .bool (((rd l1 x5_15).f4).f9)]]) Try.func38 nm38 rfl rfl) rfl (F38.ok (a0 := x2_15) (A0_0 := A17) (c0_0 := c18) (a1 := (rd l1 x5_15).f2) (a2 := (rd l1 x5_15).f1) (a3 := ((rd l1 x5_15).f4)) C66) rfl ?_)
          rintro _ _ ⟨A63, c64, rfl, rfl⟩
          refine RA_step rfl (OA_v (v := .tuple #[.agg #[.int .i64 r62.1.f0, .int .i64 r62.1.f1, .slice A63 r62.1.f2.length c64], .int .i64 r62.2]) rfl (V_move rfl) ?_)
          refine RA_step rfl (OA_v (v := .agg #[.int .i64 r62.1.f0, .int .i64 r62.1.f1, .slice A63 r62.1.f2.length c64]) rfl (V_extract rfl rfl) ?_)
          refine RA_step rfl (OA_v (v := .int .i64 r62.2) rfl (V_extract rfl rfl) ?_)
          refine RA_step rfl (OA_st (b := b30) (m := 0) (k := 6) (vs := [.int .i64 r62.1.f0, .int .i64 r62.1.f1, .slice A63 r62.1.f2.length c64]) (cs' := [.int .i64 r62.1.f0, .int .i64 r62.1.f1, .slice A63 r62.1.f2.length c64]) rfl rfl rfl rfl rfl rfl sz67 rfl rfl ?_)
          refine RA_step rfl (OA_v (v := .int .i64 r62.2) rfl (V_assign rfl) ?_)
          refine RA_nil ?_
          refine inb_normal ?_
          have hr_ := Option.some.inj H
          subst hr_
          exact at_normal ⟨b30, A63, c64, St.mk1 (aeq rfl (aeq rfl (aeq rfl (aeq rfl (aeq rfl aeq0))))) ((Gh.freeze (k := 0) rfl).trans (Gh.sel [6, 0, 1, 2, 3] rfl rfl))⟩
        replace H := g_iff h61 H
        refine SA_condF rfl h61 ?_
        refine SA_skip ?_
        refine inb_normal ?_
        have hr_ := Option.some.inj H
        subst hr_
        exact at_normal ⟨b30, A17, c18, St.mk1 (aeq rfl (aeq rfl (aeq rfl (aeq rfl (aeq rfl aeq0))))) (Gh.sel [5, 2, 0, 1, 2] rfl rfl)⟩
      rintro e ds As ⟨b33, A34, c35, hst67⟩
      clear H
      have H := Bt32
      clear Bt32
      refine at_normal ?_
      refine SA.of_St hst67 fun junk => ?_
      refine SA_seq ?_
      refine SA_seq ?_
      refine SA_region ?_
      refine RA_step rfl (OA_v (v := .int .i64 t32.2) rfl (V_move rfl) ?_)
      refine RA_step rfl (OA_v (v := .bool (decide (t32.2 ≠ 0))) rfl (V_neq rfl rfl) ?_)
      refine RA_nil ?_
      refine at_normal ?_
      by_cases h68 : t32.2 ≠ 0
      · replace H := g_ift h68 H
        refine SA_condT rfl h68 ?_
        refine SA_exit ?_
        refine thn_exit ?_
        refine inb_hit ?_
        refine at_normal ?_
        refine SA_region ?_
        refine RA_step rfl (OA_v (v := .int .i64 x5_15) rfl (V_move rfl) ?_)
        refine RA_step rfl (OA_v (v := .int .i64 (IntKind.i64.wrap (x5_15 + 1))) rfl (V_add rfl rfl) ?_)
        obtain ⟨n69, hn69, H⟩ := g_lt H
        refine RA_step rfl (OA_v (v := .int .i64 n69) rfl (V_assign (v := .int .i64 n69) (congrArg (Value.int .i64) hn69.symm)) ?_)
        refine RA_nil ?_
        exact at_normal ⟨k20, Nat.lt_succ_self _, _, _, b16, A17, c18, H, St.mk1 (aeq rfl (aeq rfl (aeq rfl aeq0))) (Gh.sel [2, 3, 4] rfl rfl)⟩
      replace H := g_iff h68 H
      refine SA_condF rfl h68 ?_
      refine SA_skip ?_
      refine at_normal ?_
      refine SA_seq ?_
      refine SA_seq ?_
      refine SA_region ?_
      refine RA_step rfl (OA_r rfl (VR_loadA_blk (b := b33) (m := 0) (k := 0) (vs := [.int .i64 t32.1.f0, .int .i64 t32.1.f1, .slice A34 t32.1.f2.length c35]) Try.underlying67 rfl sz67 rfl rfl rfl) ?_)
      obtain ⟨r70, C78, H⟩ := g_bind H
      refine RA_step rfl (OA_callA [1] [0, 1, 2, 3, 4] rfl (X_fn (vs := [.agg #[.int .i64 t32.1.f0, .int .i64 t32.1.f1, .slice A34 t32.1.f2.length c35]]) Try.func41 nm41 rfl rfl) rfl (F41.ok (a0 := t32.1) (A0_0 := A34) (c0_0 := c35) C78) rfl ?_)
      rintro _ _ ⟨rfl, rfl⟩
      refine RA_step rfl (OA_v (v := .bool (!r70)) rfl (V_not rfl) ?_)
      refine RA_step rfl (OA_v (v := .bool (!r70)) rfl (V_move rfl) ?_)
      obtain ⟨q71, H, Bq71⟩ := g_bind H
      refine RA_cut 4 (fun e ds As => St [(1, .slice A1 l1.length c1), (2, .pointer (some ⟨b16, 0, none⟩)), (5, .int .i64 x5_15), (7, .pointer (some ⟨b33, 0, none⟩)), (113, .bool q71)] [Ro k90 A1 c1 l1, Blk b16 67 [.int .i64 x2_15.f0, .int .i64 x2_15.f1, .slice A17 x2_15.f2.length c18], Ro k76 A17 c18 x2_15.f2, Blk b33 67 [.int .i64 t32.1.f0, .int .i64 t32.1.f1, .slice A34 t32.1.f2.length c35], Ro k76 A34 c35 t32.1.f2] e ds As) ?_ ?_
      · by_cases h72 : (!r70) = true
        · replace H := g_ift h72 H
          refine RA_noB rfl rfl rfl rfl (h72) rfl ?_
          refine RA_noB rfl rfl rfl rfl (h72) rfl ?_
          refine RA_noB rfl rfl rfl rfl (h72) rfl ?_
          refine RA_step rfl (OA_v rfl (V_pickT rfl (h72) rfl) ?_)
          have hr_ := Option.some.inj H
          subst hr_
          refine RA_nil ?_
          exact at_normal (St.mk1 (aeq rfl (aeq rfl (aeq rfl (aeq rfl (aeq rfl aeq0))))) (Gh.sel [2, 3, 4, 0, 1] rfl rfl))
        replace H := g_iff h72 H
        refine RA_yesB rfl rfl rfl rfl (bno h72) (OA_r rfl (VR_loadA_blk (b := b33) (m := 0) (k := 0) (vs := [.int .i64 t32.1.f0, .int .i64 t32.1.f1, .slice A34 t32.1.f2.length c35]) Try.underlying67 rfl sz67 rfl rfl rfl) ?_)
        obtain ⟨r73, C74, H⟩ := g_bind H
        refine RA_yesB rfl rfl rfl rfl (bno h72) (OA_callA [1] [0, 1, 2, 3, 4] rfl (X_fn (vs := [.agg #[.int .i64 t32.1.f0, .int .i64 t32.1.f1, .slice A34 t32.1.f2.length c35]]) Try.func30 nm30 rfl rfl) rfl (F30.ok (a0 := t32.1) (A0_0 := A34) (c0_0 := c35) C74) rfl ?_)
        rintro _ _ ⟨rfl, rfl⟩
        refine RA_yesB rfl rfl rfl rfl (bno h72) (OA_v (v := .bool (!r73)) rfl (V_not rfl) ?_)
        refine RA_step rfl (OA_v rfl (V_pickF rfl (bno h72) rfl) ?_)
        have hr_ := Option.some.inj H
        subst hr_
        refine RA_nil ?_
        exact at_normal (St.mk1 (aeq rfl (aeq rfl (aeq rfl (aeq rfl (aeq rfl aeq0))))) (Gh.sel [2, 3, 4, 0, 1] rfl rfl))
      rintro e ds As hst75
      clear H
      have H := Bq71
      clear Bq71
      refine RA_nil ?_
      refine at_normal ?_
      refine SA.of_St hst75 fun junk => ?_
      by_cases h76 : q71 = true
      · replace H := g_ift h76 H
        refine SA_condTb rfl h76 ?_
        refine SA_seq ?_
        refine SA_region ?_
        refine RA_step rfl (OA_v (v := .bool false) rfl (V_assign rfl) ?_)
        refine RA_nil ?_
        refine at_normal ?_
        refine SA_ret ?_
        refine thn_ret ?_
        refine inb_ret ?_
        refine thn_ret ?_
        refine thn_ret ?_
        refine inb_ret ?_
        refine thn_ret ?_
        refine thn_ret ?_
        have hr_ := Option.some.inj H
        subst hr_
        have hb_ := el_ret Bt14
        have hr_ := Option.some.inj hb_
        clear hb_
        subst hr_
        exact BQ_R1 [] rfl rfl (Gh.sel [] rfl rfl) ⟨rfl, rfl⟩
      replace H := g_iff h76 H
      refine SA_condFb rfl h76 ?_
      refine SA_skip ?_
      refine at_normal ?_
      refine SA_region ?_
      refine RA_step rfl (OA_r rfl (VR_loadA_blk (b := b33) (m := 0) (k := 3) (vs := [.int .i64 t32.1.f0, .int .i64 t32.1.f1, .slice A34 t32.1.f2.length c35]) Try.underlying67 rfl sz67 rfl rfl rfl) ?_)
      refine RA_step rfl (OA_st (b := b16) (m := 0) (k := 1) (vs := [.int .i64 t32.1.f0, .int .i64 t32.1.f1, .slice A34 t32.1.f2.length c35]) (cs' := [.int .i64 t32.1.f0, .int .i64 t32.1.f1, .slice A34 t32.1.f2.length c35]) rfl rfl rfl rfl rfl rfl sz67 rfl rfl ?_)
      refine RA_nil ?_
      refine inb_normal ?_
      refine at_normal ?_
      refine SA_region ?_
      refine RA_step rfl (OA_v (v := .int .i64 x5_15) rfl (V_move rfl) ?_)
      refine RA_step rfl (OA_v (v := .int .i64 (IntKind.i64.wrap (x5_15 + 1))) rfl (V_add rfl rfl) ?_)
      obtain ⟨n77, hn77, H⟩ := g_lt H
      refine RA_step rfl (OA_v (v := .int .i64 n77) rfl (V_assign (v := .int .i64 n77) (congrArg (Value.int .i64) hn77.symm)) ?_)
      refine RA_nil ?_
      exact at_normal ⟨k20, Nat.lt_succ_self _, _, _, b16, A34, c35, H, St.mk1 (aeq rfl (aeq rfl (aeq rfl aeq0))) (Gh.sel [0, 1, 4] rfl rfl)⟩
    replace H := g_iff h22 H
    refine SA_condF rfl h22 ?_
    refine SA_exit ?_
    refine thn_exit ?_
    refine thn_exit ?_
    refine inb_hit ?_
    have hr_ := Option.some.inj H
    subst hr_
    exact at_normal ⟨(), rfl, St.mk1 aeq0 (Gh.sel [] rfl rfl)⟩
  rintro e ds As ⟨s15, ht, hst79⟩
  clear H
  subst ht
  replace Bt14 := el_go Bt14
  have H := Bt14
  clear Bt14
  refine at_normal ?_
  refine SA.of_St hst79 fun junk => ?_
  refine SA_seq ?_
  refine SA_region ?_
  obtain ⟨r80, C81, H⟩ := g_bind H
  refine RA_step rfl (OA_callA [] [] rfl (X_fn (vs := []) Try.func31 nm31 rfl rfl) rfl (F31.ok C81) rfl ?_)
  rintro _ _ ⟨rfl, rfl⟩
  refine RA_step rfl (OA_v (v := .bool r80) rfl (V_assign rfl) ?_)
  refine RA_nil ?_
  refine at_normal ?_
  refine SA_ret ?_
  have hr_ := Option.some.inj H
  subst hr_
  exact BQ_R1 [] rfl rfl (Gh.sel [] rfl rfl) ⟨rfl, rfl⟩
end Go.Proofs.Ytodkeoibebimgaa.Gr

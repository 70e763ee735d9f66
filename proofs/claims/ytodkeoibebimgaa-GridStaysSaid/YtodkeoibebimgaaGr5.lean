/- What functions compute, and that they do: 30, 36, 82, 83, 83b0. -/
import Derived.Test.YtodkeoibebimgaaGr0
import Derived.Test.YtodkeoibebimgaaGr1
import Derived.Test.YtodkeoibebimgaaGr4
namespace Go.Proofs.Ytodkeoibebimgaa.Gr
open Go Go.RowKit Go.Proofs.Ytodkeoibebimgaa.SL
set_option linter.unusedVariables false
set_option linter.unusedSimpArgs false
attribute [local irreducible] IntKind.wrap minI maxI shrI shlI andI orI xorI andNotI cplI rd sub bytesOf strOf slA
/-! ### function 30: wayfarer/wayfarerref15.May -/
def F30.l0 (a0 : S67) : Nat → Int → Option (Out (Bool) (Unit))
  | 0, _ => none
  | k + 1, x3_15 => if x3_15 < (a0.f2.length : Int) then (if 0 ≤ x3_15 ∧ x3_15 < (a0.f2.length : Int) then ((F68.f k (rd a0.f2 x3_15)).bind (fun r21 => if (!r21) = true then (some (Out.ret (false))) else (if a0.f0 ≠ 0 then ((if (x3_15.tmod a0.f0) > 0 then (if 0 ≤ (IntKind.i64.wrap (x3_15 - 1)) ∧ (IntKind.i64.wrap (x3_15 - 1)) < (a0.f2.length : Int) then (some (decide (((rd a0.f2 (IntKind.i64.wrap (x3_15 - 1))).f2) = 2))) else none) else (some false) : Option Bool).bind (fun q24 => (if 0 ≤ x3_15 ∧ x3_15 < (a0.f2.length : Int) then (if (decide (((rd a0.f2 x3_15).f2) = 0)) ≠ q24 then (some true) else (if q24 = true then (if 0 ≤ x3_15 ∧ x3_15 < (a0.f2.length : Int) then (if 0 ≤ (IntKind.i64.wrap (x3_15 - 1)) ∧ (IntKind.i64.wrap (x3_15 - 1)) < (a0.f2.length : Int) then (some (decide (((rd a0.f2 x3_15).f3) ≠ ((rd a0.f2 (IntKind.i64.wrap (x3_15 - 1))).f3)))) else none) else none) else (some false))) else none : Option (Bool)).bind (fun t29 => if t29 = true then (some (Out.ret (false))) else ((if 0 ≤ x3_15 ∧ x3_15 < (a0.f2.length : Int) then (if ((rd a0.f2 x3_15).f2) = 2 then (if a0.f0 ≠ 0 then (some (decide ((x3_15.tmod a0.f0) = (IntKind.i64.wrap (a0.f0 - 1))))) else none) else (some false)) else none : Option (Bool)).bind (fun t1715 => if t1715 = true then (some (Out.ret (false))) else (lt (IntKind.i64.wrap (x3_15 + 1)) fun n2740 => F30.l0 a0 k n2740)))))) else none))) else none) else (some (Out.go ()))
def F30.f (k : Nat) (a0 : S67) : Option (Bool) := (F67.f a0.f0).bind (fun r4 => (if (!r4) = true then (some true) else ((F67.f a0.f1).bind (fun r7 => some (!r7))) : Option Bool).bind (fun q5 => lt (q5 || (decide ((a0.f2.length : Int) ≠ (IntKind.i64.wrap (a0.f0 * a0.f1))))) fun q10 => if q10 = true then (some (false)) else ((F30.l0 a0 k 0 : Option (Out (Bool) (Unit))).bind (fun t14 => Out.el t14 (fun r_ => some r_) (fun s15 => some (true))))))
set_option maxHeartbeats 2000000 in
set_option maxRecDepth 100000 in
theorem F30.ok {k : Nat} {a0 : S67} {A0_0 : Option Addr} {c0_0 : Nat} {r : Bool} (H : F30.f k a0 = some r) : SCA Try.prog 30 #[.agg #[.int .i64 a0.f0, .int .i64 a0.f1, .slice A0_0 a0.f2.length c0_0]] [Ro k76 A0_0 c0_0 a0.f2] (fun v B => v = .bool r ∧ B = []) := by
  refine SCA_of_body Try.func30 rfl rfl ?_
  unfold F30.f at H
  refine SA_seq ?_
  refine SA_region ?_
  refine RA_step rfl (OA_box rfl rfl fun b2 => ?_)
  refine RA_step rfl (OA_v (v := .bool false) rfl (V_assign rfl) ?_)
  refine RA_nil ?_
  refine at_normal ?_
  refine SA_seq ?_
  refine SA_seq ?_
  refine SA_region ?_
  refine RA_step rfl (OA_v (v := .pointer (some ⟨b2, 0, none⟩)) rfl (V_fieldAddrN (B := ⟨b2, 0, none⟩) (m := 0) (o := 0) Try.underlying67 rfl nz3 rfl rfl) ?_)
  refine RA_step rfl (OA_r rfl (VR_load_blk (b := b2) (m := 0) (k := 1) Try.underlying3 rfl rfl rfl rfl) ?_)
  obtain ⟨r4, C2743, H⟩ := g_bind H
  refine RA_step rfl (OA_callA [] [0, 1] rfl (X_fn (vs := [.int .i64 a0.f0]) Try.func67 nm67 rfl rfl) rfl (F67.ok (a0 := a0.f0) C2743) rfl ?_)
  rintro _ _ ⟨rfl, rfl⟩
  refine RA_step rfl (OA_v (v := .bool (!r4)) rfl (V_not rfl) ?_)
  refine RA_step rfl (OA_v (v := .bool (!r4)) rfl (V_move rfl) ?_)
  obtain ⟨q5, H, Bq5⟩ := g_bind H
  refine RA_cut 5 (fun e ds As => St [(1, .pointer (some ⟨b2, 0, none⟩)), (14, .bool q5)] [Blk b2 67 [.int .i64 a0.f0, .int .i64 a0.f1, .slice A0_0 a0.f2.length c0_0], Ro k76 A0_0 c0_0 a0.f2] e ds As) ?_ ?_
  · by_cases h6 : (!r4) = true
    · replace H := g_ift h6 H
      refine RA_noB rfl rfl rfl rfl (h6) rfl ?_
      refine RA_noB rfl rfl rfl rfl (h6) rfl ?_
      refine RA_noB rfl rfl rfl rfl (h6) rfl ?_
      refine RA_noB rfl rfl rfl rfl (h6) rfl ?_
      refine RA_step rfl (OA_v rfl (V_pickT rfl (h6) rfl) ?_)
      have hr_ := Option.some.inj H
      subst hr_
      refine RA_nil ?_
      exact at_normal (St.mk1 (aeq rfl (aeq rfl aeq0)) (Gh.sel [1, 0] rfl rfl))
    replace H := g_iff h6 H
    refine RA_yesB rfl rfl rfl rfl (bno h6) (OA_v (v := .pointer (some ((⟨b2, 0, none⟩ : Addr).add 1))) rfl (V_fieldAddrN (B := ⟨b2, 0, none⟩) (m := 0) (o := 1) Try.underlying67 rfl nz3 rfl rfl) ?_)
    refine RA_yesB rfl rfl rfl rfl (bno h6) (OA_r rfl (VR_load_blk (b := b2) (m := 1) (k := 1) Try.underlying3 rfl rfl rfl rfl) ?_)
    obtain ⟨r7, C8, H⟩ := g_bind H
    refine RA_yesB rfl rfl rfl rfl (bno h6) (OA_callA [] [0, 1] rfl (X_fn (vs := [.int .i64 a0.f1]) Try.func67 nm67 rfl rfl) rfl (F67.ok (a0 := a0.f1) C8) rfl ?_)
    rintro _ _ ⟨rfl, rfl⟩
    refine RA_yesB rfl rfl rfl rfl (bno h6) (OA_v (v := .bool (!r7)) rfl (V_not rfl) ?_)
    refine RA_step rfl (OA_v rfl (V_pickF rfl (bno h6) rfl) ?_)
    have hr_ := Option.some.inj H
    subst hr_
    refine RA_nil ?_
    exact at_normal (St.mk1 (aeq rfl (aeq rfl aeq0)) (Gh.sel [1, 0] rfl rfl))
  rintro e ds As hst9
  clear H
  have H := Bq5
  clear Bq5
  refine RA.of_St rfl hst9 fun junk => ?_
  refine RA_step rfl (OA_v (v := .bool q5) rfl (V_move rfl) ?_)
  obtain ⟨q10, hq10, H⟩ := g_lt H
  refine RA_cut 10 (fun e ds As => St [(1, .pointer (some ⟨b2, 0, none⟩)), (25, .bool q10)] [Blk b2 67 [.int .i64 a0.f0, .int .i64 a0.f1, .slice A0_0 a0.f2.length c0_0], Ro k76 A0_0 c0_0 a0.f2] e ds As) ?_ ?_
  · by_cases h11 : q5 = true
    · refine RA_noB rfl rfl rfl rfl (h11) rfl ?_
      refine RA_noB rfl rfl rfl rfl (h11) rfl ?_
      refine RA_noB rfl rfl rfl rfl (h11) rfl ?_
      refine RA_noB rfl rfl rfl rfl (h11) rfl ?_
      refine RA_noB rfl rfl rfl rfl (h11) rfl ?_
      refine RA_noB rfl rfl rfl rfl (h11) rfl ?_
      refine RA_noB rfl rfl rfl rfl (h11) rfl ?_
      refine RA_noB rfl rfl rfl rfl (h11) rfl ?_
      refine RA_noB rfl rfl rfl rfl (h11) rfl ?_
      refine RA_step rfl (OA_v rfl (V_pickT rfl (h11) rfl) ?_)
      refine RA_nil ?_
      exact at_normal (St.mk1 (aeq rfl (aeq (congrArg Value.bool (or_t hq10 (h11))) aeq0)) (Gh.sel [0, 1] rfl rfl))
    refine RA_yesB rfl rfl rfl rfl (bno h11) (OA_v (v := .pointer (some ((⟨b2, 0, none⟩ : Addr).add 2))) rfl (V_fieldAddrN (B := ⟨b2, 0, none⟩) (m := 0) (o := 2) Try.underlying67 rfl nz65 rfl rfl) ?_)
    refine RA_yesB rfl rfl rfl rfl (bno h11) (OA_r rfl (VR_load_blk (b := b2) (m := 2) (k := 0) Try.underlying65 rfl rfl rfl rfl) ?_)
    refine RA_yesB rfl rfl rfl rfl (bno h11) (OA_v (v := .int .i64 (a0.f2.length : Int)) rfl (V_len Try.underlying65 rfl) ?_)
    refine RA_yesB rfl rfl rfl rfl (bno h11) (OA_v (v := .pointer (some ⟨b2, 0, none⟩)) rfl (V_fieldAddrN (B := ⟨b2, 0, none⟩) (m := 0) (o := 0) Try.underlying67 rfl nz3 rfl rfl) ?_)
    refine RA_yesB rfl rfl rfl rfl (bno h11) (OA_r rfl (VR_load_blk (b := b2) (m := 0) (k := 0) Try.underlying3 rfl rfl rfl rfl) ?_)
    refine RA_yesB rfl rfl rfl rfl (bno h11) (OA_v (v := .pointer (some ((⟨b2, 0, none⟩ : Addr).add 1))) rfl (V_fieldAddrN (B := ⟨b2, 0, none⟩) (m := 0) (o := 1) Try.underlying67 rfl nz3 rfl rfl) ?_)
    refine RA_yesB rfl rfl rfl rfl (bno h11) (OA_r rfl (VR_load_blk (b := b2) (m := 1) (k := 0) Try.underlying3 rfl rfl rfl rfl) ?_)
    refine RA_yesB rfl rfl rfl rfl (bno h11) (OA_v (v := .int .i64 (IntKind.i64.wrap (a0.f0 * a0.f1))) rfl (V_mul rfl rfl) ?_)
    refine RA_yesB rfl rfl rfl rfl (bno h11) (OA_v (v := .bool (decide ((a0.f2.length : Int) ≠ (IntKind.i64.wrap (a0.f0 * a0.f1))))) rfl (V_neq rfl rfl) ?_)
    refine RA_step rfl (OA_v rfl (V_pickF rfl (bno h11) rfl) ?_)
    refine RA_nil ?_
    exact at_normal (St.mk1 (aeq rfl (aeq (congrArg Value.bool (or_f hq10 (bno h11))) aeq0)) (Gh.sel [0, 1] rfl rfl))
  rintro e ds As hst12
  refine RA_nil ?_
  refine at_normal ?_
  refine SA.of_St hst12 fun junk => ?_
  by_cases h13 : q10 = true
  · replace H := g_ift h13 H
    refine SA_condTb rfl h13 ?_
    refine SA_seq ?_
    refine SA_region ?_
    refine RA_step rfl (OA_v (v := .bool false) rfl (V_assign rfl) ?_)
    refine RA_nil ?_
    refine at_normal ?_
    refine SA_ret ?_
    refine thn_ret ?_
    have hr_ := Option.some.inj H
    subst hr_
    exact BQ_R1 [] rfl rfl (Gh.sel [] rfl rfl) ⟨rfl, rfl⟩
  replace H := g_iff h13 H
  refine SA_condFb rfl h13 ?_
  refine SA_skip ?_
  refine at_normal ?_
  refine SA_seq ?_
  refine SA_seq ?_
  refine SA_region ?_
  refine RA_step rfl (OA_v (v := .int .i64 0) rfl (V_assign rfl) ?_)
  refine RA_nil ?_
  refine at_normal ?_
  obtain ⟨t14, H, Bt14⟩ := g_bind H
  refine SA_mid (fun e ds As => ∃ (s15 : Unit), t14 = Out.go s15 ∧ St [] [] e ds As) ?_ ?_
  · refine SA_block ?_
    refine SA_loop (fun k_ e ds As => ∃ (x3_15 : Int), F30.l0 a0 k_ x3_15 = some t14 ∧ St [(1, .pointer (some ⟨b2, 0, none⟩)), (3, .int .i64 x3_15)] [Blk b2 67 [.int .i64 a0.f0, .int .i64 a0.f1, .slice A0_0 a0.f2.length c0_0], Ro k76 A0_0 c0_0 a0.f2] e ds As) (k := k) ⟨_, H, St.mk1 (aeq rfl (aeq rfl aeq0)) (Gh.sel [0, 1] rfl rfl)⟩ ?_
    clear H
    rintro k16 e ds As ⟨x3_15, H, hst17⟩
    obtain _ | k16 := k16
    · cases H
    rw [F30.l0] at H
    refine SA.of_St hst17 fun junk => ?_
    refine SA_seq ?_
    refine SA_seq ?_
    refine SA_region ?_
    refine RA_step rfl (OA_v (v := .int .i64 x3_15) rfl (V_move rfl) ?_)
    refine RA_step rfl (OA_v (v := .pointer (some ((⟨b2, 0, none⟩ : Addr).add 2))) rfl (V_fieldAddrN (B := ⟨b2, 0, none⟩) (m := 0) (o := 2) Try.underlying67 rfl nz65 rfl rfl) ?_)
    refine RA_step rfl (OA_r rfl (VR_load_blk (b := b2) (m := 2) (k := 0) Try.underlying65 rfl rfl rfl rfl) ?_)
    refine RA_step rfl (OA_v (v := .int .i64 (a0.f2.length : Int)) rfl (V_len Try.underlying65 rfl) ?_)
    refine RA_step rfl (OA_v (v := .bool (decide (x3_15 < (a0.f2.length : Int)))) rfl (V_lss rfl rfl) ?_)
    refine RA_nil ?_
    refine at_normal ?_
    by_cases h18 : x3_15 < (a0.f2.length : Int)
    · replace H := g_ift h18 H
      refine SA_condT rfl h18 ?_
      refine SA_skip ?_
      refine at_normal ?_
      refine SA_seq ?_
      refine SA_block ?_
      refine SA_seq ?_
      refine SA_seq ?_
      refine SA_region ?_
      refine RA_step rfl (OA_v (v := .pointer (some ((⟨b2, 0, none⟩ : Addr).add 2))) rfl (V_fieldAddrN (B := ⟨b2, 0, none⟩) (m := 0) (o := 2) Try.underlying67 rfl nz65 rfl rfl) ?_)
      refine RA_step rfl (OA_r rfl (VR_load_blk (b := b2) (m := 2) (k := 0) Try.underlying65 rfl rfl rfl rfl) ?_)
      refine RA_step rfl (OA_v (v := .int .i64 x3_15) rfl (V_move rfl) ?_)
      obtain ⟨⟨g19, g20⟩, H⟩ := g_pos H
      refine RA_step rfl (OA_r rfl (VR_index (i := x3_15) Try.underlying65 sz76 rfl rfl (Src.ro (k := 1) rfl) g19 g20) ?_)
      refine RA_step rfl (OA_r rfl (VR_loadA_el (enc := enc76) (i := x3_15) (j := x3_15.toNat * 15) (m := 0) (sz := 15) (vs := (.int .i32 ((rd a0.f2 x3_15).f0) :: .int .i32 (((rd a0.f2 x3_15).f1).f0) :: .int .i32 (((rd a0.f2 x3_15).f1).f1) :: .int .i32 (((rd a0.f2 x3_15).f1).f2) :: .int .u8 ((rd a0.f2 x3_15).f2) :: .int .i64 (((rd a0.f2 x3_15).f3).f0) :: .int .i64 (((rd a0.f2 x3_15).f3).f1) :: .bool (((rd a0.f2 x3_15).f3).f2) :: .bool (((rd a0.f2 x3_15).f3).f3) :: .bool (((rd a0.f2 x3_15).f3).f4) :: .bool (((rd a0.f2 x3_15).f3).f5) :: .bool (((rd a0.f2 x3_15).f3).f6) :: .bool (((rd a0.f2 x3_15).f3).f7) :: .bool (((rd a0.f2 x3_15).f3).f8) :: .bool (((rd a0.f2 x3_15).f3).f9) :: [])) Try.underlying76 rfl sz76 rfl rfl rfl (Src.ro (k := 1) rfl) g19 g20 (fun _ _ h => h) rfl) ?_)
      obtain ⟨r21, C2741, H⟩ := g_bind H
      refine RA_step rfl (OA_callA [] [0, 1] rfl (X_fn (vs := [.agg (List.toArray (.int .i32 ((rd a0.f2 x3_15).f0) :: .int .i32 (((rd a0.f2 x3_15).f1).f0) :: .int .i32 (((rd a0.f2 x3_15).f1).f1) :: .int .i32 (((rd a0.f2 x3_15).f1).f2) :: .int .u8 ((rd a0.f2 x3_15).f2) :: .int .i64 (((rd a0.f2 x3_15).f3).f0) :: .int .i64 (((rd a0.f2 x3_15).f3).f1) :: .bool (((rd a0.f2 x3_15).f3).f2) :: .bool (((rd a0.f2 x3_15).f3).f3) :: .bool (((rd a0.f2 x3_15).f3).f4) :: .bool (((rd a0.f2 x3_15).f3).f5) :: .bool (((rd a0.f2 x3_15).f3).f6) :: .bool (((rd a0.f2 x3_15).f3).f7) :: .bool (((rd a0.f2 x3_15).f3).f8) :: .bool (((rd a0.f2 x3_15).f3).f9) :: []))]) Try.func68 nm68 rfl rfl) rfl (F68.ok (a0 := rd a0.f2 x3_15) C2741) rfl ?_)
      rintro _ _ ⟨rfl, rfl⟩
      refine RA_step rfl (OA_v (v := .bool (!r21)) rfl (V_not rfl) ?_)
      refine RA_nil ?_
      refine at_normal ?_
      by_cases h22 : (!r21) = true
      · replace H := g_ift h22 H
        refine SA_condTb rfl h22 ?_
        refine SA_seq ?_
        refine SA_region ?_
        refine RA_step rfl (OA_v (v := .bool false) rfl (V_assign rfl) ?_)
        refine RA_nil ?_
        refine at_normal ?_
        refine SA_ret ?_
        refine thn_ret ?_
        refine inb_ret ?_
        refine thn_ret ?_
        refine thn_ret ?_
        refine inb_ret ?_
        refine thn_ret ?_
        refine thn_ret ?_
        have hr_ := Option.some.inj H
        subst hr_
        have hb_ := el_ret Bt14
        have hr_ := Option.some.inj hb_
        clear hb_
        subst hr_
        exact BQ_R1 [] rfl rfl (Gh.sel [] rfl rfl) ⟨rfl, rfl⟩
      replace H := g_iff h22 H
      refine SA_condFb rfl h22 ?_
      refine SA_skip ?_
      refine at_normal ?_
      refine SA_seq ?_
      refine SA_region ?_
      refine RA_step rfl (OA_v (v := .int .i64 x3_15) rfl (V_move rfl) ?_)
      refine RA_step rfl (OA_v (v := .pointer (some ⟨b2, 0, none⟩)) rfl (V_fieldAddrN (B := ⟨b2, 0, none⟩) (m := 0) (o := 0) Try.underlying67 rfl nz3 rfl rfl) ?_)
      refine RA_step rfl (OA_r rfl (VR_load_blk (b := b2) (m := 0) (k := 0) Try.underlying3 rfl rfl rfl rfl) ?_)
      obtain ⟨g23, H⟩ := g_pos H
      refine RA_step rfl (OA_v (v := .int .i64 (x3_15.tmod a0.f0)) rfl (V_rem rfl rfl g23) ?_)
      refine RA_step rfl (OA_v (v := .bool (decide ((x3_15.tmod a0.f0) > 0))) rfl (V_gtr rfl rfl) ?_)
      refine RA_step rfl (OA_v (v := .bool (decide ((x3_15.tmod a0.f0) > 0))) rfl (V_move rfl) ?_)
      obtain ⟨q24, H, Bq24⟩ := g_bind H
      refine RA_cut 9 (fun e ds As => St [(1, .pointer (some ⟨b2, 0, none⟩)), (3, .int .i64 x3_15), (54, .bool q24)] [Blk b2 67 [.int .i64 a0.f0, .int .i64 a0.f1, .slice A0_0 a0.f2.length c0_0], Ro k76 A0_0 c0_0 a0.f2] e ds As) ?_ ?_
      · by_cases h25 : (x3_15.tmod a0.f0) > 0
        · replace H := g_ift h25 H
          refine RA_yesB rfl rfl rfl rfl (dec_t h25) (OA_v (v := .pointer (some ((⟨b2, 0, none⟩ : Addr).add 2))) rfl (V_fieldAddrN (B := ⟨b2, 0, none⟩) (m := 0) (o := 2) Try.underlying67 rfl nz65 rfl rfl) ?_)
          refine RA_yesB rfl rfl rfl rfl (dec_t h25) (OA_r rfl (VR_load_blk (b := b2) (m := 2) (k := 0) Try.underlying65 rfl rfl rfl rfl) ?_)
          refine RA_yesB rfl rfl rfl rfl (dec_t h25) (OA_v (v := .int .i64 x3_15) rfl (V_move rfl) ?_)
          refine RA_yesB rfl rfl rfl rfl (dec_t h25) (OA_v (v := .int .i64 (IntKind.i64.wrap (x3_15 - 1))) rfl (V_sub rfl rfl) ?_)
          obtain ⟨⟨g26, g27⟩, H⟩ := g_pos H
          refine RA_yesB rfl rfl rfl rfl (dec_t h25) (OA_r rfl (VR_index (i := IntKind.i64.wrap (x3_15 - 1)) Try.underlying65 sz76 rfl rfl (Src.ro (k := 1) rfl) g26 g27) ?_)
          refine RA_yesB rfl rfl rfl rfl (dec_t h25) (OA_v (v := .pointer (some ((el A0_0 ((IntKind.i64.wrap (x3_15 - 1)).toNat * 15)).add 4))) rfl (V_fieldAddrN (B := el A0_0 ((IntKind.i64.wrap (x3_15 - 1)).toNat * 15)) (m := 0) (o := 4) Try.underlying76 rfl nz5 rfl rfl) ?_)
          refine RA_yesB rfl rfl rfl rfl (dec_t h25) (OA_r rfl (VR_load_el (enc := enc76) (i := IntKind.i64.wrap (x3_15 - 1)) (j := (IntKind.i64.wrap (x3_15 - 1)).toNat * 15) (m := 4) (sz := 15) Try.underlying5 rfl rfl rfl rfl (Src.ro (k := 1) rfl) g26 g27 (fun _ _ h => h) rfl) ?_)
          refine RA_yesB rfl rfl rfl rfl (dec_t h25) (OA_v (v := .bool (decide (((rd a0.f2 (IntKind.i64.wrap (x3_15 - 1))).f2) = 2))) rfl (V_eql rfl rfl) ?_)
          refine RA_step rfl (OA_v rfl (V_pickT rfl (dec_t h25) rfl) ?_)
          have hr_ := Option.some.inj H
          subst hr_
          refine RA_nil ?_
          exact at_normal (St.mk1 (aeq rfl (aeq rfl (aeq rfl aeq0))) (Gh.sel [0, 1] rfl rfl))
        replace H := g_iff h25 H
        refine RA_noB rfl rfl rfl rfl (dec_f h25) rfl ?_
        refine RA_noB rfl rfl rfl rfl (dec_f h25) rfl ?_
        refine RA_noB rfl rfl rfl rfl (dec_f h25) rfl ?_
        refine RA_noB rfl rfl rfl rfl (dec_f h25) rfl ?_
        refine RA_noB rfl rfl rfl rfl (dec_f h25) rfl ?_
        refine RA_noB rfl rfl rfl rfl (dec_f h25) rfl ?_
        refine RA_noB rfl rfl rfl rfl (dec_f h25) rfl ?_
        refine RA_noB rfl rfl rfl rfl (dec_f h25) rfl ?_
        refine RA_step rfl (OA_v rfl (V_pickF rfl (dec_f h25) rfl) ?_)
        have hr_ := Option.some.inj H
        subst hr_
        refine RA_nil ?_
        exact at_normal (St.mk1 (aeq rfl (aeq rfl (aeq rfl aeq0))) (Gh.sel [0, 1] rfl rfl))
      rintro e ds As hst28
      clear H
      have H := Bq24
      clear Bq24
      refine RA.of_St rfl hst28 fun junk => ?_
      refine RA_step rfl (OA_v (v := .bool q24) rfl (V_assign rfl) ?_)
      refine RA_nil ?_
      refine at_normal ?_
      refine SA_seq ?_
      refine SA_seq ?_
      obtain ⟨t29, H, Bt29⟩ := g_bind H
      refine SA_mid (fun e ds As => St [(1, .pointer (some ⟨b2, 0, none⟩)), (3, .int .i64 x3_15), (82, .bool t29)] [Blk b2 67 [.int .i64 a0.f0, .int .i64 a0.f1, .slice A0_0 a0.f2.length c0_0], Ro k76 A0_0 c0_0 a0.f2] e ds As) ?_ ?_
      · refine SA_drawHq (0 :: 1 :: 2 :: 3 :: 4 :: 5 :: 6 :: 7 :: 8 :: 9 :: 10 :: 11 :: 12 :: 13 :: 14 :: 15 :: 16 :: 17 :: 18 :: 19 :: 20 :: 21 :: 22 :: 23 :: 24 :: 25 :: 26 :: 27 :: []) (List.toArray ([] :: [0] :: [] :: [0, 1, 2] :: [0, 1, 2, 3] :: [0, 1, 2, 3, 4] :: [0, 1, 2, 3, 4, 5] :: [] :: [0, 1, 2, 3, 4, 5, 6, 7] :: [0, 1, 2, 3, 4, 5, 6, 7, 8] :: [0, 1, 2, 3, 4, 5, 6, 7, 8, 9] :: [0, 1, 2, 3, 4, 5, 6, 7, 8, 9, 10] :: [0, 1, 2, 3, 4, 5, 6, 7, 8, 9, 10, 11] :: (0 :: 1 :: 2 :: 3 :: 4 :: 5 :: 6 :: 7 :: 8 :: 9 :: 10 :: 11 :: 12 :: []) :: [0, 1, 2, 3, 4, 5, 6, 7, 8, 9, 10, 11] :: (0 :: 1 :: 2 :: 3 :: 4 :: 5 :: 6 :: 7 :: 8 :: 9 :: 10 :: 11 :: 12 :: 13 :: 14 :: []) :: (0 :: 1 :: 2 :: 3 :: 4 :: 5 :: 6 :: 7 :: 8 :: 9 :: 10 :: 11 :: 12 :: 13 :: 14 :: 15 :: []) :: (0 :: 1 :: 2 :: 3 :: 4 :: 5 :: 6 :: 7 :: 8 :: 9 :: 10 :: 11 :: 12 :: 13 :: 14 :: 15 :: 16 :: []) :: [0, 1, 2, 3, 4, 5, 6, 7, 8, 9, 10, 11] :: (0 :: 1 :: 2 :: 3 :: 4 :: 5 :: 6 :: 7 :: 8 :: 9 :: 10 :: 11 :: 18 :: []) :: [0, 1, 2, 3, 4, 5, 6, 7, 8, 9, 10, 11] :: (0 :: 1 :: 2 :: 3 :: 4 :: 5 :: 6 :: 7 :: 8 :: 9 :: 10 :: 11 :: 20 :: []) :: (0 :: 1 :: 2 :: 3 :: 4 :: 5 :: 6 :: 7 :: 8 :: 9 :: 10 :: 11 :: 18 :: 19 :: 20 :: 21 :: []) :: (0 :: 1 :: 2 :: 3 :: 4 :: 5 :: 6 :: 7 :: 8 :: 9 :: 10 :: 11 :: 18 :: 19 :: 20 :: 21 :: 22 :: []) :: (0 :: 1 :: 2 :: 3 :: 4 :: 5 :: 6 :: 7 :: 8 :: 9 :: 10 :: 11 :: 18 :: 19 :: 20 :: 21 :: 22 :: 23 :: []) :: (0 :: 1 :: 2 :: 3 :: 4 :: 5 :: 6 :: 7 :: 8 :: 9 :: 10 :: 11 :: 12 :: 13 :: 14 :: 15 :: 16 :: 17 :: 18 :: 19 :: 20 :: 21 :: 22 :: 23 :: 24 :: []) :: (0 :: 1 :: 2 :: 3 :: 4 :: 5 :: 6 :: 7 :: 8 :: 9 :: 10 :: 11 :: 12 :: 13 :: 14 :: 15 :: 16 :: 17 :: 18 :: 19 :: 20 :: 21 :: 22 :: 23 :: 24 :: 25 :: []) :: (0 :: 1 :: 2 :: 3 :: 4 :: 5 :: 6 :: 7 :: 8 :: 9 :: 10 :: 11 :: 12 :: 13 :: 14 :: 15 :: 16 :: 17 :: 18 :: 19 :: 20 :: 21 :: 22 :: 23 :: 24 :: 25 :: 26 :: []) :: [])) [0, 1] [1] mixed rfl rfl rfl (PanOk.thn (PanOk.thn (PanOk.thn (PanOk.inb (PanOk.thn (PanOk.thn (PanOk.inb (PanOk.thn (PanOk.thn PanOk.body))))))))) fun I0 hS h0 hh0 w0 sH dd pk => ?_
        refine DH_take (v := .pointer (some ((⟨b2, 0, none⟩ : Addr).add 2))) 0 (by kernel_rfl) rfl rfl (.no rfl) pk sH rfl (VR.ofV (V_fieldAddrN (B := ⟨b2, 0, none⟩) (m := 0) (o := 2) Try.underlying67 rfl nz65 rfl rfl)) ?_
        refine DH_take 1 (by kernel_rfl) rfl rfl (.no rfl) pk sH rfl (VR_load_blk (b := b2) (m := 2) (k := 0) Try.underlying65 rfl rfl rfl rfl) ?_
        refine DH_take (v := .int .i64 x3_15) 2 (by kernel_rfl) rfl rfl (.no rfl) pk sH rfl (VR.ofV (V_move rfl)) ?_
        obtain ⟨⟨g210, g211⟩, H⟩ := g_pos H
        refine DH_take 3 (by kernel_rfl) rfl rfl (.no rfl) pk sH rfl (VR_index (i := x3_15) Try.underlying65 sz76 rfl rfl (Src.ro (k := 1) rfl) g210 g211) ?_
        refine DH_take (v := .pointer (some ((el A0_0 (x3_15.toNat * 15)).add 4))) 4 (by kernel_rfl) rfl rfl (.no rfl) pk sH rfl (VR.ofV (V_fieldAddrN (B := el A0_0 (x3_15.toNat * 15)) (m := 0) (o := 4) Try.underlying76 rfl nz5 rfl rfl)) ?_
        refine DH_take 5 (by kernel_rfl) rfl rfl (.no rfl) pk sH rfl (VR_load_el (enc := enc76) (i := x3_15) (j := x3_15.toNat * 15) (m := 4) (sz := 15) Try.underlying5 rfl rfl rfl rfl (Src.ro (k := 1) rfl) g210 g211 (fun _ _ h => h) rfl) ?_
        refine DH_take (v := .bool (decide (((rd a0.f2 x3_15).f2) = 0))) 6 (by kernel_rfl) rfl rfl (.no rfl) pk sH rfl (VR.ofV (V_eql rfl rfl)) ?_
        refine DH_take (v := .bool q24) 7 (by kernel_rfl) rfl rfl (.no rfl) pk sH rfl (VR.ofV (V_move rfl)) ?_
        refine DH_take (v := .bool (decide ((decide (((rd a0.f2 x3_15).f2) = 0)) ≠ q24))) 8 (by kernel_rfl) rfl rfl (.no rfl) pk sH rfl (VR.ofV (V_neqB Try.underlying4 rfl rfl)) ?_
        refine DH_take (v := .bool (decide ((decide (((rd a0.f2 x3_15).f2) = 0)) ≠ q24))) 9 (by kernel_rfl) rfl rfl (.no rfl) pk sH rfl (VR.ofV (V_move rfl)) ?_
        by_cases h1711 : (decide (((rd a0.f2 x3_15).f2) = 0)) ≠ q24
        · replace H := g_ift h1711 H
          refine DH_skip 10 (by kernel_rfl) rfl rfl (.no rfl rfl rfl rfl (dec_t h1711)) pk rfl ?_
          refine DH_skip 11 (by kernel_rfl) rfl rfl (.no rfl rfl rfl rfl (dec_t h1711)) pk rfl ?_
          refine DH_skip 12 (by kernel_rfl) rfl rfl (.un rfl rfl rfl rfl) pk rfl ?_
          refine DH_skip 13 (by kernel_rfl) rfl rfl (.un rfl rfl rfl rfl) pk rfl ?_
          refine DH_skip 14 (by kernel_rfl) rfl rfl (.un rfl rfl rfl rfl) pk rfl ?_
          refine DH_skip 15 (by kernel_rfl) rfl rfl (.un rfl rfl rfl rfl) pk rfl ?_
          refine DH_skip 16 (by kernel_rfl) rfl rfl (.un rfl rfl rfl rfl) pk rfl ?_
          refine DH_skip 17 (by kernel_rfl) rfl rfl (.un rfl rfl rfl rfl) pk rfl ?_
          refine DH_skip 18 (by kernel_rfl) rfl rfl (.un rfl rfl rfl rfl) pk rfl ?_
          refine DH_skip 19 (by kernel_rfl) rfl rfl (.un rfl rfl rfl rfl) pk rfl ?_
          refine DH_skip 20 (by kernel_rfl) rfl rfl (.un rfl rfl rfl rfl) pk rfl ?_
          refine DH_skip 21 (by kernel_rfl) rfl rfl (.un rfl rfl rfl rfl) pk rfl ?_
          refine DH_skip 22 (by kernel_rfl) rfl rfl (.un rfl rfl rfl rfl) pk rfl ?_
          refine DH_skip 23 (by kernel_rfl) rfl rfl (.un rfl rfl rfl rfl) pk rfl ?_
          refine DH_skip 24 (by kernel_rfl) rfl rfl (.un rfl rfl rfl rfl) pk rfl ?_
          refine DH_skip 25 (by kernel_rfl) rfl rfl (.un rfl rfl rfl rfl) pk rfl ?_
          refine DH_skip 26 (by kernel_rfl) rfl rfl (.no rfl rfl rfl rfl (dec_t h1711)) pk rfl ?_
          refine DH_take 27 (by kernel_rfl) rfl rfl (.no rfl) pk sH rfl (VR.ofV (V_pickT rfl (dec_t h1711) rfl)) ?_
          refine DH_open dd sH ?_
          refine DN_done (by kernel_rfl) ?_
          have hr_ := Option.some.inj H
          subst hr_
          exact at_normal (St.mk1 (aeq rfl (aeq rfl (aeq rfl aeq0))) (Gh.sel [0, 1] rfl rfl))
        replace H := g_iff h1711 H
        refine DH_take (v := .bool q24) 10 (by kernel_rfl) rfl rfl (.yes rfl rfl rfl rfl (dec_f h1711)) pk sH rfl (VR.ofV (V_move rfl)) ?_
        refine DH_take (v := .bool q24) 11 (by kernel_rfl) rfl rfl (.yes rfl rfl rfl rfl (dec_f h1711)) pk sH rfl (VR.ofV (V_move rfl)) ?_
        by_cases h1712 : q24 = true
        · replace H := g_ift h1712 H
          refine DH_take (v := .pointer (some ((⟨b2, 0, none⟩ : Addr).add 2))) 12 (by kernel_rfl) rfl rfl (.yes rfl rfl rfl rfl (h1712)) pk sH rfl (VR.ofV (V_fieldAddrN (B := ⟨b2, 0, none⟩) (m := 0) (o := 2) Try.underlying67 rfl nz65 rfl rfl)) ?_
          refine DH_take 13 (by kernel_rfl) rfl rfl (.yes rfl rfl rfl rfl (h1712)) pk sH rfl (VR_load_blk (b := b2) (m := 2) (k := 0) Try.underlying65 rfl rfl rfl rfl) ?_
          refine DH_take (v := .int .i64 x3_15) 14 (by kernel_rfl) rfl rfl (.yes rfl rfl rfl rfl (h1712)) pk sH rfl (VR.ofV (V_move rfl)) ?_
          obtain ⟨⟨g930, g931⟩, H⟩ := g_pos H
          refine DH_take 15 (by kernel_rfl) rfl rfl (.yes rfl rfl rfl rfl (h1712)) pk sH rfl (VR_index (i := x3_15) Try.underlying65 sz76 rfl rfl (Src.ro (k := 1) rfl) g930 g931) ?_
          refine DH_take (v := .pointer (some ((el A0_0 (x3_15.toNat * 15)).add 5))) 16 (by kernel_rfl) rfl rfl (.yes rfl rfl rfl rfl (h1712)) pk sH rfl (VR.ofV (V_fieldAddrN (B := el A0_0 (x3_15.toNat * 15)) (m := 0) (o := 5) Try.underlying76 rfl nz70 rfl rfl)) ?_
          refine DH_take 17 (by kernel_rfl) rfl rfl (.yes rfl rfl rfl rfl (h1712)) pk sH rfl (VR_loadA_el (enc := enc76) (i := x3_15) (j := x3_15.toNat * 15) (m := 5) (sz := 15) (vs := [.int .i64 (((rd a0.f2 x3_15).f3).f0), .int .i64 (((rd a0.f2 x3_15).f3).f1), .bool (((rd a0.f2 x3_15).f3).f2), .bool (((rd a0.f2 x3_15).f3).f3), .bool (((rd a0.f2 x3_15).f3).f4), .bool (((rd a0.f2 x3_15).f3).f5), .bool (((rd a0.f2 x3_15).f3).f6), .bool (((rd a0.f2 x3_15).f3).f7), .bool (((rd a0.f2 x3_15).f3).f8), .bool (((rd a0.f2 x3_15).f3).f9)]) Try.underlying70 rfl sz70 rfl rfl rfl (Src.ro (k := 1) rfl) g930 g931 (fun _ _ h => h) rfl) ?_
          refine DH_take (v := .pointer (some ((⟨b2, 0, none⟩ : Addr).add 2))) 18 (by kernel_rfl) rfl rfl (.yes rfl rfl rfl rfl (h1712)) pk sH rfl (VR.ofV (V_fieldAddrN (B := ⟨b2, 0, none⟩) (m := 0) (o := 2) Try.underlying67 rfl nz65 rfl rfl)) ?_
          refine DH_take 19 (by kernel_rfl) rfl rfl (.yes rfl rfl rfl rfl (h1712)) pk sH rfl (VR_load_blk (b := b2) (m := 2) (k := 0) Try.underlying65 rfl rfl rfl rfl) ?_
          refine DH_take (v := .int .i64 x3_15) 20 (by kernel_rfl) rfl rfl (.yes rfl rfl rfl rfl (h1712)) pk sH rfl (VR.ofV (V_move rfl)) ?_
          refine DH_take (v := .int .i64 (IntKind.i64.wrap (x3_15 - 1))) 21 (by kernel_rfl) rfl rfl (.yes rfl rfl rfl rfl (h1712)) pk sH rfl (VR.ofV (V_sub rfl rfl)) ?_
          obtain ⟨⟨g1350, g1351⟩, H⟩ := g_pos H
          refine DH_take 22 (by kernel_rfl) rfl rfl (.yes rfl rfl rfl rfl (h1712)) pk sH rfl (VR_index (i := IntKind.i64.wrap (x3_15 - 1)) Try.underlying65 sz76 rfl rfl (Src.ro (k := 1) rfl) g1350 g1351) ?_
          refine DH_take (v := .pointer (some ((el A0_0 ((IntKind.i64.wrap (x3_15 - 1)).toNat * 15)).add 5))) 23 (by kernel_rfl) rfl rfl (.yes rfl rfl rfl rfl (h1712)) pk sH rfl (VR.ofV (V_fieldAddrN (B := el A0_0 ((IntKind.i64.wrap (x3_15 - 1)).toNat * 15)) (m := 0) (o := 5) Try.underlying76 rfl nz70 rfl rfl)) ?_
          refine DH_take 24 (by kernel_rfl) rfl rfl (.yes rfl rfl rfl rfl (h1712)) pk sH rfl (VR_loadA_el (enc := enc76) (i := IntKind.i64.wrap (x3_15 - 1)) (j := (IntKind.i64.wrap (x3_15 - 1)).toNat * 15) (m := 5) (sz := 15) (vs := [.int .i64 (((rd a0.f2 (IntKind.i64.wrap (x3_15 - 1))).f3).f0), .int .i64 (((rd a0.f2 (IntKind.i64.wrap (x3_15 - 1))).f3).f1), .bool (((rd a0.f2 (IntKind.i64.wrap (x3_15 - 1))).f3).f2), .bool (((rd a0.f2 (IntKind.i64.wrap (x3_15 - 1))).f3).f3), .bool (((rd a0.f2 (IntKind.i64.wrap (x3_15 - 1))).f3).f4), .bool (((rd a0.f2 (IntKind.i64.wrap (x3_15 - 1))).f3).f5), .bool (((rd a0.f2 (IntKind.i64.wrap (x3_15 - 1))).f3).f6), .bool (((rd a0.f2 (IntKind.i64.wrap (x3_15 - 1))).f3).f7), .bool (((rd a0.f2 (IntKind.i64.wrap (x3_15 - 1))).f3).f8), .bool (((rd a0.f2 (IntKind.i64.wrap (x3_15 - 1))).f3).f9)]) Try.underlying70 rfl sz70 rfl rfl rfl (Src.ro (k := 1) rfl) g1350 g1351 (fun _ _ h => h) rfl) ?_
          refine DH_take (v := .bool (decide (((rd a0.f2 x3_15).f3) ≠ ((rd a0.f2 (IntKind.i64.wrap (x3_15 - 1))).f3)))) 25 (by kernel_rfl) rfl rfl (.yes rfl rfl rfl rfl (h1712)) pk sH rfl (VR.ofV (V_neqD (xs := [.int .i64 (((rd a0.f2 x3_15).f3).f0), .int .i64 (((rd a0.f2 x3_15).f3).f1), .bool (((rd a0.f2 x3_15).f3).f2), .bool (((rd a0.f2 x3_15).f3).f3), .bool (((rd a0.f2 x3_15).f3).f4), .bool (((rd a0.f2 x3_15).f3).f5), .bool (((rd a0.f2 x3_15).f3).f6), .bool (((rd a0.f2 x3_15).f3).f7), .bool (((rd a0.f2 x3_15).f3).f8), .bool (((rd a0.f2 x3_15).f3).f9)]) (ys := [.int .i64 (((rd a0.f2 (IntKind.i64.wrap (x3_15 - 1))).f3).f0), .int .i64 (((rd a0.f2 (IntKind.i64.wrap (x3_15 - 1))).f3).f1), .bool (((rd a0.f2 (IntKind.i64.wrap (x3_15 - 1))).f3).f2), .bool (((rd a0.f2 (IntKind.i64.wrap (x3_15 - 1))).f3).f3), .bool (((rd a0.f2 (IntKind.i64.wrap (x3_15 - 1))).f3).f4), .bool (((rd a0.f2 (IntKind.i64.wrap (x3_15 - 1))).f3).f5), .bool (((rd a0.f2 (IntKind.i64.wrap (x3_15 - 1))).f3).f6), .bool (((rd a0.f2 (IntKind.i64.wrap (x3_15 - 1))).f3).f7), .bool (((rd a0.f2 (IntKind.i64.wrap (x3_15 - 1))).f3).f8), .bool (((rd a0.f2 (IntKind.i64.wrap (x3_15 - 1))).f3).f9)]) (r := (((((rd a0.f2 x3_15).f3).f0) == (((rd a0.f2 (IntKind.i64.wrap (x3_15 - 1))).f3).f0)) && (((((rd a0.f2 x3_15).f3).f1) == (((rd a0.f2 (IntKind.i64.wrap (x3_15 - 1))).f3).f1)) && (((((rd a0.f2 x3_15).f3).f2) == (((rd a0.f2 (IntKind.i64.wrap (x3_15 - 1))).f3).f2)) && (((((rd a0.f2 x3_15).f3).f3) == (((rd a0.f2 (IntKind.i64.wrap (x3_15 - 1))).f3).f3)) && (((((rd a0.f2 x3_15).f3).f4) == (((rd a0.f2 (IntKind.i64.wrap (x3_15 - 1))).f3).f4)) && (((((rd a0.f2 x3_15).f3).f5) == (((rd a0.f2 (IntKind.i64.wrap (x3_15 - 1))).f3).f5)) && (((((rd a0.f2 x3_15).f3).f6) == (((rd a0.f2 (IntKind.i64.wrap (x3_15 - 1))).f3).f6)) && (((((rd a0.f2 x3_15).f3).f7) == (((rd a0.f2 (IntKind.i64.wrap (x3_15 - 1))).f3).f7)) && (((((rd a0.f2 x3_15).f3).f8) == (((rd a0.f2 (IntKind.i64.wrap (x3_15 - 1))).f3).f8)) && (((((rd a0.f2 x3_15).f3).f9) == (((rd a0.f2 (IntKind.i64.wrap (x3_15 - 1))).f3).f9)) && true))))))))))) (p := ((rd a0.f2 x3_15).f3) = ((rd a0.f2 (IntKind.i64.wrap (x3_15 - 1))).f3)) eqg70 rfl rfl (by kernel_rfl) (eqv70 (x := ((rd a0.f2 x3_15).f3)) (y := ((rd a0.f2 (IntKind.i64.wrap (x3_15 - 1))).f3))))) ?_
          refine DH_take 26 (by kernel_rfl) rfl rfl (.yes rfl rfl rfl rfl (dec_f h1711)) pk sH rfl (VR.ofV (V_pickT rfl (h1712) rfl)) ?_
          refine DH_take 27 (by kernel_rfl) rfl rfl (.no rfl) pk sH rfl (VR.ofV (V_pickF rfl (dec_f h1711) rfl)) ?_
          refine DH_open dd sH ?_
          refine DN_done (by kernel_rfl) ?_
          have hr_ := Option.some.inj H
          subst hr_
          exact at_normal (St.mk1 (aeq rfl (aeq rfl (aeq rfl aeq0))) (Gh.sel [0, 1] rfl rfl))
        replace H := g_iff h1712 H
        refine DH_skip 12 (by kernel_rfl) rfl rfl (.no rfl rfl rfl rfl (bno h1712)) pk rfl ?_
        refine DH_skip 13 (by kernel_rfl) rfl rfl (.no rfl rfl rfl rfl (bno h1712)) pk rfl ?_
        refine DH_skip 14 (by kernel_rfl) rfl rfl (.no rfl rfl rfl rfl (bno h1712)) pk rfl ?_
        refine DH_skip 15 (by kernel_rfl) rfl rfl (.no rfl rfl rfl rfl (bno h1712)) pk rfl ?_
        refine DH_skip 16 (by kernel_rfl) rfl rfl (.no rfl rfl rfl rfl (bno h1712)) pk rfl ?_
        refine DH_skip 17 (by kernel_rfl) rfl rfl (.no rfl rfl rfl rfl (bno h1712)) pk rfl ?_
        refine DH_skip 18 (by kernel_rfl) rfl rfl (.no rfl rfl rfl rfl (bno h1712)) pk rfl ?_
        refine DH_skip 19 (by kernel_rfl) rfl rfl (.no rfl rfl rfl rfl (bno h1712)) pk rfl ?_
        refine DH_skip 20 (by kernel_rfl) rfl rfl (.no rfl rfl rfl rfl (bno h1712)) pk rfl ?_
        refine DH_skip 21 (by kernel_rfl) rfl rfl (.no rfl rfl rfl rfl (bno h1712)) pk rfl ?_
        refine DH_skip 22 (by kernel_rfl) rfl rfl (.no rfl rfl rfl rfl (bno h1712)) pk rfl ?_
        refine DH_skip 23 (by kernel_rfl) rfl rfl (.no rfl rfl rfl rfl (bno h1712)) pk rfl ?_
        refine DH_skip 24 (by kernel_rfl) rfl rfl (.no rfl rfl rfl rfl (bno h1712)) pk rfl ?_
        refine DH_skip 25 (by kernel_rfl) rfl rfl (.no rfl rfl rfl rfl (bno h1712)) pk rfl ?_
        refine DH_take 26 (by kernel_rfl) rfl rfl (.yes rfl rfl rfl rfl (dec_f h1711)) pk sH rfl (VR.ofV (V_pickF rfl (bno h1712) rfl)) ?_
        refine DH_take 27 (by kernel_rfl) rfl rfl (.no rfl) pk sH rfl (VR.ofV (V_pickF rfl (dec_f h1711) rfl)) ?_
        refine DH_open dd sH ?_
        refine DN_done (by kernel_rfl) ?_
        have hr_ := Option.some.inj H
        subst hr_
        exact at_normal (St.mk1 (aeq rfl (aeq rfl (aeq rfl aeq0))) (Gh.sel [0, 1] rfl rfl))
      rintro e ds As hst1713
      clear H
      have H := Bt29
      clear Bt29
      refine at_normal ?_
      refine SA.of_St hst1713 fun junk => ?_
      by_cases h1714 : t29 = true
      · replace H := g_ift h1714 H
        refine SA_condTb rfl h1714 ?_
        refine SA_seq ?_
        refine SA_region ?_
        refine RA_step rfl (OA_v (v := .bool false) rfl (V_assign rfl) ?_)
        refine RA_nil ?_
        refine at_normal ?_
        refine SA_ret ?_
        refine thn_ret ?_
        refine inb_ret ?_
        refine thn_ret ?_
        refine thn_ret ?_
        refine inb_ret ?_
        refine thn_ret ?_
        refine thn_ret ?_
        have hr_ := Option.some.inj H
        subst hr_
        have hb_ := el_ret Bt14
        have hr_ := Option.some.inj hb_
        clear hb_
        subst hr_
        exact BQ_R1 [] rfl rfl (Gh.sel [] rfl rfl) ⟨rfl, rfl⟩
      replace H := g_iff h1714 H
      refine SA_condFb rfl h1714 ?_
      refine SA_skip ?_
      refine at_normal ?_
      refine SA_seq ?_
      obtain ⟨t1715, H, Bt1715⟩ := g_bind H
      refine SA_mid (fun e ds As => St [(1, .pointer (some ⟨b2, 0, none⟩)), (3, .int .i64 x3_15), (99, .bool t1715)] [Blk b2 67 [.int .i64 a0.f0, .int .i64 a0.f1, .slice A0_0 a0.f2.length c0_0], Ro k76 A0_0 c0_0 a0.f2] e ds As) ?_ ?_
      · refine SA_drawHq (0 :: 1 :: 2 :: 3 :: 4 :: 5 :: 6 :: 7 :: 8 :: 9 :: 10 :: 11 :: 12 :: 13 :: 14 :: 15 :: 16 :: []) (List.toArray ([] :: [0] :: [] :: [0, 1, 2] :: [0, 1, 2, 3] :: [0, 1, 2, 3, 4] :: [0, 1, 2, 3, 4, 5] :: [0, 1, 2, 3, 4, 5, 6] :: [0, 1, 2, 3, 4, 5, 6, 7] :: [0, 1, 2, 3, 4, 5, 6, 7] :: [0, 1, 2, 3, 4, 5, 6, 7, 9] :: [0, 1, 2, 3, 4, 5, 6, 7, 8, 9, 10] :: [0, 1, 2, 3, 4, 5, 6, 7] :: [0, 1, 2, 3, 4, 5, 6, 7, 12] :: [0, 1, 2, 3, 4, 5, 6, 7, 12, 13] :: (0 :: 1 :: 2 :: 3 :: 4 :: 5 :: 6 :: 7 :: 8 :: 9 :: 10 :: 11 :: 12 :: 13 :: 14 :: []) :: (0 :: 1 :: 2 :: 3 :: 4 :: 5 :: 6 :: 7 :: 8 :: 9 :: 10 :: 11 :: 12 :: 13 :: 14 :: 15 :: []) :: [])) [0, 1] [1] mixed rfl rfl rfl (PanOk.thn (PanOk.thn (PanOk.inb (PanOk.thn (PanOk.thn (PanOk.inb (PanOk.thn (PanOk.thn PanOk.body)))))))) fun I0 hS h0 hh0 w0 sH dd pk => ?_
        refine DH_take (v := .pointer (some ((⟨b2, 0, none⟩ : Addr).add 2))) 0 (by kernel_rfl) rfl rfl (.no rfl) pk sH rfl (VR.ofV (V_fieldAddrN (B := ⟨b2, 0, none⟩) (m := 0) (o := 2) Try.underlying67 rfl nz65 rfl rfl)) ?_
        refine DH_take 1 (by kernel_rfl) rfl rfl (.no rfl) pk sH rfl (VR_load_blk (b := b2) (m := 2) (k := 0) Try.underlying65 rfl rfl rfl rfl) ?_
        refine DH_take (v := .int .i64 x3_15) 2 (by kernel_rfl) rfl rfl (.no rfl) pk sH rfl (VR.ofV (V_move rfl)) ?_
        obtain ⟨⟨g1896, g1897⟩, H⟩ := g_pos H
        refine DH_take 3 (by kernel_rfl) rfl rfl (.no rfl) pk sH rfl (VR_index (i := x3_15) Try.underlying65 sz76 rfl rfl (Src.ro (k := 1) rfl) g1896 g1897) ?_
        refine DH_take (v := .pointer (some ((el A0_0 (x3_15.toNat * 15)).add 4))) 4 (by kernel_rfl) rfl rfl (.no rfl) pk sH rfl (VR.ofV (V_fieldAddrN (B := el A0_0 (x3_15.toNat * 15)) (m := 0) (o := 4) Try.underlying76 rfl nz5 rfl rfl)) ?_
        refine DH_take 5 (by kernel_rfl) rfl rfl (.no rfl) pk sH rfl (VR_load_el (enc := enc76) (i := x3_15) (j := x3_15.toNat * 15) (m := 4) (sz := 15) Try.underlying5 rfl rfl rfl rfl (Src.ro (k := 1) rfl) g1896 g1897 (fun _ _ h => h) rfl) ?_
        refine DH_take (v := .bool (decide (((rd a0.f2 x3_15).f2) = 2))) 6 (by kernel_rfl) rfl rfl (.no rfl) pk sH rfl (VR.ofV (V_eql rfl rfl)) ?_
        refine DH_take (v := .bool (decide (((rd a0.f2 x3_15).f2) = 2))) 7 (by kernel_rfl) rfl rfl (.no rfl) pk sH rfl (VR.ofV (V_move rfl)) ?_
        by_cases h2737 : ((rd a0.f2 x3_15).f2) = 2
        · replace H := g_ift h2737 H
          refine DH_take (v := .int .i64 x3_15) 8 (by kernel_rfl) rfl rfl (.yes rfl rfl rfl rfl (dec_t h2737)) pk sH rfl (VR.ofV (V_move rfl)) ?_
          refine DH_take (v := .pointer (some ⟨b2, 0, none⟩)) 9 (by kernel_rfl) rfl rfl (.yes rfl rfl rfl rfl (dec_t h2737)) pk sH rfl (VR.ofV (V_fieldAddrN (B := ⟨b2, 0, none⟩) (m := 0) (o := 0) Try.underlying67 rfl nz3 rfl rfl)) ?_
          refine DH_take 10 (by kernel_rfl) rfl rfl (.yes rfl rfl rfl rfl (dec_t h2737)) pk sH rfl (VR_load_blk (b := b2) (m := 0) (k := 0) Try.underlying3 rfl rfl rfl rfl) ?_
          obtain ⟨g2376, H⟩ := g_pos H
          refine DH_take (v := .int .i64 (x3_15.tmod a0.f0)) 11 (by kernel_rfl) rfl rfl (.yes rfl rfl rfl rfl (dec_t h2737)) pk sH rfl (VR.ofV (V_rem rfl rfl g2376)) ?_
          refine DH_take (v := .pointer (some ⟨b2, 0, none⟩)) 12 (by kernel_rfl) rfl rfl (.yes rfl rfl rfl rfl (dec_t h2737)) pk sH rfl (VR.ofV (V_fieldAddrN (B := ⟨b2, 0, none⟩) (m := 0) (o := 0) Try.underlying67 rfl nz3 rfl rfl)) ?_
          refine DH_take 13 (by kernel_rfl) rfl rfl (.yes rfl rfl rfl rfl (dec_t h2737)) pk sH rfl (VR_load_blk (b := b2) (m := 0) (k := 0) Try.underlying3 rfl rfl rfl rfl) ?_
          refine DH_take (v := .int .i64 (IntKind.i64.wrap (a0.f0 - 1))) 14 (by kernel_rfl) rfl rfl (.yes rfl rfl rfl rfl (dec_t h2737)) pk sH rfl (VR.ofV (V_sub rfl rfl)) ?_
          refine DH_take (v := .bool (decide ((x3_15.tmod a0.f0) = (IntKind.i64.wrap (a0.f0 - 1))))) 15 (by kernel_rfl) rfl rfl (.yes rfl rfl rfl rfl (dec_t h2737)) pk sH rfl (VR.ofV (V_eql rfl rfl)) ?_
          refine DH_take 16 (by kernel_rfl) rfl rfl (.no rfl) pk sH rfl (VR.ofV (V_pickT rfl (dec_t h2737) rfl)) ?_
          refine DH_open dd sH ?_
          refine DN_done (by kernel_rfl) ?_
          have hr_ := Option.some.inj H
          subst hr_
          exact at_normal (St.mk1 (aeq rfl (aeq rfl (aeq rfl aeq0))) (Gh.sel [0, 1] rfl rfl))
        replace H := g_iff h2737 H
        refine DH_skip 8 (by kernel_rfl) rfl rfl (.no rfl rfl rfl rfl (dec_f h2737)) pk rfl ?_
        refine DH_skip 9 (by kernel_rfl) rfl rfl (.no rfl rfl rfl rfl (dec_f h2737)) pk rfl ?_
        refine DH_skip 10 (by kernel_rfl) rfl rfl (.no rfl rfl rfl rfl (dec_f h2737)) pk rfl ?_
        refine DH_skip 11 (by kernel_rfl) rfl rfl (.no rfl rfl rfl rfl (dec_f h2737)) pk rfl ?_
        refine DH_skip 12 (by kernel_rfl) rfl rfl (.no rfl rfl rfl rfl (dec_f h2737)) pk rfl ?_
        refine DH_skip 13 (by kernel_rfl) rfl rfl (.no rfl rfl rfl rfl (dec_f h2737)) pk rfl ?_
        refine DH_skip 14 (by kernel_rfl) rfl rfl (.no rfl rfl rfl rfl (dec_f h2737)) pk rfl ?_
        refine DH_skip 15 (by kernel_rfl) rfl rfl (.no rfl rfl rfl rfl (dec_f h2737)) pk rfl ?_
        refine DH_take 16 (by kernel_rfl) rfl rfl (.no rfl) pk sH rfl (VR.ofV (V_pickF rfl (dec_f h2737) rfl)) ?_
        refine DH_open dd sH ?_
        refine DN_done (by kernel_rfl) ?_
        have hr_ := Option.some.inj H
        subst hr_
        exact at_normal (St.mk1 (aeq rfl (aeq rfl (aeq rfl aeq0))) (Gh.sel [0, 1] rfl rfl))
      rintro e ds As hst2738
      clear H
      have H := Bt1715
      clear Bt1715
      refine at_normal ?_
      refine SA.of_St hst2738 fun junk => ?_
      by_cases h2739 : t1715 = true
      · replace H := g_ift h2739 H
        refine SA_condTb rfl h2739 ?_
        refine SA_seq ?_
        refine SA_region ?_
        refine RA_step rfl (OA_v (v := .bool false) rfl (V_assign rfl) ?_)
        refine RA_nil ?_
        refine at_normal ?_
        refine SA_ret ?_
        refine inb_ret ?_
        refine thn_ret ?_
        refine thn_ret ?_
        refine inb_ret ?_
        refine thn_ret ?_
        refine thn_ret ?_
        have hr_ := Option.some.inj H
        subst hr_
        have hb_ := el_ret Bt14
        have hr_ := Option.some.inj hb_
        clear hb_
        subst hr_
        exact BQ_R1 [] rfl rfl (Gh.sel [] rfl rfl) ⟨rfl, rfl⟩
      replace H := g_iff h2739 H
      refine SA_condFb rfl h2739 ?_
      refine SA_skip ?_
      refine inb_normal ?_
      refine at_normal ?_
      refine SA_region ?_
      refine RA_step rfl (OA_v (v := .int .i64 x3_15) rfl (V_move rfl) ?_)
      refine RA_step rfl (OA_v (v := .int .i64 (IntKind.i64.wrap (x3_15 + 1))) rfl (V_add rfl rfl) ?_)
      obtain ⟨n2740, hn2740, H⟩ := g_lt H
      refine RA_step rfl (OA_v (v := .int .i64 n2740) rfl (V_assign (v := .int .i64 n2740) (congrArg (Value.int .i64) hn2740.symm)) ?_)
      refine RA_nil ?_
      exact at_normal ⟨k16, Nat.lt_succ_self _, _, H, St.mk1 (aeq rfl (aeq rfl aeq0)) (Gh.sel [0, 1] rfl rfl)⟩
    replace H := g_iff h18 H
    refine SA_condF rfl h18 ?_
    refine SA_exit ?_
    refine thn_exit ?_
    refine thn_exit ?_
    refine inb_hit ?_
    have hr_ := Option.some.inj H
    subst hr_
    exact at_normal ⟨(), rfl, St.mk1 aeq0 (Gh.sel [] rfl rfl)⟩
  rintro e ds As ⟨s15, ht, hst2742⟩
  clear H
  subst ht
  replace Bt14 := el_go Bt14
  have H := Bt14
  clear Bt14
  refine at_normal ?_
  refine SA.of_St hst2742 fun junk => ?_
  refine SA_seq ?_
  refine SA_region ?_
  refine RA_step rfl (OA_v (v := .bool true) rfl (V_assign rfl) ?_)
  refine RA_nil ?_
  refine at_normal ?_
  refine SA_ret ?_
  have hr_ := Option.some.inj H
  subst hr_
  exact BQ_R1 [] rfl rfl (Gh.sel [] rfl rfl) ⟨rfl, rfl⟩

/-! ### function 82: wayfarer/wayfarerref15.bad -/
def F82.f (k : Nat) (a0 : S67) (a1 : S70) (a2 : Int) : Option (Bool) := (F30.f k a0).bind (fun r6 => (if (!r6) = true then (some true) else ((F89.f a1).bind (fun r9 => some (!r9))) : Option Bool).bind (fun q7 => lt (q7 || (decide (a2 < 0))) fun q12 => lt (q12 || (decide (a2 ≥ a0.f1))) fun q15 => some (q15)))
set_option maxHeartbeats 2000000 in
set_option maxRecDepth 100000 in
theorem F82.ok {k : Nat} {a0 : S67} {a1 : S70} {a2 : Int} {A0_0 : Option Addr} {c0_0 : Nat} {r : Bool} (H : F82.f k a0 a1 a2 = some r) : SCA Try.prog 82 #[.agg #[.int .i64 a0.f0, .int .i64 a0.f1, .slice A0_0 a0.f2.length c0_0], .agg #[.int .i64 a1.f0, .int .i64 a1.f1, .bool a1.f2, .bool a1.f3, .bool a1.f4, .bool a1.f5, .bool a1.f6, .bool a1.f7, .bool a1.f8, .bool a1.f9], .int .i64 a2] [Ro k76 A0_0 c0_0 a0.f2] (fun v B => v = .bool r ∧ B = []) := by
  refine SCA_of_body Try.func82 rfl rfl ?_
  unfold F82.f at H
  refine SA_seq ?_
  refine SA_region ?_
  refine RA_step rfl (OA_box rfl rfl fun b2 => ?_)
  refine RA_step rfl (OA_box rfl rfl fun b4 => ?_)
  refine RA_step rfl (OA_v (v := .bool false) rfl (V_assign rfl) ?_)
  refine RA_nil ?_
  refine at_normal ?_
  refine SA_seq ?_
  refine SA_region ?_
  refine RA_step rfl (OA_r rfl (VR_loadA_blk (b := b2) (m := 0) (k := 1) (vs := [.int .i64 a0.f0, .int .i64 a0.f1, .slice A0_0 a0.f2.length c0_0]) Try.underlying67 rfl sz67 rfl rfl rfl) ?_)
  obtain ⟨r6, C18, H⟩ := g_bind H
  refine RA_step rfl (OA_callA [0] [0, 1, 2] rfl (X_fn (vs := [.agg #[.int .i64 a0.f0, .int .i64 a0.f1, .slice A0_0 a0.f2.length c0_0]]) Try.func30 nm30 rfl rfl) rfl (F30.ok (a0 := a0) (A0_0 := A0_0) (c0_0 := c0_0) C18) rfl ?_)
  rintro _ _ ⟨rfl, rfl⟩
  refine RA_step rfl (OA_v (v := .bool (!r6)) rfl (V_not rfl) ?_)
  refine RA_step rfl (OA_v (v := .bool (!r6)) rfl (V_move rfl) ?_)
  obtain ⟨q7, H, Bq7⟩ := g_bind H
  refine RA_cut 4 (fun e ds As => St [(2, .int .i64 a2), (3, .pointer (some ⟨b2, 0, none⟩)), (14, .bool q7)] [Blk b2 67 [.int .i64 a0.f0, .int .i64 a0.f1, .slice A0_0 a0.f2.length c0_0], Ro k76 A0_0 c0_0 a0.f2] e ds As) ?_ ?_
  · by_cases h8 : (!r6) = true
    · replace H := g_ift h8 H
      refine RA_noB rfl rfl rfl rfl (h8) rfl ?_
      refine RA_noB rfl rfl rfl rfl (h8) rfl ?_
      refine RA_noB rfl rfl rfl rfl (h8) rfl ?_
      refine RA_step rfl (OA_v rfl (V_pickT rfl (h8) rfl) ?_)
      have hr_ := Option.some.inj H
      subst hr_
      refine RA_nil ?_
      exact at_normal (St.mk1 (aeq rfl (aeq rfl (aeq rfl aeq0))) (Gh.sel [1, 0] rfl rfl))
    replace H := g_iff h8 H
    refine RA_yesB rfl rfl rfl rfl (bno h8) (OA_r rfl (VR_loadA_blk (b := b4) (m := 0) (k := 2) (vs := [.int .i64 a1.f0, .int .i64 a1.f1, .bool a1.f2, .bool a1.f3, .bool a1.f4, .bool a1.f5, .bool a1.f6, .bool a1.f7, .bool a1.f8, .bool a1.f9]) Try.underlying70 rfl sz70 rfl rfl rfl) ?_)
    obtain ⟨r9, C10, H⟩ := g_bind H
    refine RA_yesB rfl rfl rfl rfl (bno h8) (OA_callA [] [0, 1, 2] rfl (X_fn (vs := [.agg #[.int .i64 a1.f0, .int .i64 a1.f1, .bool a1.f2, .bool a1.f3, .bool a1.f4, .bool a1.f5, .bool a1.f6, .bool a1.f7, .bool a1.f8, .bool a1.f9]]) Try.func89 nm89 rfl rfl) rfl (F89.ok (a0 := a1) C10) rfl ?_)
    rintro _ _ ⟨rfl, rfl⟩
    refine RA_yesB rfl rfl rfl rfl (bno h8) (OA_v (v := .bool (!r9)) rfl (V_not rfl) ?_)
    refine RA_step rfl (OA_v rfl (V_pickF rfl (bno h8) rfl) ?_)
    have hr_ := Option.some.inj H
    subst hr_
    refine RA_nil ?_
    exact at_normal (St.mk1 (aeq rfl (aeq rfl (aeq rfl aeq0))) (Gh.sel [1, 0] rfl rfl))
  rintro e ds As hst11
  clear H
  have H := Bq7
  clear Bq7
  refine RA.of_St rfl hst11 fun junk => ?_
  refine RA_step rfl (OA_v (v := .bool q7) rfl (V_move rfl) ?_)
  obtain ⟨q12, hq12, H⟩ := g_lt H
  refine RA_cut 3 (fun e ds As => St [(2, .int .i64 a2), (3, .pointer (some ⟨b2, 0, none⟩)), (18, .bool q12)] [Blk b2 67 [.int .i64 a0.f0, .int .i64 a0.f1, .slice A0_0 a0.f2.length c0_0], Ro k76 A0_0 c0_0 a0.f2] e ds As) ?_ ?_
  · by_cases h13 : q7 = true
    · refine RA_noB rfl rfl rfl rfl (h13) rfl ?_
      refine RA_noB rfl rfl rfl rfl (h13) rfl ?_
      refine RA_step rfl (OA_v rfl (V_pickT rfl (h13) rfl) ?_)
      refine RA_nil ?_
      exact at_normal (St.mk1 (aeq rfl (aeq rfl (aeq (congrArg Value.bool (or_t hq12 (h13))) aeq0))) (Gh.sel [0, 1] rfl rfl))
    refine RA_yesB rfl rfl rfl rfl (bno h13) (OA_v (v := .int .i64 a2) rfl (V_move rfl) ?_)
    refine RA_yesB rfl rfl rfl rfl (bno h13) (OA_v (v := .bool (decide (a2 < 0))) rfl (V_lss rfl rfl) ?_)
    refine RA_step rfl (OA_v rfl (V_pickF rfl (bno h13) rfl) ?_)
    refine RA_nil ?_
    exact at_normal (St.mk1 (aeq rfl (aeq rfl (aeq (congrArg Value.bool (or_f hq12 (bno h13))) aeq0))) (Gh.sel [0, 1] rfl rfl))
  rintro e ds As hst14
  refine RA.of_St rfl hst14 fun junk => ?_
  refine RA_step rfl (OA_v (v := .bool q12) rfl (V_move rfl) ?_)
  obtain ⟨q15, hq15, H⟩ := g_lt H
  refine RA_cut 5 (fun e ds As => St [(24, .bool q15)] [] e ds As) ?_ ?_
  · by_cases h16 : q12 = true
    · refine RA_noB rfl rfl rfl rfl (h16) rfl ?_
      refine RA_noB rfl rfl rfl rfl (h16) rfl ?_
      refine RA_noB rfl rfl rfl rfl (h16) rfl ?_
      refine RA_noB rfl rfl rfl rfl (h16) rfl ?_
      refine RA_step rfl (OA_v rfl (V_pickT rfl (h16) rfl) ?_)
      refine RA_nil ?_
      exact at_normal (St.mk1 (aeq (congrArg Value.bool (or_t hq15 (h16))) aeq0) (Gh.sel [] rfl rfl))
    refine RA_yesB rfl rfl rfl rfl (bno h16) (OA_v (v := .int .i64 a2) rfl (V_move rfl) ?_)
    refine RA_yesB rfl rfl rfl rfl (bno h16) (OA_v (v := .pointer (some ((⟨b2, 0, none⟩ : Addr).add 1))) rfl (V_fieldAddrN (B := ⟨b2, 0, none⟩) (m := 0) (o := 1) Try.underlying67 rfl nz3 rfl rfl) ?_)
    refine RA_yesB rfl rfl rfl rfl (bno h16) (OA_r rfl (VR_load_blk (b := b2) (m := 1) (k := 0) Try.underlying3 rfl rfl rfl rfl) ?_)
    refine RA_yesB rfl rfl rfl rfl (bno h16) (OA_v (v := .bool (decide (a2 ≥ a0.f1))) rfl (V_geq rfl rfl) ?_)
    refine RA_step rfl (OA_v rfl (V_pickF rfl (bno h16) rfl) ?_)
    refine RA_nil ?_
    exact at_normal (St.mk1 (aeq (congrArg Value.bool (or_f hq15 (bno h16))) aeq0) (Gh.sel [] rfl rfl))
  rintro e ds As hst17
  refine RA.of_St rfl hst17 fun junk => ?_
  refine RA_step rfl (OA_v (v := .bool q15) rfl (V_assign rfl) ?_)
  refine RA_nil ?_
  refine at_normal ?_
  refine SA_ret ?_
  have hr_ := Option.some.inj H
  subst hr_
  exact BQ_R1 [] rfl rfl (Gh.sel [] rfl rfl) ⟨rfl, rfl⟩

/-! ### function 36: wayfarer/wayfarerref15.Copy -/
def F36.f (a0 : S67) : Option (S67) := if ([] : (List S76)).length + a0.f2.length ≤ 2932031007402 then lt (([] : (List S76)) ++ a0.f2) fun n12 => (some ((S67.mk a0.f0 a0.f1 n12))) else none
set_option maxHeartbeats 2000000 in
set_option maxRecDepth 100000 in
theorem F36.ok {a0 : S67} {A0_0 : Option Addr} {c0_0 : Nat} {r : S67} (H : F36.f a0 = some r) : SCA Try.prog 36 #[.agg #[.int .i64 a0.f0, .int .i64 a0.f1, .slice A0_0 a0.f2.length c0_0]] [Ro k76 A0_0 c0_0 a0.f2] (fun v B => ∃ (A0_0_ : Option Addr) (c0_0_ : Nat), v = .agg #[.int .i64 r.f0, .int .i64 r.f1, .slice A0_0_ r.f2.length c0_0_] ∧ B = [Buf k76 76 A0_0_ c0_0_ r.f2]) := by
  refine SCA_of_body Try.func36 rfl rfl ?_
  unfold F36.f at H
  refine SA_seq ?_
  refine SA_region ?_
  refine RA_step rfl (OA_box rfl rfl fun b2 => ?_)
  refine RA_step rfl (OA_alloc rfl zero67 fun b4 => ?_)
  refine RA_nil ?_
  refine at_normal ?_
  refine SA_seq ?_
  refine SA_region ?_
  refine RA_step rfl (OA_bs (kd := k76) (zv := (.agg (List.toArray (.int .i32 0 :: .int .i32 0 :: .int .i32 0 :: .int .i32 0 :: .int .u8 0 :: .int .i64 0 :: .int .i64 0 :: .bool false :: .bool false :: .bool false :: .bool false :: .bool false :: .bool false :: .bool false :: .bool false :: [])))) (sz := 15) (cells := []) (xs := ([] : (List S76))) rfl Try.underlying65 zero76 sz76 rfl rfl rfl (by kernel_rfl) rfl rfl (RL_enc enc76 (fun _ _ => rfl) (by kernel_rfl)) fun b6 => ?_)
  refine RA_step rfl (OA_v (v := .pointer (some ((⟨b2, 0, none⟩ : Addr).add 2))) rfl (V_fieldAddrN (B := ⟨b2, 0, none⟩) (m := 0) (o := 2) Try.underlying67 rfl nz65 rfl rfl) ?_)
  refine RA_step rfl (OA_r rfl (VR_load_blk (b := b2) (m := 2) (k := 1) Try.underlying65 rfl rfl rfl rfl) ?_)
  obtain ⟨g9, H⟩ := g_pos H
  obtain ⟨n12, hn12, H⟩ := g_lt H
  refine RA_step rfl (OA_app (k := 3) (A := some ⟨b6, 0, none⟩) (c := 0) (xs := ([] : (List S76))) (ys := a0.f2) n12 hn12 rfl Try.underlying65 inf76 rfl rfl rfl rfl rfl (Yld.slice Try.underlying65 (Src.ro (k := 0) rfl)) (by omega) (by omega) fun A10 c11 => ?_)
  refine RA_step rfl (OA_v (v := .pointer (some ((⟨b2, 0, none⟩ : Addr).add 2))) rfl (V_fieldAddrN (B := ⟨b2, 0, none⟩) (m := 0) (o := 2) Try.underlying67 rfl nz65 rfl rfl) ?_)
  refine RA_step rfl (OA_st (b := b2) (m := 2) (k := 1) (vs := [.slice A10 n12.length c11]) (cs' := [.int .i64 a0.f0, .int .i64 a0.f1, .slice A10 n12.length c11]) rfl rfl rfl rfl rfl rfl sz65 rfl rfl ?_)
  refine RA_nil ?_
  refine at_normal ?_
  refine SA_seq ?_
  refine SA_region ?_
  refine RA_step rfl (OA_r rfl (VR_loadA_blk (b := b2) (m := 0) (k := 1) (vs := [.int .i64 a0.f0, .int .i64 a0.f1, .slice A10 n12.length c11]) Try.underlying67 rfl sz67 rfl rfl rfl) ?_)
  refine RA_step rfl (OA_st (b := b4) (m := 0) (k := 2) (vs := [.int .i64 a0.f0, .int .i64 a0.f1, .slice A10 n12.length c11]) (cs' := [.int .i64 a0.f0, .int .i64 a0.f1, .slice A10 n12.length c11]) rfl rfl rfl rfl rfl rfl sz67 rfl rfl ?_)
  refine RA_nil ?_
  refine at_normal ?_
  refine SA_ret ?_
  have hr_ := Option.some.inj H
  subst hr_
  exact BQ_RL (rs := [.cell 2 67]) (vs := [.agg #[.int .i64 a0.f0, .int .i64 a0.f1, .slice A10 n12.length c11]]) [Buf k76 76 A10 c11 n12] rfl ⟨RV.cell (k := 2) rfl rfl Try.underlying67 rfl sz67, trivial⟩ rfl (Gh.sel [3] rfl rfl) ⟨A10, c11, rfl, rfl⟩

/-! ### function 83: wayfarer/wayfarerref15.row -/
def F83.f (a0 : S67) (a1 : Int) : Option ((List S76)) := if 0 ≤ (IntKind.i64.wrap (a1 * a0.f0)) ∧ (IntKind.i64.wrap (a1 * a0.f0)) ≤ (IntKind.i64.wrap ((IntKind.i64.wrap (a1 + 1)) * a0.f0)) ∧ (IntKind.i64.wrap ((IntKind.i64.wrap (a1 + 1)) * a0.f0)) ≤ (a0.f2.length : Int) then lt (sub a0.f2 (IntKind.i64.wrap (a1 * a0.f0)) (IntKind.i64.wrap ((IntKind.i64.wrap (a1 + 1)) * a0.f0))) fun n10 => (some (n10)) else none
set_option maxHeartbeats 2000000 in
set_option maxRecDepth 100000 in
theorem F83.ok {a0 : S67} {a1 : Int} {A0_0 : Option Addr} {c0_0 : Nat} {r : (List S76)} (H : F83.f a0 a1 = some r) : SCA Try.prog 83 #[.agg #[.int .i64 a0.f0, .int .i64 a0.f1, .slice A0_0 a0.f2.length c0_0], .int .i64 a1] [Ro k76 A0_0 c0_0 a0.f2] (fun v B => ∃ (A0_0_ : Option Addr) (c0_0_ : Nat), v = .slice A0_0_ r.length c0_0_ ∧ B = [Ro k76 A0_0_ c0_0_ r]) := by
  refine SCA_of_body Try.func83 rfl rfl ?_
  unfold F83.f at H
  refine SA_seq ?_
  refine SA_region ?_
  refine RA_step rfl (OA_box rfl rfl fun b2 => ?_)
  refine RA_step rfl (OA_v (v := .slice none 0 0) rfl (V_assign rfl) ?_)
  refine RA_nil ?_
  refine at_normal ?_
  refine SA_seq ?_
  refine SA_region ?_
  refine RA_step rfl (OA_v (v := .pointer (some ((⟨b2, 0, none⟩ : Addr).add 2))) rfl (V_fieldAddrN (B := ⟨b2, 0, none⟩) (m := 0) (o := 2) Try.underlying67 rfl nz65 rfl rfl) ?_)
  refine RA_step rfl (OA_r rfl (VR_load_blk (b := b2) (m := 2) (k := 1) Try.underlying65 rfl rfl rfl rfl) ?_)
  refine RA_step rfl (OA_v (v := .int .i64 a1) rfl (V_move rfl) ?_)
  refine RA_step rfl (OA_v (v := .pointer (some ⟨b2, 0, none⟩)) rfl (V_fieldAddrN (B := ⟨b2, 0, none⟩) (m := 0) (o := 0) Try.underlying67 rfl nz3 rfl rfl) ?_)
  refine RA_step rfl (OA_r rfl (VR_load_blk (b := b2) (m := 0) (k := 1) Try.underlying3 rfl rfl rfl rfl) ?_)
  refine RA_step rfl (OA_v (v := .int .i64 (IntKind.i64.wrap (a1 * a0.f0))) rfl (V_mul rfl rfl) ?_)
  refine RA_step rfl (OA_v (v := .int .i64 a1) rfl (V_move rfl) ?_)
  refine RA_step rfl (OA_v (v := .int .i64 (IntKind.i64.wrap (a1 + 1))) rfl (V_add rfl rfl) ?_)
  refine RA_step rfl (OA_v (v := .pointer (some ⟨b2, 0, none⟩)) rfl (V_fieldAddrN (B := ⟨b2, 0, none⟩) (m := 0) (o := 0) Try.underlying67 rfl nz3 rfl rfl) ?_)
  refine RA_step rfl (OA_r rfl (VR_load_blk (b := b2) (m := 0) (k := 1) Try.underlying3 rfl rfl rfl rfl) ?_)
  refine RA_step rfl (OA_v (v := .int .i64 (IntKind.i64.wrap ((IntKind.i64.wrap (a1 + 1)) * a0.f0))) rfl (V_mul rfl rfl) ?_)
  obtain ⟨⟨g4, g5, g6⟩, H⟩ := g_pos H
  obtain ⟨n10, hn10, H⟩ := g_lt H
  refine RA_step rfl (OA.ghost (Gh.subN (k := 0) (l := IntKind.i64.wrap (a1 * a0.f0)) (h := IntKind.i64.wrap ((IntKind.i64.wrap (a1 + 1)) * a0.f0)) (m := (c0_0 : Int)) (sz := 15) hn10 rfl rfl g4 g5 g6 (.inl rfl)) (OA_r rfl (VR_sub (k := 0) (l := IntKind.i64.wrap (a1 * a0.f0)) (h := IntKind.i64.wrap ((IntKind.i64.wrap (a1 + 1)) * a0.f0)) (m := (c0_0 : Int)) hn10 rfl Try.underlying65 sz76 rfl rfl rfl rfl (.inr ⟨_, rfl⟩) (.inr ⟨_, rfl⟩) (.inl ⟨rfl, rfl⟩) g4 g5 g6) ?_))
  refine RA_step rfl (OA_v (v := .slice (slA A0_0 (IntKind.i64.wrap (a1 * a0.f0)) (c0_0 : Int) 15) n10.length ((c0_0 : Int).toNat - (IntKind.i64.wrap (a1 * a0.f0)).toNat)) rfl (V_assign rfl) ?_)
  refine RA_nil ?_
  refine at_normal ?_
  refine SA_ret ?_
  have hr_ := Option.some.inj H
  subst hr_
  exact BQ_R1 [Ro k76 (slA A0_0 (IntKind.i64.wrap (a1 * a0.f0)) (c0_0 : Int) 15) ((c0_0 : Int).toNat - (IntKind.i64.wrap (a1 * a0.f0)).toNat) n10] rfl rfl (Gh.sel [2] rfl rfl) ⟨slA A0_0 (IntKind.i64.wrap (a1 * a0.f0)) (c0_0 : Int) 15, (c0_0 : Int).toNat - (IntKind.i64.wrap (a1 * a0.f0)).toNat, rfl, rfl⟩

/-! ### function 83: wayfarer/wayfarerref15.row -/
def F83b0.f (a0 : S67) (a1 : Int) : Option ((Int × Int)) := if 0 ≤ (IntKind.i64.wrap (a1 * a0.f0)) ∧ (IntKind.i64.wrap (a1 * a0.f0)) ≤ (IntKind.i64.wrap ((IntKind.i64.wrap (a1 + 1)) * a0.f0)) ∧ (IntKind.i64.wrap ((IntKind.i64.wrap (a1 + 1)) * a0.f0)) ≤ (a0.f2.length : Int) then (some (((0 + (IntKind.i64.wrap (a1 * a0.f0)) : Int), ((IntKind.i64.wrap ((IntKind.i64.wrap (a1 + 1)) * a0.f0)) - (IntKind.i64.wrap (a1 * a0.f0)) : Int)))) else none
set_option maxHeartbeats 2000000 in
set_option maxRecDepth 100000 in
theorem F83b0.ok {a0 : S67} {a1 : Int} {A0_0 : Option Addr} {c0_0 : Nat} {r : (Int × Int)} (H : F83b0.f a0 a1 = some r) : SCA Try.prog 83 #[.agg #[.int .i64 a0.f0, .int .i64 a0.f1, .slice A0_0 a0.f2.length c0_0], .int .i64 a1] [Buf k76 76 A0_0 c0_0 a0.f2] (fun v B => ∃ (V0_ : Option Addr) (v0_ : Nat) (_ : Win A0_0 V0_ 15 r.1 r.2 v0_), v = .slice V0_ r.2.toNat v0_ ∧ B = [Buf k76 76 A0_0 c0_0 a0.f2]) := by
  refine SCA_of_body Try.func83 rfl rfl ?_
  unfold F83b0.f at H
  refine SA_seq ?_
  refine SA_region ?_
  refine RA_step rfl (OA_box rfl rfl fun b2 => ?_)
  refine RA_step rfl (OA_v (v := .slice none 0 0) rfl (V_assign rfl) ?_)
  refine RA_nil ?_
  refine at_normal ?_
  refine SA_seq ?_
  refine SA.fact (cap_of (k := 0) rfl) fun hc4 => ?_
  refine SA_region ?_
  refine RA_step rfl (OA_v (v := .pointer (some ((⟨b2, 0, none⟩ : Addr).add 2))) rfl (V_fieldAddrN (B := ⟨b2, 0, none⟩) (m := 0) (o := 2) Try.underlying67 rfl nz65 rfl rfl) ?_)
  refine RA_step rfl (OA_r rfl (VR_load_blk (b := b2) (m := 2) (k := 1) Try.underlying65 rfl rfl rfl rfl) ?_)
  refine RA_step rfl (OA_v (v := .int .i64 a1) rfl (V_move rfl) ?_)
  refine RA_step rfl (OA_v (v := .pointer (some ⟨b2, 0, none⟩)) rfl (V_fieldAddrN (B := ⟨b2, 0, none⟩) (m := 0) (o := 0) Try.underlying67 rfl nz3 rfl rfl) ?_)
  refine RA_step rfl (OA_r rfl (VR_load_blk (b := b2) (m := 0) (k := 1) Try.underlying3 rfl rfl rfl rfl) ?_)
  refine RA_step rfl (OA_v (v := .int .i64 (IntKind.i64.wrap (a1 * a0.f0))) rfl (V_mul rfl rfl) ?_)
  refine RA_step rfl (OA_v (v := .int .i64 a1) rfl (V_move rfl) ?_)
  refine RA_step rfl (OA_v (v := .int .i64 (IntKind.i64.wrap (a1 + 1))) rfl (V_add rfl rfl) ?_)
  refine RA_step rfl (OA_v (v := .pointer (some ⟨b2, 0, none⟩)) rfl (V_fieldAddrN (B := ⟨b2, 0, none⟩) (m := 0) (o := 0) Try.underlying67 rfl nz3 rfl rfl) ?_)
  refine RA_step rfl (OA_r rfl (VR_load_blk (b := b2) (m := 0) (k := 1) Try.underlying3 rfl rfl rfl rfl) ?_)
  refine RA_step rfl (OA_v (v := .int .i64 (IntKind.i64.wrap ((IntKind.i64.wrap (a1 + 1)) * a0.f0))) rfl (V_mul rfl rfl) ?_)
  obtain ⟨⟨g5, g6, g7⟩, H⟩ := g_pos H
  refine RA_step rfl (OA_v (v := .slice (slA A0_0 (IntKind.i64.wrap (a1 * a0.f0)) ((c0_0 : Nat) : Int) 15) ((IntKind.i64.wrap ((IntKind.i64.wrap (a1 + 1)) * a0.f0)) - (IntKind.i64.wrap (a1 * a0.f0))).toNat (((c0_0 : Nat) : Int).toNat - (IntKind.i64.wrap (a1 * a0.f0)).toNat)) rfl (V_sliceW (l := 0) (m := (a0.f2.length : Int)) (a := IntKind.i64.wrap (a1 * a0.f0)) (b := IntKind.i64.wrap ((IntKind.i64.wrap (a1 + 1)) * a0.f0)) (q := ((c0_0 : Nat) : Int)) (Win.whole (sz := 15) (xs := a0.f2) (c := c0_0) (by omega)) Try.underlying65 sz76 rfl rfl rfl rfl (.inr ⟨_, rfl⟩) (.inr ⟨_, rfl⟩) (.inl ⟨rfl, rfl⟩) g5 g6 g7) ?_)
  have hW10 : Win A0_0 (slA A0_0 (IntKind.i64.wrap (a1 * a0.f0)) ((c0_0 : Nat) : Int) 15) 15 (0 + (IntKind.i64.wrap (a1 * a0.f0))) ((IntKind.i64.wrap ((IntKind.i64.wrap (a1 + 1)) * a0.f0)) - (IntKind.i64.wrap (a1 * a0.f0))) (((c0_0 : Nat) : Int).toNat - (IntKind.i64.wrap (a1 * a0.f0)).toNat) := Win.sub (Win.whole (sz := 15) (xs := a0.f2) (c := c0_0) (by omega)) g5 g6 g7 (.inl rfl)
  refine RA_step rfl (OA_v (v := .slice (slA A0_0 (IntKind.i64.wrap (a1 * a0.f0)) ((c0_0 : Nat) : Int) 15) ((IntKind.i64.wrap ((IntKind.i64.wrap (a1 + 1)) * a0.f0)) - (IntKind.i64.wrap (a1 * a0.f0))).toNat (((c0_0 : Nat) : Int).toNat - (IntKind.i64.wrap (a1 * a0.f0)).toNat)) rfl (V_assign rfl) ?_)
  refine RA_nil ?_
  refine at_normal ?_
  refine SA_ret ?_
  have hr_ := Option.some.inj H
  subst hr_
  exact BQ_R1 [Buf k76 76 A0_0 c0_0 a0.f2] rfl rfl (Gh.sel [0] rfl rfl) ⟨slA A0_0 (IntKind.i64.wrap (a1 * a0.f0)) ((c0_0 : Nat) : Int) 15, ((c0_0 : Nat) : Int).toNat - (IntKind.i64.wrap (a1 * a0.f0)).toNat, hW10, rfl, rfl⟩
end Go.Proofs.Ytodkeoibebimgaa.Gr

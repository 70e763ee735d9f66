/- What a function computes, and that it does: 5. -/
import Derived.Test.YtodkeoibebimgaaGr0
import Derived.Test.YtodkeoibebimgaaGr1
import Derived.Test.YtodkeoibebimgaaGr5
import Derived.Test.YtodkeoibebimgaaGr8
import Derived.Test.YtodkeoibebimgaaGr10
namespace Go.Proofs.Ytodkeoibebimgaa.Gr
open Go Go.RowKit Go.Proofs.Ytodkeoibebimgaa.SL
set_option linter.unusedVariables false
set_option linter.unusedSimpArgs false
attribute [local irreducible] IntKind.wrap minI maxI shrI shlI andI orI xorI andNotI cplI rd sub bytesOf strOf slA
/-! ### function 5: wayfarer/wayfarerlaw15.GridBack -/
def F5.l0 (a0 : S67) (r19 : S67 × Int) : Nat → Int → Option (Out (Bool) (Unit))
  | 0, _ => none
  | k + 1, x11_34 => if x11_34 < (a0.f2.length : Int) then (if 0 ≤ x11_34 ∧ x11_34 < (r19.1.f2.length : Int) then (if 0 ≤ x11_34 ∧ x11_34 < (a0.f2.length : Int) then (if (rd r19.1.f2 x11_34) ≠ (rd a0.f2 x11_34) then (some (Out.ret (false))) else (lt (IntKind.i64.wrap (x11_34 + 1)) fun n700 => F5.l0 a0 r19 k n700)) else none) else none) else (some (Out.go ()))
def F5.f (k : Nat) (a0 : S67) (a1 : Int) : Option (Bool) := (F30.f k a0).bind (fun r4 => if (!r4) = true then ((F31.f k ).bind (fun r6 => some (r6))) else (if a0.f1 ≠ 0 then (lt ((IntKind.i64.wrap (a1)).tmod a0.f1) fun n9 => (F32.f ).bind (fun r10 => (F33.f k a0 0 (IntKind.i64.wrap (a0.f1 - 1)) n9 r10).bind (fun r13 => (F33.f k r13.1 0 (IntKind.i64.wrap (a0.f1 - 1)) (IntKind.i64.wrap (0 - n9)) r10).bind (fun r19 => lt ((decide (r13.2 ≠ 0)) || (decide (r19.2 ≠ 0))) fun q25 => lt (q25 || (decide ((r19.1.f2.length : Int) ≠ (a0.f2.length : Int)))) fun q28 => if q28 = true then (some (false)) else (lt (IntKind.i64.wrap (n9 * a0.f0)) fun n32 => (F5.l0 a0 r19 k n32 : Option (Out (Bool) (Unit))).bind (fun t33 => Out.el t33 (fun r_ => some r_) (fun s34 => (F31.f k ).bind (fun r702 => some (r702))))))))) else none))
set_option maxHeartbeats 2000000 in
set_option maxRecDepth 100000 in
theorem F5.ok {k : Nat} {a0 : S67} {a1 : Int} {A0_0 : Option Addr} {c0_0 : Nat} {r : Bool} (H : F5.f k a0 a1 = some r) : SCA Try.prog 5 #[.agg #[.int .i64 a0.f0, .int .i64 a0.f1, .slice A0_0 a0.f2.length c0_0], .int .u8 a1] [Ro k76 A0_0 c0_0 a0.f2] (fun v B => v = .bool r ∧ B = []) := by
  refine SCA_of_body Try.func5 rfl rfl ?_
  unfold F5.f at H
  refine SA_seq ?_
  refine SA_region ?_
  refine RA_step rfl (OA_box rfl rfl fun b2 => ?_)
  refine RA_step rfl (OA_v (v := .bool false) rfl (V_assign rfl) ?_)
  refine RA_nil ?_
  refine at_normal ?_
  refine SA_seq ?_
  refine SA_seq ?_
  refine SA_region ?_
  refine RA_step rfl (OA_r rfl (VR_loadA_blk (b := b2) (m := 0) (k := 1) (vs := [.int .i64 a0.f0, .int .i64 a0.f1, .slice A0_0 a0.f2.length c0_0]) Try.underlying67 rfl sz67 rfl rfl rfl) ?_)
  obtain ⟨r4, C707, H⟩ := g_bind H
  refine RA_step rfl (OA_callA [0] [0, 1] rfl (X_fn (vs := [.agg #[.int .i64 a0.f0, .int .i64 a0.f1, .slice A0_0 a0.f2.length c0_0]]) Try.func30 nm30 rfl rfl) rfl (F30.ok (a0 := a0) (A0_0 := A0_0) (c0_0 := c0_0) C707) rfl ?_)
  rintro _ _ ⟨rfl, rfl⟩
  refine RA_step rfl (OA_v (v := .bool (!r4)) rfl (V_not rfl) ?_)
  refine RA_nil ?_
  refine at_normal ?_
  by_cases h5 : (!r4) = true
  · replace H := g_ift h5 H
    refine SA_condTb rfl h5 ?_
    refine SA_seq ?_
    refine SA_region ?_
    obtain ⟨r6, C7, H⟩ := g_bind H
    refine RA_step rfl (OA_callA [] [0, 1] rfl (X_fn (vs := []) Try.func31 nm31 rfl rfl) rfl (F31.ok C7) rfl ?_)
    rintro _ _ ⟨rfl, rfl⟩
    refine RA_step rfl (OA_v (v := .bool r6) rfl (V_assign rfl) ?_)
    refine RA_nil ?_
    refine at_normal ?_
    refine SA_ret ?_
    refine thn_ret ?_
    have hr_ := Option.some.inj H
    subst hr_
    exact BQ_R1 [] rfl rfl (Gh.sel [] rfl rfl) ⟨rfl, rfl⟩
  replace H := g_iff h5 H
  refine SA_condFb rfl h5 ?_
  refine SA_skip ?_
  refine at_normal ?_
  refine SA_seq ?_
  refine SA_region ?_
  refine RA_step rfl (OA_v (v := .int .u8 a1) rfl (V_move rfl) ?_)
  refine RA_step rfl (OA_v (v := .int .i64 (IntKind.i64.wrap (a1))) rfl (V_conv (T := 5) (by kernel_rfl) Try.underlying3 rfl) ?_)
  refine RA_step rfl (OA_v (v := .pointer (some ((⟨b2, 0, none⟩ : Addr).add 1))) rfl (V_fieldAddrN (B := ⟨b2, 0, none⟩) (m := 0) (o := 1) Try.underlying67 rfl nz3 rfl rfl) ?_)
  refine RA_step rfl (OA_r rfl (VR_load_blk (b := b2) (m := 1) (k := 1) Try.underlying3 rfl rfl rfl rfl) ?_)
  obtain ⟨g8, H⟩ := g_pos H
  refine RA_step rfl (OA_v (v := .int .i64 ((IntKind.i64.wrap (a1)).tmod a0.f1)) rfl (V_rem rfl rfl g8) ?_)
  obtain ⟨n9, hn9, H⟩ := g_lt H
  refine RA_step rfl (OA_v (v := .int .i64 n9) rfl (V_assign (v := .int .i64 n9) (congrArg (Value.int .i64) hn9.symm)) ?_)
  refine RA_nil ?_
  refine at_normal ?_
  refine SA_seq ?_
  refine SA_region ?_
  obtain ⟨r10, C706, H⟩ := g_bind H
  refine RA_step rfl (OA_callA [] [0, 1] rfl (X_fn (vs := []) Try.func32 nm32 rfl rfl) rfl (F32.ok C706) rfl ?_)
  rintro _ _ ⟨rfl, rfl⟩
  refine RA_step rfl (OA_alloc rfl zero70 fun b11 => ?_)
  refine RA_step rfl (OA_st (b := b11) (m := 0) (k := 2) (vs := [.int .i64 r10.f0, .int .i64 r10.f1, .bool r10.f2, .bool r10.f3, .bool r10.f4, .bool r10.f5, .bool r10.f6, .bool r10.f7, .bool r10.f8, .bool r10.f9]) (cs' := [.int .i64 r10.f0, .int .i64 r10.f1, .bool r10.f2, .bool r10.f3, .bool r10.f4, .bool r10.f5, .bool r10.f6, .bool r10.f7, .bool r10.f8, .bool r10.f9]) rfl rfl rfl rfl rfl rfl sz70 rfl rfl ?_)
  refine RA_nil ?_
  refine at_normal ?_
  refine SA_seq ?_
  refine SA_region ?_
  refine RA_step rfl (OA_r rfl (VR_loadA_blk (b := b2) (m := 0) (k := 1) (vs := [.int .i64 a0.f0, .int .i64 a0.f1, .slice A0_0 a0.f2.length c0_0]) Try.underlying67 rfl sz67 rfl rfl rfl) ?_)
  refine RA_step rfl (OA_v (v := .pointer (some ((⟨b2, 0, none⟩ : Addr).add 1))) rfl (V_fieldAddrN (B := ⟨b2, 0, none⟩) (m := 0) (o := 1) Try.underlying67 rfl nz3 rfl rfl) ?_)
  refine RA_step rfl (OA_r rfl (VR_load_blk (b := b2) (m := 1) (k := 1) Try.underlying3 rfl rfl rfl rfl) ?_)
  refine RA_step rfl (OA_v (v := .int .i64 (IntKind.i64.wrap (a0.f1 - 1))) rfl (V_sub rfl rfl) ?_)
  refine RA_step rfl (OA_v (v := .int .i64 n9) rfl (V_move rfl) ?_)
  refine RA_step rfl (OA_r rfl (VR_loadA_blk (b := b11) (m := 0) (k := 2) (vs := [.int .i64 r10.f0, .int .i64 r10.f1, .bool r10.f2, .bool r10.f3, .bool r10.f4, .bool r10.f5, .bool r10.f6, .bool r10.f7, .bool r10.f8, .bool r10.f9]) Try.underlying70 rfl sz70 rfl rfl rfl) ?_)
  obtain ⟨r13, C705, H⟩ := g_bind H
  refine RA_step rfl (OA_callA [0] [0, 1, 2] rfl (X_fn (vs := [.agg #[.int .i64 a0.f0, .int .i64 a0.f1, .slice A0_0 a0.f2.length c0_0], .int .i64 0, .int .i64 (IntKind.i64.wrap (a0.f1 - 1)), .int .i64 n9, .agg #[.int .i64 r10.f0, .int .i64 r10.f1, .bool r10.f2, .bool r10.f3, .bool r10.f4, .bool r10.f5, .bool r10.f6, .bool r10.f7, .bool r10.f8, .bool r10.f9]]) Try.func33 nm33 rfl rfl) rfl (F33.ok (a0 := a0) (A0_0 := A0_0) (c0_0 := c0_0) (a1 := 0) (a2 := IntKind.i64.wrap (a0.f1 - 1)) (a3 := n9) (a4 := r10) C705) rfl ?_)
  rintro _ _ ⟨A14, c15, rfl, rfl⟩
  refine RA_step rfl (OA_v (v := .tuple #[.agg #[.int .i64 r13.1.f0, .int .i64 r13.1.f1, .slice A14 r13.1.f2.length c15], .int .i64 r13.2]) rfl (V_move rfl) ?_)
  refine RA_step rfl (OA_v (v := .agg #[.int .i64 r13.1.f0, .int .i64 r13.1.f1, .slice A14 r13.1.f2.length c15]) rfl (V_extract rfl rfl) ?_)
  refine RA_step rfl (OA_v (v := .int .i64 r13.2) rfl (V_extract rfl rfl) ?_)
  refine RA_step rfl (OA_alloc rfl zero67 fun b17 => ?_)
  refine RA_step rfl (OA_st (b := b17) (m := 0) (k := 4) (vs := [.int .i64 r13.1.f0, .int .i64 r13.1.f1, .slice A14 r13.1.f2.length c15]) (cs' := [.int .i64 r13.1.f0, .int .i64 r13.1.f1, .slice A14 r13.1.f2.length c15]) rfl rfl rfl rfl rfl rfl sz67 rfl rfl ?_)
  refine RA_step rfl (OA_v (v := .int .i64 r13.2) rfl (V_assign rfl) ?_)
  refine RA_nil ?_
  refine at_normal ?_
  refine SA.of_St (l := [(2, .pointer (some ⟨b2, 0, none⟩)), (5, .int .i64 n9), (6, .pointer (some ⟨b11, 0, none⟩)), (7, .pointer (some ⟨b17, 0, none⟩)), (8, .int .i64 r13.2)]) (B := [Blk b2 67 [.int .i64 a0.f0, .int .i64 a0.f1, .slice A0_0 a0.f2.length c0_0], Ro k76 A0_0 c0_0 a0.f2, Blk b11 70 [.int .i64 r10.f0, .int .i64 r10.f1, .bool r10.f2, .bool r10.f3, .bool r10.f4, .bool r10.f5, .bool r10.f6, .bool r10.f7, .bool r10.f8, .bool r10.f9], Blk b17 67 [.int .i64 r13.1.f0, .int .i64 r13.1.f1, .slice A14 r13.1.f2.length c15], Buf k76 76 A14 c15 r13.1.f2]) (St.mk1 (aeq rfl (aeq rfl (aeq rfl (aeq rfl (aeq rfl aeq0))))) (Gh.sel [2, 1, 3, 4, 0] (by kernel_rfl) (by kernel_rfl))) fun junk => ?_
  refine SA_seq ?_
  refine SA_region ?_
  refine RA_step rfl (OA_r rfl (VR_loadA_blk (b := b17) (m := 0) (k := 3) (vs := [.int .i64 r13.1.f0, .int .i64 r13.1.f1, .slice A14 r13.1.f2.length c15]) Try.underlying67 rfl sz67 rfl rfl rfl) ?_)
  refine RA_step rfl (OA_v (v := .pointer (some ((⟨b2, 0, none⟩ : Addr).add 1))) rfl (V_fieldAddrN (B := ⟨b2, 0, none⟩) (m := 0) (o := 1) Try.underlying67 rfl nz3 rfl rfl) ?_)
  refine RA_step rfl (OA_r rfl (VR_load_blk (b := b2) (m := 1) (k := 0) Try.underlying3 rfl rfl rfl rfl) ?_)
  refine RA_step rfl (OA_v (v := .int .i64 (IntKind.i64.wrap (a0.f1 - 1))) rfl (V_sub rfl rfl) ?_)
  refine RA_step rfl (OA_v (v := .int .i64 n9) rfl (V_move rfl) ?_)
  refine RA_step rfl (OA_v (v := .int .i64 (IntKind.i64.wrap (0 - n9))) rfl (V_neg rfl) ?_)
  refine RA_step rfl (OA_r rfl (VR_loadA_blk (b := b11) (m := 0) (k := 2) (vs := [.int .i64 r10.f0, .int .i64 r10.f1, .bool r10.f2, .bool r10.f3, .bool r10.f4, .bool r10.f5, .bool r10.f6, .bool r10.f7, .bool r10.f8, .bool r10.f9]) Try.underlying70 rfl sz70 rfl rfl rfl) ?_)
  obtain ⟨r19, C704, H⟩ := g_bind H
  refine RA_step rfl (OA.ghost (Gh.freeze (k := 4) rfl) (OA_callA [4] [0, 1, 2, 3, 4] rfl (X_fn (vs := [.agg #[.int .i64 r13.1.f0, .int .i64 r13.1.f1, .slice A14 r13.1.f2.length c15], .int .i64 0, .int .i64 (IntKind.i64.wrap (a0.f1 - 1)), .int .i64 (IntKind.i64.wrap (0 - n9)), .agg #[.int .i64 r10.f0, .int .i64 r10.f1, .bool r10.f2, .bool r10.f3, .bool r10.f4, .bool r10.f5, .bool r10.f6, .bool r10.f7, .bool r10.f8, .bool r10.f9]]) Try.func33 nm33 rfl rfl) rfl (F33.ok (a0 := r13.1) (A0_0 := A14) (c0_0 := c15) (a1 := 0) (a2 := IntKind.i64.wrap (a0.f1 - 1)) (a3 := IntKind.i64.wrap (0 - n9)) (a4 := r10) C704) rfl ?_))
  rintro _ _ ⟨A20, c21, rfl, rfl⟩
  refine RA_step rfl (OA_v (v := .tuple #[.agg #[.int .i64 r19.1.f0, .int .i64 r19.1.f1, .slice A20 r19.1.f2.length c21], .int .i64 r19.2]) rfl (V_move rfl) ?_)
  refine RA_step rfl (OA_v (v := .agg #[.int .i64 r19.1.f0, .int .i64 r19.1.f1, .slice A20 r19.1.f2.length c21]) rfl (V_extract rfl rfl) ?_)
  refine RA_step rfl (OA_v (v := .int .i64 r19.2) rfl (V_extract rfl rfl) ?_)
  refine RA_step rfl (OA_alloc rfl zero67 fun b23 => ?_)
  refine RA_step rfl (OA_st (b := b23) (m := 0) (k := 6) (vs := [.int .i64 r19.1.f0, .int .i64 r19.1.f1, .slice A20 r19.1.f2.length c21]) (cs' := [.int .i64 r19.1.f0, .int .i64 r19.1.f1, .slice A20 r19.1.f2.length c21]) rfl rfl rfl rfl rfl rfl sz67 rfl rfl ?_)
  refine RA_step rfl (OA_v (v := .int .i64 r19.2) rfl (V_assign rfl) ?_)
  refine RA_nil ?_
  refine at_normal ?_
  refine SA_seq ?_
  refine SA_seq ?_
  refine SA_region ?_
  refine RA_step rfl (OA_v (v := .int .i64 r13.2) rfl (V_move rfl) ?_)
  refine RA_step rfl (OA_v (v := .bool (decide (r13.2 ≠ 0))) rfl (V_neq rfl rfl) ?_)
  refine RA_step rfl (OA_v (v := .bool (decide (r13.2 ≠ 0))) rfl (V_move rfl) ?_)
  obtain ⟨q25, hq25, H⟩ := g_lt H
  refine RA_cut 3 (fun e ds As => St [(2, .pointer (some ⟨b2, 0, none⟩)), (5, .int .i64 n9), (9, .pointer (some ⟨b23, 0, none⟩)), (48, .bool q25)] [Blk b2 67 [.int .i64 a0.f0, .int .i64 a0.f1, .slice A0_0 a0.f2.length c0_0], Ro k76 A0_0 c0_0 a0.f2, Blk b23 67 [.int .i64 r19.1.f0, .int .i64 r19.1.f1, .slice A20 r19.1.f2.length c21], Buf k76 76 A20 c21 r19.1.f2] e ds As) ?_ ?_
  · by_cases h26 : r13.2 ≠ 0
    · refine RA_noB rfl rfl rfl rfl (dec_t h26) rfl ?_
      refine RA_noB rfl rfl rfl rfl (dec_t h26) rfl ?_
      refine RA_step rfl (OA_v rfl (V_pickT rfl (dec_t h26) rfl) ?_)
      refine RA_nil ?_
      exact at_normal (St.mk1 (aeq rfl (aeq rfl (aeq rfl (aeq (congrArg Value.bool (or_t hq25 (dec_t h26))) aeq0)))) (Gh.sel [1, 2, 6, 0] rfl rfl))
    refine RA_yesB rfl rfl rfl rfl (dec_f h26) (OA_v (v := .int .i64 r19.2) rfl (V_move rfl) ?_)
    refine RA_yesB rfl rfl rfl rfl (dec_f h26) (OA_v (v := .bool (decide (r19.2 ≠ 0))) rfl (V_neq rfl rfl) ?_)
    refine RA_step rfl (OA_v rfl (V_pickF rfl (dec_f h26) rfl) ?_)
    refine RA_nil ?_
    exact at_normal (St.mk1 (aeq rfl (aeq rfl (aeq rfl (aeq (congrArg Value.bool (or_f hq25 (dec_f h26))) aeq0)))) (Gh.sel [1, 2, 6, 0] rfl rfl))
  rintro e ds As hst27
  refine RA.of_St rfl hst27 fun junk => ?_
  refine RA_step rfl (OA_v (v := .bool q25) rfl (V_move rfl) ?_)
  obtain ⟨q28, hq28, H⟩ := g_lt H
  refine RA_cut 8 (fun e ds As => St [(2, .pointer (some ⟨b2, 0, none⟩)), (5, .int .i64 n9), (9, .pointer (some ⟨b23, 0, none⟩)), (57, .bool q28)] [Blk b2 67 [.int .i64 a0.f0, .int .i64 a0.f1, .slice A0_0 a0.f2.length c0_0], Ro k76 A0_0 c0_0 a0.f2, Blk b23 67 [.int .i64 r19.1.f0, .int .i64 r19.1.f1, .slice A20 r19.1.f2.length c21], Buf k76 76 A20 c21 r19.1.f2] e ds As) ?_ ?_
  · by_cases h29 : q25 = true
    · refine RA_noB rfl rfl rfl rfl (h29) rfl ?_
      refine RA_noB rfl rfl rfl rfl (h29) rfl ?_
      refine RA_noB rfl rfl rfl rfl (h29) rfl ?_
      refine RA_noB rfl rfl rfl rfl (h29) rfl ?_
      refine RA_noB rfl rfl rfl rfl (h29) rfl ?_
      refine RA_noB rfl rfl rfl rfl (h29) rfl ?_
      refine RA_noB rfl rfl rfl rfl (h29) rfl ?_
      refine RA_step rfl (OA_v rfl (V_pickT rfl (h29) rfl) ?_)
      refine RA_nil ?_
      exact at_normal (St.mk1 (aeq rfl (aeq rfl (aeq rfl (aeq (congrArg Value.bool (or_t hq28 (h29))) aeq0)))) (Gh.sel [0, 1, 2, 3] rfl rfl))
    refine RA_yesB rfl rfl rfl rfl (bno h29) (OA_v (v := .pointer (some ((⟨b23, 0, none⟩ : Addr).add 2))) rfl (V_fieldAddrN (B := ⟨b23, 0, none⟩) (m := 0) (o := 2) Try.underlying67 rfl nz65 rfl rfl) ?_)
    refine RA_yesB rfl rfl rfl rfl (bno h29) (OA_r rfl (VR_load_blk (b := b23) (m := 2) (k := 2) Try.underlying65 rfl rfl rfl rfl) ?_)
    refine RA_yesB rfl rfl rfl rfl (bno h29) (OA_v (v := .int .i64 (r19.1.f2.length : Int)) rfl (V_len Try.underlying65 rfl) ?_)
    refine RA_yesB rfl rfl rfl rfl (bno h29) (OA_v (v := .pointer (some ((⟨b2, 0, none⟩ : Addr).add 2))) rfl (V_fieldAddrN (B := ⟨b2, 0, none⟩) (m := 0) (o := 2) Try.underlying67 rfl nz65 rfl rfl) ?_)
    refine RA_yesB rfl rfl rfl rfl (bno h29) (OA_r rfl (VR_load_blk (b := b2) (m := 2) (k := 0) Try.underlying65 rfl rfl rfl rfl) ?_)
    refine RA_yesB rfl rfl rfl rfl (bno h29) (OA_v (v := .int .i64 (a0.f2.length : Int)) rfl (V_len Try.underlying65 rfl) ?_)
    refine RA_yesB rfl rfl rfl rfl (bno h29) (OA_v (v := .bool (decide ((r19.1.f2.length : Int) ≠ (a0.f2.length : Int)))) rfl (V_neq rfl rfl) ?_)
    refine RA_step rfl (OA_v rfl (V_pickF rfl (bno h29) rfl) ?_)
    refine RA_nil ?_
    exact at_normal (St.mk1 (aeq rfl (aeq rfl (aeq rfl (aeq (congrArg Value.bool (or_f hq28 (bno h29))) aeq0)))) (Gh.sel [0, 1, 2, 3] rfl rfl))
  rintro e ds As hst30
  refine RA_nil ?_
  refine at_normal ?_
  refine SA.of_St hst30 fun junk => ?_
  by_cases h31 : q28 = true
  · replace H := g_ift h31 H
    refine SA_condTb rfl h31 ?_
    refine SA_seq ?_
    refine SA_region ?_
    refine RA_step rfl (OA_v (v := .bool false) rfl (V_assign rfl) ?_)
    refine RA_nil ?_
    refine at_normal ?_
    refine SA_ret ?_
    refine thn_ret ?_
    have hr_ := Option.some.inj H
    subst hr_
    exact BQ_R1 [] rfl rfl (Gh.sel [] rfl rfl) ⟨rfl, rfl⟩
  replace H := g_iff h31 H
  refine SA_condFb rfl h31 ?_
  refine SA_skip ?_
  refine at_normal ?_
  refine SA_seq ?_
  refine SA_seq ?_
  refine SA_region ?_
  refine RA_step rfl (OA_v (v := .int .i64 n9) rfl (V_move rfl) ?_)
  refine RA_step rfl (OA_v (v := .pointer (some ⟨b2, 0, none⟩)) rfl (V_fieldAddrN (B := ⟨b2, 0, none⟩) (m := 0) (o := 0) Try.underlying67 rfl nz3 rfl rfl) ?_)
  refine RA_step rfl (OA_r rfl (VR_load_blk (b := b2) (m := 0) (k := 0) Try.underlying3 rfl rfl rfl rfl) ?_)
  refine RA_step rfl (OA_v (v := .int .i64 (IntKind.i64.wrap (n9 * a0.f0))) rfl (V_mul rfl rfl) ?_)
  obtain ⟨n32, hn32, H⟩ := g_lt H
  refine RA_step rfl (OA_v (v := .int .i64 n32) rfl (V_assign (v := .int .i64 n32) (congrArg (Value.int .i64) hn32.symm)) ?_)
  refine RA_nil ?_
  refine at_normal ?_
  obtain ⟨t33, H, Bt33⟩ := g_bind H
  refine SA_mid (fun e ds As => ∃ (s34 : Unit), t33 = Out.go s34 ∧ St [] [] e ds As) ?_ ?_
  · refine SA_block ?_
    refine SA_loop (fun k_ e ds As => ∃ (x11_34 : Int), F5.l0 a0 r19 k_ x11_34 = some t33 ∧ St [(2, .pointer (some ⟨b2, 0, none⟩)), (9, .pointer (some ⟨b23, 0, none⟩)), (11, .int .i64 x11_34)] [Blk b2 67 [.int .i64 a0.f0, .int .i64 a0.f1, .slice A0_0 a0.f2.length c0_0], Ro k76 A0_0 c0_0 a0.f2, Blk b23 67 [.int .i64 r19.1.f0, .int .i64 r19.1.f1, .slice A20 r19.1.f2.length c21], Buf k76 76 A20 c21 r19.1.f2] e ds As) (k := k) ⟨_, H, St.mk1 (aeq rfl (aeq rfl (aeq rfl aeq0))) (Gh.sel [0, 1, 2, 3] rfl rfl)⟩ ?_
    clear H
    rintro k35 e ds As ⟨x11_34, H, hst36⟩
    obtain _ | k35 := k35
    · cases H
    rw [F5.l0] at H
    refine SA.of_St hst36 fun junk => ?_
    refine SA_seq ?_
    refine SA_seq ?_
    refine SA_region ?_
    refine RA_step rfl (OA_v (v := .int .i64 x11_34) rfl (V_move rfl) ?_)
    refine RA_step rfl (OA_v (v := .pointer (some ((⟨b2, 0, none⟩ : Addr).add 2))) rfl (V_fieldAddrN (B := ⟨b2, 0, none⟩) (m := 0) (o := 2) Try.underlying67 rfl nz65 rfl rfl) ?_)
    refine RA_step rfl (OA_r rfl (VR_load_blk (b := b2) (m := 2) (k := 0) Try.underlying65 rfl rfl rfl rfl) ?_)
    refine RA_step rfl (OA_v (v := .int .i64 (a0.f2.length : Int)) rfl (V_len Try.underlying65 rfl) ?_)
    refine RA_step rfl (OA_v (v := .bool (decide (x11_34 < (a0.f2.length : Int)))) rfl (V_lss rfl rfl) ?_)
    refine RA_nil ?_
    refine at_normal ?_
    by_cases h37 : x11_34 < (a0.f2.length : Int)
    · replace H := g_ift h37 H
      refine SA_condT rfl h37 ?_
      refine SA_skip ?_
      refine at_normal ?_
      refine SA_seq ?_
      refine SA_block ?_
      refine SA_seq ?_
      refine SA_drawH [0, 1, 2, 3, 4, 5, 6, 7, 8, 9, 10] #[[], [0], [], [0, 1, 2], [0, 1, 2, 3], [], [5], [], [5, 6, 7], [5, 6, 7, 8], [0, 1, 2, 3, 4, 5, 6, 7, 8, 9]] [0, 1, 2, 3] [1] mixed rfl rfl rfl fun I0 hS h0 hh0 w0 sH dd => ?_
      refine DH_take (v := .pointer (some ((⟨b23, 0, none⟩ : Addr).add 2))) 0 (by kernel_rfl) rfl rfl (.no rfl) (PanOk.thn (PanOk.inb (PanOk.thn (PanOk.thn (PanOk.inb (PanOk.thn (PanOk.thn PanOk.body))))))) sH rfl (VR.ofV (V_fieldAddrN (B := ⟨b23, 0, none⟩) (m := 0) (o := 2) Try.underlying67 rfl nz65 rfl rfl)) ?_
      refine DH_take 1 (by kernel_rfl) rfl rfl (.no rfl) (PanOk.thn (PanOk.inb (PanOk.thn (PanOk.thn (PanOk.inb (PanOk.thn (PanOk.thn PanOk.body))))))) sH rfl (VR_load_blk (b := b23) (m := 2) (k := 2) Try.underlying65 rfl rfl rfl rfl) ?_
      refine DH_take (v := .int .i64 x11_34) 2 (by kernel_rfl) rfl rfl (.no rfl) (PanOk.thn (PanOk.inb (PanOk.thn (PanOk.thn (PanOk.inb (PanOk.thn (PanOk.thn PanOk.body))))))) sH rfl (VR.ofV (V_move rfl)) ?_
      obtain ⟨⟨g218, g219⟩, H⟩ := g_pos H
      refine DH_take 3 (by kernel_rfl) rfl rfl (.no rfl) (PanOk.thn (PanOk.inb (PanOk.thn (PanOk.thn (PanOk.inb (PanOk.thn (PanOk.thn PanOk.body))))))) sH rfl (VR_index (i := x11_34) Try.underlying65 sz76 rfl rfl (Src.buf (k := 3) rfl) g218 g219) ?_
      refine DH_take 4 (by kernel_rfl) rfl rfl (.no rfl) (PanOk.thn (PanOk.inb (PanOk.thn (PanOk.thn (PanOk.inb (PanOk.thn (PanOk.thn PanOk.body))))))) sH rfl (VR_loadA_el (enc := enc76) (i := x11_34) (j := x11_34.toNat * 15) (m := 0) (sz := 15) (vs := (.int .i32 ((rd r19.1.f2 x11_34).f0) :: .int .i32 (((rd r19.1.f2 x11_34).f1).f0) :: .int .i32 (((rd r19.1.f2 x11_34).f1).f1) :: .int .i32 (((rd r19.1.f2 x11_34).f1).f2) :: .int .u8 ((rd r19.1.f2 x11_34).f2) :: .int .i64 (((rd r19.1.f2 x11_34).f3).f0) :: .int .i64 (((rd r19.1.f2 x11_34).f3).f1) :: .bool (((rd r19.1.f2 x11_34).f3).f2) :: .bool (((rd r19.1.f2 x11_34).f3).f3) :: .bool (((rd r19.1.f2 x11_34).f3).f4) :: .bool (((rd r19.1.f2 x11_34).f3).f5) :: .bool (((rd r19.1.f2 x11_34).f3).f6) :: .bool (((rd r19.1.f2 x11_34).f3).f7) :: .bool (((rd r19.1.f2 x11_34).f3).f8) :: .bool (((rd r19.1.f2 x11_34).f3).f9) :: [])) Try.underlying76 rfl sz76 rfl rfl rfl (Src.buf (k := 3) rfl) g218 g219 (fun _ _ h => h) rfl) ?_
      refine DH_take (v := .pointer (some ((⟨b2, 0, none⟩ : Addr).add 2))) 5 (by kernel_rfl) rfl rfl (.no rfl) (PanOk.thn (PanOk.inb (PanOk.thn (PanOk.thn (PanOk.inb (PanOk.thn (PanOk.thn PanOk.body))))))) sH rfl (VR.ofV (V_fieldAddrN (B := ⟨b2, 0, none⟩) (m := 0) (o := 2) Try.underlying67 rfl nz65 rfl rfl)) ?_
      refine DH_take 6 (by kernel_rfl) rfl rfl (.no rfl) (PanOk.thn (PanOk.inb (PanOk.thn (PanOk.thn (PanOk.inb (PanOk.thn (PanOk.thn PanOk.body))))))) sH rfl (VR_load_blk (b := b2) (m := 2) (k := 0) Try.underlying65 rfl rfl rfl rfl) ?_
      refine DH_take (v := .int .i64 x11_34) 7 (by kernel_rfl) rfl rfl (.no rfl) (PanOk.thn (PanOk.inb (PanOk.thn (PanOk.thn (PanOk.inb (PanOk.thn (PanOk.thn PanOk.body))))))) sH rfl (VR.ofV (V_move rfl)) ?_
      obtain ⟨⟨g518, g519⟩, H⟩ := g_pos H
      refine DH_take 8 (by kernel_rfl) rfl rfl (.no rfl) (PanOk.thn (PanOk.inb (PanOk.thn (PanOk.thn (PanOk.inb (PanOk.thn (PanOk.thn PanOk.body))))))) sH rfl (VR_index (i := x11_34) Try.underlying65 sz76 rfl rfl (Src.ro (k := 1) rfl) g518 g519) ?_
      refine DH_take 9 (by kernel_rfl) rfl rfl (.no rfl) (PanOk.thn (PanOk.inb (PanOk.thn (PanOk.thn (PanOk.inb (PanOk.thn (PanOk.thn PanOk.body))))))) sH rfl (VR_loadA_el (enc := enc76) (i := x11_34) (j := x11_34.toNat * 15) (m := 0) (sz := 15) (vs := (.int .i32 ((rd a0.f2 x11_34).f0) :: .int .i32 (((rd a0.f2 x11_34).f1).f0) :: .int .i32 (((rd a0.f2 x11_34).f1).f1) :: .int .i32 (((rd a0.f2 x11_34).f1).f2) :: .int .u8 ((rd a0.f2 x11_34).f2) :: .int .i64 (((rd a0.f2 x11_34).f3).f0) :: .int .i64 (((rd a0.f2 x11_34).f3).f1) :: .bool (((rd a0.f2 x11_34).f3).f2) :: .bool (((rd a0.f2 x11_34).f3).f3) :: .bool (((rd a0.f2 x11_34).f3).f4) :: .bool (((rd a0.f2 x11_34).f3).f5) :: .bool (((rd a0.f2 x11_34).f3).f6) :: .bool (((rd a0.f2 x11_34).f3).f7) :: .bool (((rd a0.f2 x11_34).f3).f8) :: .bool (((rd a0.f2 x11_34).f3).f9) :: [])) Try.underlying76 rfl sz76 rfl rfl rfl (Src.ro (k := 1) rfl) g518 g519 (fun _ _ h => h) rfl) ?_
      refine DH_take (v := .bool (decide ((rd r19.1.f2 x11_34) ≠ (rd a0.f2 x11_34)))) 10 (by kernel_rfl) rfl rfl (.no rfl) (PanOk.thn (PanOk.inb (PanOk.thn (PanOk.thn (PanOk.inb (PanOk.thn (PanOk.thn PanOk.body))))))) sH rfl (VR.ofV (V_neqD (xs := (.int .i32 ((rd r19.1.f2 x11_34).f0) :: .int .i32 (((rd r19.1.f2 x11_34).f1).f0) :: .int .i32 (((rd r19.1.f2 x11_34).f1).f1) :: .int .i32 (((rd r19.1.f2 x11_34).f1).f2) :: .int .u8 ((rd r19.1.f2 x11_34).f2) :: .int .i64 (((rd r19.1.f2 x11_34).f3).f0) :: .int .i64 (((rd r19.1.f2 x11_34).f3).f1) :: .bool (((rd r19.1.f2 x11_34).f3).f2) :: .bool (((rd r19.1.f2 x11_34).f3).f3) :: .bool (((rd r19.1.f2 x11_34).f3).f4) :: .bool (((rd r19.1.f2 x11_34).f3).f5) :: .bool (((rd r19.1.f2 x11_34).f3).f6) :: .bool (((rd r19.1.f2 x11_34).f3).f7) :: .bool (((rd r19.1.f2 x11_34).f3).f8) :: .bool (((rd r19.1.f2 x11_34).f3).f9) :: [])) (ys := (.int .i32 ((rd a0.f2 x11_34).f0) :: .int .i32 (((rd a0.f2 x11_34).f1).f0) :: .int .i32 (((rd a0.f2 x11_34).f1).f1) :: .int .i32 (((rd a0.f2 x11_34).f1).f2) :: .int .u8 ((rd a0.f2 x11_34).f2) :: .int .i64 (((rd a0.f2 x11_34).f3).f0) :: .int .i64 (((rd a0.f2 x11_34).f3).f1) :: .bool (((rd a0.f2 x11_34).f3).f2) :: .bool (((rd a0.f2 x11_34).f3).f3) :: .bool (((rd a0.f2 x11_34).f3).f4) :: .bool (((rd a0.f2 x11_34).f3).f5) :: .bool (((rd a0.f2 x11_34).f3).f6) :: .bool (((rd a0.f2 x11_34).f3).f7) :: .bool (((rd a0.f2 x11_34).f3).f8) :: .bool (((rd a0.f2 x11_34).f3).f9) :: [])) (r := ((((rd r19.1.f2 x11_34).f0) == ((rd a0.f2 x11_34).f0)) && ((((((rd r19.1.f2 x11_34).f1).f0) == (((rd a0.f2 x11_34).f1).f0)) && (((((rd r19.1.f2 x11_34).f1).f1) == (((rd a0.f2 x11_34).f1).f1)) && (((((rd r19.1.f2 x11_34).f1).f2) == (((rd a0.f2 x11_34).f1).f2)) && true))) && ((((rd r19.1.f2 x11_34).f2) == ((rd a0.f2 x11_34).f2)) && ((((((rd r19.1.f2 x11_34).f3).f0) == (((rd a0.f2 x11_34).f3).f0)) && (((((rd r19.1.f2 x11_34).f3).f1) == (((rd a0.f2 x11_34).f3).f1)) && (((((rd r19.1.f2 x11_34).f3).f2) == (((rd a0.f2 x11_34).f3).f2)) && (((((rd r19.1.f2 x11_34).f3).f3) == (((rd a0.f2 x11_34).f3).f3)) && (((((rd r19.1.f2 x11_34).f3).f4) == (((rd a0.f2 x11_34).f3).f4)) && (((((rd r19.1.f2 x11_34).f3).f5) == (((rd a0.f2 x11_34).f3).f5)) && (((((rd r19.1.f2 x11_34).f3).f6) == (((rd a0.f2 x11_34).f3).f6)) && (((((rd r19.1.f2 x11_34).f3).f7) == (((rd a0.f2 x11_34).f3).f7)) && (((((rd r19.1.f2 x11_34).f3).f8) == (((rd a0.f2 x11_34).f3).f8)) && (((((rd r19.1.f2 x11_34).f3).f9) == (((rd a0.f2 x11_34).f3).f9)) && true)))))))))) && true))))) (p := (rd r19.1.f2 x11_34) = (rd a0.f2 x11_34)) eqg76 rfl rfl (by kernel_rfl) (eqv76 (x := rd r19.1.f2 x11_34) (y := rd a0.f2 x11_34)))) ?_
      refine DH_open dd sH ?_
      refine DN_done (by kernel_rfl) ?_
      refine at_normal ?_
      by_cases h699 : (rd r19.1.f2 x11_34) ≠ (rd a0.f2 x11_34)
      · replace H := g_ift h699 H
        refine SA_condT rfl h699 ?_
        refine SA_seq ?_
        refine SA_region ?_
        refine RA_step rfl (OA_v (v := .bool false) rfl (V_assign rfl) ?_)
        refine RA_nil ?_
        refine at_normal ?_
        refine SA_ret ?_
        refine inb_ret ?_
        refine thn_ret ?_
        refine thn_ret ?_
        refine inb_ret ?_
        refine thn_ret ?_
        refine thn_ret ?_
        have hr_ := Option.some.inj H
        subst hr_
        have hb_ := el_ret Bt33
        have hr_ := Option.some.inj hb_
        clear hb_
        subst hr_
        exact BQ_R1 [] rfl rfl (Gh.sel [] rfl rfl) ⟨rfl, rfl⟩
      replace H := g_iff h699 H
      refine SA_condF rfl h699 ?_
      refine SA_skip ?_
      refine inb_normal ?_
      refine at_normal ?_
      refine SA_region ?_
      refine RA_step rfl (OA_v (v := .int .i64 x11_34) rfl (V_move rfl) ?_)
      refine RA_step rfl (OA_v (v := .int .i64 (IntKind.i64.wrap (x11_34 + 1))) rfl (V_add rfl rfl) ?_)
      obtain ⟨n700, hn700, H⟩ := g_lt H
      refine RA_step rfl (OA_v (v := .int .i64 n700) rfl (V_assign (v := .int .i64 n700) (congrArg (Value.int .i64) hn700.symm)) ?_)
      refine RA_nil ?_
      exact at_normal ⟨k35, Nat.lt_succ_self _, _, H, St.mk1 (aeq rfl (aeq rfl (aeq rfl aeq0))) (Gh.sel [0, 1, 2, 3] rfl rfl)⟩
    replace H := g_iff h37 H
    refine SA_condF rfl h37 ?_
    refine SA_exit ?_
    refine thn_exit ?_
    refine thn_exit ?_
    refine inb_hit ?_
    have hr_ := Option.some.inj H
    subst hr_
    exact at_normal ⟨(), rfl, St.mk1 aeq0 (Gh.sel [] rfl rfl)⟩
  rintro e ds As ⟨s34, ht, hst701⟩
  clear H
  subst ht
  replace Bt33 := el_go Bt33
  have H := Bt33
  clear Bt33
  refine at_normal ?_
  refine SA.of_St hst701 fun junk => ?_
  refine SA_seq ?_
  refine SA_region ?_
  obtain ⟨r702, C703, H⟩ := g_bind H
  refine RA_step rfl (OA_callA [] [] rfl (X_fn (vs := []) Try.func31 nm31 rfl rfl) rfl (F31.ok C703) rfl ?_)
  rintro _ _ ⟨rfl, rfl⟩
  refine RA_step rfl (OA_v (v := .bool r702) rfl (V_assign rfl) ?_)
  refine RA_nil ?_
  refine at_normal ?_
  refine SA_ret ?_
  have hr_ := Option.some.inj H
  subst hr_
  exact BQ_R1 [] rfl rfl (Gh.sel [] rfl rfl) ⟨rfl, rfl⟩
end Go.Proofs.Ytodkeoibebimgaa.Gr

/- What a function computes, and that it does: 8. -/
import Derived.Test.YtodkeoibebimgaaGr0
import Derived.Test.YtodkeoibebimgaaGr1
import Derived.Test.YtodkeoibebimgaaGr5
import Derived.Test.YtodkeoibebimgaaGr7
import Derived.Test.YtodkeoibebimgaaGr8
import Derived.Test.YtodkeoibebimgaaGr9
import Derived.Test.YtodkeoibebimgaaGr10
namespace Go.Proofs.Ytodkeoibebimgaa.Gr
open Go Go.RowKit Go.Proofs.Ytodkeoibebimgaa.SL
set_option linter.unusedVariables false
set_option linter.unusedSimpArgs false
attribute [local irreducible] IntKind.wrap minI maxI shrI shlI andI orI xorI andNotI cplI rd sub bytesOf strOf slA
/-! ### function 8: wayfarer/wayfarerlaw15.GridFresh -/
def F8.l1 (r19 : S67 × Int) : Nat → Int → (List S76) → Option (Unit)
  | 0, _, _ => none
  | k + 1, x11_35, z8_2_35 => if z8_2_35.length = r19.1.f2.length then (if x11_35 < (z8_2_35.length : Int) then (if 0 ≤ x11_35 ∧ x11_35 < (z8_2_35.length : Int) then (lt (z8_2_35.set x11_35.toNat (S76.mk 2 ((rd z8_2_35 x11_35).f1) ((rd z8_2_35 x11_35).f2) ((rd z8_2_35 x11_35).f3))) fun n41 => (lt (IntKind.i64.wrap (x11_35 + 1)) fun n42 => F8.l1 r19 k n42 n41)) else none) else (some ())) else none
def F8.l0 (r13 : S67 × Int) : Nat → Int → (List S76) → Option (Unit)
  | 0, _, _ => none
  | k + 1, x10_25, z6_2_25 => if z6_2_25.length = r13.1.f2.length then (if x10_25 < (z6_2_25.length : Int) then (if 0 ≤ x10_25 ∧ x10_25 < (z6_2_25.length : Int) then (lt (z6_2_25.set x10_25.toNat (S76.mk 1 ((rd z6_2_25 x10_25).f1) ((rd z6_2_25 x10_25).f2) ((rd z6_2_25 x10_25).f3))) fun n31 => (lt (IntKind.i64.wrap (x10_25 + 1)) fun n32 => F8.l0 r13 k n32 n31)) else none) else (some ())) else none
def F8.f (k : Nat) (a0 : S67) (a1 : S90) : Option (Bool) := (F36.f a0).bind (fun r7 => (F37.f k r7 a1.f0 a1.f1 a1.f1 a1.f4).bind (fun r13 => (F38.f k r7 r7.f0 r7.f1 a1.f4).bind (fun r19 => (F8.l0 r13 k 0 r13.1.f2 : Option (Unit)).bind (fun t25 => (F8.l1 r19 k 0 r19.1.f2 : Option (Unit)).bind (fun t35 => (F33.f k r7 a1.f0 a1.f0 0 a1.f4).bind (fun r45 => (F39.f k a0 a1.f0 a1.f0 0 a1.f4).bind (fun r51 => (F31.f k ).bind (fun r57 => (if r57 = true then ((F40.f k a0 r7).bind (fun r60 => some r60)) else (some false) : Option Bool).bind (fun q58 => (if q58 = true then ((F40.f k r45.1 r51.1).bind (fun r65 => some r65)) else (some false) : Option Bool).bind (fun q63 => lt (q63 && (decide (r45.2 = r51.2))) fun q68 => some (q68)))))))))))
set_option maxHeartbeats 2000000 in
set_option maxRecDepth 100000 in
theorem F8.ok {k : Nat} {a0 : S67} {a1 : S90} {A0_0 : Option Addr} {c0_0 : Nat} {A1_0 : Option Addr} {c1_0 : Nat} {r : Bool} (H : F8.f k a0 a1 = some r) : SCA Try.prog 8 #[.agg #[.int .i64 a0.f0, .int .i64 a0.f1, .slice A0_0 a0.f2.length c0_0], .agg (List.toArray (.int .i64 a1.f0 :: .int .i64 a1.f1 :: .int .i64 a1.f2 :: .int .i64 a1.f3 :: .int .i64 a1.f4.f0 :: .int .i64 a1.f4.f1 :: .bool a1.f4.f2 :: .bool a1.f4.f3 :: .bool a1.f4.f4 :: .bool a1.f4.f5 :: .bool a1.f4.f6 :: .bool a1.f4.f7 :: .bool a1.f4.f8 :: .bool a1.f4.f9 :: .slice A1_0 a1.f5.length c1_0 :: []))] [Ro k76 A0_0 c0_0 a0.f2, Ro k76 A1_0 c1_0 a1.f5] (fun v B => v = .bool r ∧ B = []) := by
  refine SCA_of_body Try.func8 rfl rfl ?_
  unfold F8.f at H
  refine SA_seq ?_
  refine SA_region ?_
  refine RA_step rfl (OA_box rfl rfl fun b3 => ?_)
  refine RA_step rfl (OA_box rfl rfl fun b5 => ?_)
  refine RA_step rfl (OA_v (v := .bool false) rfl (V_assign rfl) ?_)
  refine RA_nil ?_
  refine at_normal ?_
  refine SA_seq ?_
  refine SA_region ?_
  refine RA_step rfl (OA_r rfl (VR_loadA_blk (b := b3) (m := 0) (k := 2) (vs := [.int .i64 a0.f0, .int .i64 a0.f1, .slice A0_0 a0.f2.length c0_0]) Try.underlying67 rfl sz67 rfl rfl rfl) ?_)
  obtain ⟨r7, C76, H⟩ := g_bind H
  refine RA_step rfl (OA_callA [0] [0, 1, 2, 3] rfl (X_fn (vs := [.agg #[.int .i64 a0.f0, .int .i64 a0.f1, .slice A0_0 a0.f2.length c0_0]]) Try.func36 nm36 rfl rfl) rfl (F36.ok (a0 := a0) (A0_0 := A0_0) (c0_0 := c0_0) C76) rfl ?_)
  rintro _ _ ⟨A8, c9, rfl, rfl⟩
  refine RA_step rfl (OA_alloc rfl zero67 fun b11 => ?_)
  refine RA_step rfl (OA_st (b := b11) (m := 0) (k := 5) (vs := [.int .i64 r7.f0, .int .i64 r7.f1, .slice A8 r7.f2.length c9]) (cs' := [.int .i64 r7.f0, .int .i64 r7.f1, .slice A8 r7.f2.length c9]) rfl rfl rfl rfl rfl rfl sz67 rfl rfl ?_)
  refine RA_nil ?_
  refine at_normal ?_
  refine SA_seq ?_
  refine SA_region ?_
  refine RA_step rfl (OA_r rfl (VR_loadA_blk (b := b11) (m := 0) (k := 5) (vs := [.int .i64 r7.f0, .int .i64 r7.f1, .slice A8 r7.f2.length c9]) Try.underlying67 rfl sz67 rfl rfl rfl) ?_)
  refine RA_step rfl (OA_v (v := .pointer (some ⟨b5, 0, none⟩)) rfl (V_fieldAddrN (B := ⟨b5, 0, none⟩) (m := 0) (o := 0) Try.underlying90 rfl nz3 rfl rfl) ?_)
  refine RA_step rfl (OA_r rfl (VR_load_blk (b := b5) (m := 0) (k := 4) Try.underlying3 rfl rfl rfl rfl) ?_)
  refine RA_step rfl (OA_v (v := .pointer (some ((⟨b5, 0, none⟩ : Addr).add 1))) rfl (V_fieldAddrN (B := ⟨b5, 0, none⟩) (m := 0) (o := 1) Try.underlying90 rfl nz3 rfl rfl) ?_)
  refine RA_step rfl (OA_r rfl (VR_load_blk (b := b5) (m := 1) (k := 4) Try.underlying3 rfl rfl rfl rfl) ?_)
  refine RA_step rfl (OA_v (v := .pointer (some ((⟨b5, 0, none⟩ : Addr).add 1))) rfl (V_fieldAddrN (B := ⟨b5, 0, none⟩) (m := 0) (o := 1) Try.underlying90 rfl nz3 rfl rfl) ?_)
  refine RA_step rfl (OA_r rfl (VR_load_blk (b := b5) (m := 1) (k := 4) Try.underlying3 rfl rfl rfl rfl) ?_)
  refine RA_step rfl (OA_v (v := .pointer (some ((⟨b5, 0, none⟩ : Addr).add 4))) rfl (V_fieldAddrN (B := ⟨b5, 0, none⟩) (m := 0) (o := 4) Try.underlying90 rfl nz70 rfl rfl) ?_)
  refine RA_step rfl (OA_r rfl (VR_loadA_blk (b := b5) (m := 4) (k := 4) (vs := [.int .i64 a1.f4.f0, .int .i64 a1.f4.f1, .bool a1.f4.f2, .bool a1.f4.f3, .bool a1.f4.f4, .bool a1.f4.f5, .bool a1.f4.f6, .bool a1.f4.f7, .bool a1.f4.f8, .bool a1.f4.f9]) Try.underlying70 rfl sz70 rfl rfl rfl) ?_)
  obtain ⟨r13, C75, H⟩ := g_bind H
  refine RA_step rfl (OA.ghost (Gh.freeze (k := 0) rfl) (OA_callA [0] [0, 1, 2, 3, 4, 5] rfl (X_fn (vs := [.agg #[.int .i64 r7.f0, .int .i64 r7.f1, .slice A8 r7.f2.length c9], .int .i64 a1.f0, .int .i64 a1.f1, .int .i64 a1.f1, .agg #[.int .i64 a1.f4.f0, .int .i64 a1.f4.f1, .bool a1.f4.f2, .bool a1.f4.f3, .bool a1.f4.f4, .bool a1.f4.f5, .bool a1.f4.f6, .bool a1.f4.f7, .bool a1.f4.f8, .bool a1.f4.f9]]) Try.func37 nm37 rfl rfl) rfl (F37.ok (a0 := r7) (A0_0 := A8) (c0_0 := c9) (a1 := a1.f0) (a2 := a1.f1) (a3 := a1.f1) (a4 := a1.f4) C75) rfl ?_))
  rintro _ _ ⟨A14, c15, rfl, rfl⟩
  refine RA_step rfl (OA_v (v := .tuple #[.agg #[.int .i64 r13.1.f0, .int .i64 r13.1.f1, .slice A14 r13.1.f2.length c15], .int .i64 r13.2]) rfl (V_move rfl) ?_)
  refine RA_step rfl (OA_v (v := .agg #[.int .i64 r13.1.f0, .int .i64 r13.1.f1, .slice A14 r13.1.f2.length c15]) rfl (V_extract rfl rfl) ?_)
  refine RA_step rfl (OA_v (v := .int .i64 r13.2) rfl (V_extract rfl rfl) ?_)
  refine RA_step rfl (OA_alloc rfl zero67 fun b17 => ?_)
  refine RA_step rfl (OA_st (b := b17) (m := 0) (k := 7) (vs := [.int .i64 r13.1.f0, .int .i64 r13.1.f1, .slice A14 r13.1.f2.length c15]) (cs' := [.int .i64 r13.1.f0, .int .i64 r13.1.f1, .slice A14 r13.1.f2.length c15]) rfl rfl rfl rfl rfl rfl sz67 rfl rfl ?_)
  refine RA_step rfl (OA_v (v := .int .i64 r13.2) rfl (V_assign rfl) ?_)
  refine RA_nil ?_
  refine at_normal ?_
  refine SA_seq ?_
  refine SA_region ?_
  refine RA_step rfl (OA_r rfl (VR_loadA_blk (b := b11) (m := 0) (k := 6) (vs := [.int .i64 r7.f0, .int .i64 r7.f1, .slice A8 r7.f2.length c9]) Try.underlying67 rfl sz67 rfl rfl rfl) ?_)
  refine RA_step rfl (OA_v (v := .pointer (some ⟨b11, 0, none⟩)) rfl (V_fieldAddrN (B := ⟨b11, 0, none⟩) (m := 0) (o := 0) Try.underlying67 rfl nz3 rfl rfl) ?_)
  refine RA_step rfl (OA_r rfl (VR_load_blk (b := b11) (m := 0) (k := 6) Try.underlying3 rfl rfl rfl rfl) ?_)
  refine RA_step rfl (OA_v (v := .pointer (some ((⟨b11, 0, none⟩ : Addr).add 1))) rfl (V_fieldAddrN (B := ⟨b11, 0, none⟩) (m := 0) (o := 1) Try.underlying67 rfl nz3 rfl rfl) ?_)
  refine RA_step rfl (OA_r rfl (VR_load_blk (b := b11) (m := 1) (k := 6) Try.underlying3 rfl rfl rfl rfl) ?_)
  refine RA_step rfl (OA_v (v := .pointer (some ((⟨b5, 0, none⟩ : Addr).add 4))) rfl (V_fieldAddrN (B := ⟨b5, 0, none⟩) (m := 0) (o := 4) Try.underlying90 rfl nz70 rfl rfl) ?_)
  refine RA_step rfl (OA_r rfl (VR_loadA_blk (b := b5) (m := 4) (k := 5) (vs := [.int .i64 a1.f4.f0, .int .i64 a1.f4.f1, .bool a1.f4.f2, .bool a1.f4.f3, .bool a1.f4.f4, .bool a1.f4.f5, .bool a1.f4.f6, .bool a1.f4.f7, .bool a1.f4.f8, .bool a1.f4.f9]) Try.underlying70 rfl sz70 rfl rfl rfl) ?_)
  obtain ⟨r19, C74, H⟩ := g_bind H
  refine RA_step rfl (OA_callA [1] [0, 1, 2, 3, 4, 5, 6, 7] rfl (X_fn (vs := [.agg #[.int .i64 r7.f0, .int .i64 r7.f1, .slice A8 r7.f2.length c9], .int .i64 r7.f0, .int .i64 r7.f1, .agg #[.int .i64 a1.f4.f0, .int .i64 a1.f4.f1, .bool a1.f4.f2, .bool a1.f4.f3, .bool a1.f4.f4, .bool a1.f4.f5, .bool a1.f4.f6, .bool a1.f4.f7, .bool a1.f4.f8, .bool a1.f4.f9]]) Try.func38 nm38 rfl rfl) rfl (F38.ok (a0 := r7) (A0_0 := A8) (c0_0 := c9) (a1 := r7.f0) (a2 := r7.f1) (a3 := a1.f4) C74) rfl ?_)
  rintro _ _ ⟨A20, c21, rfl, rfl⟩
  refine RA_step rfl (OA_v (v := .tuple #[.agg #[.int .i64 r19.1.f0, .int .i64 r19.1.f1, .slice A20 r19.1.f2.length c21], .int .i64 r19.2]) rfl (V_move rfl) ?_)
  refine RA_step rfl (OA_v (v := .agg #[.int .i64 r19.1.f0, .int .i64 r19.1.f1, .slice A20 r19.1.f2.length c21]) rfl (V_extract rfl rfl) ?_)
  refine RA_step rfl (OA_v (v := .int .i64 r19.2) rfl (V_extract rfl rfl) ?_)
  refine RA_step rfl (OA_alloc rfl zero67 fun b23 => ?_)
  refine RA_step rfl (OA_st (b := b23) (m := 0) (k := 9) (vs := [.int .i64 r19.1.f0, .int .i64 r19.1.f1, .slice A20 r19.1.f2.length c21]) (cs' := [.int .i64 r19.1.f0, .int .i64 r19.1.f1, .slice A20 r19.1.f2.length c21]) rfl rfl rfl rfl rfl rfl sz67 rfl rfl ?_)
  refine RA_step rfl (OA_v (v := .int .i64 r19.2) rfl (V_assign rfl) ?_)
  refine RA_nil ?_
  refine at_normal ?_
  refine SA.of_St (l := [(2, .pointer (some ⟨b3, 0, none⟩)), (3, .pointer (some ⟨b5, 0, none⟩)), (5, .pointer (some ⟨b11, 0, none⟩)), (6, .pointer (some ⟨b17, 0, none⟩)), (8, .pointer (some ⟨b23, 0, none⟩))]) (B := [Blk b3 67 [.int .i64 a0.f0, .int .i64 a0.f1, .slice A0_0 a0.f2.length c0_0], Ro k76 A0_0 c0_0 a0.f2, Blk b5 90 (.int .i64 a1.f0 :: .int .i64 a1.f1 :: .int .i64 a1.f2 :: .int .i64 a1.f3 :: .int .i64 a1.f4.f0 :: .int .i64 a1.f4.f1 :: .bool a1.f4.f2 :: .bool a1.f4.f3 :: .bool a1.f4.f4 :: .bool a1.f4.f5 :: .bool a1.f4.f6 :: .bool a1.f4.f7 :: .bool a1.f4.f8 :: .bool a1.f4.f9 :: .slice A1_0 a1.f5.length c1_0 :: []), Ro k76 A1_0 c1_0 a1.f5, Blk b11 67 [.int .i64 r7.f0, .int .i64 r7.f1, .slice A8 r7.f2.length c9], Ro k76 A8 c9 r7.f2, Blk b17 67 [.int .i64 r13.1.f0, .int .i64 r13.1.f1, .slice A14 r13.1.f2.length c15], Buf k76 76 A14 c15 r13.1.f2, Blk b23 67 [.int .i64 r19.1.f0, .int .i64 r19.1.f1, .slice A20 r19.1.f2.length c21], Buf k76 76 A20 c21 r19.1.f2]) (St.mk1 (aeq rfl (aeq rfl (aeq rfl (aeq rfl (aeq rfl aeq0))))) (Gh.sel [5, 3, 6, 4, 7, 2, 8, 1, 9, 0] (by kernel_rfl) (by kernel_rfl))) fun junk => ?_
  refine SA_seq ?_
  refine SA_seq ?_
  refine SA_region ?_
  refine RA_step rfl (OA_v (v := .int .i64 0) rfl (V_assign rfl) ?_)
  refine RA_nil ?_
  refine at_normal ?_
  obtain ⟨t25, H, Bt25⟩ := g_bind H
  refine SA_mid (fun e ds As => St [(2, .pointer (some ⟨b3, 0, none⟩)), (3, .pointer (some ⟨b5, 0, none⟩)), (5, .pointer (some ⟨b11, 0, none⟩)), (8, .pointer (some ⟨b23, 0, none⟩))] [Blk b3 67 [.int .i64 a0.f0, .int .i64 a0.f1, .slice A0_0 a0.f2.length c0_0], Ro k76 A0_0 c0_0 a0.f2, Blk b5 90 (.int .i64 a1.f0 :: .int .i64 a1.f1 :: .int .i64 a1.f2 :: .int .i64 a1.f3 :: .int .i64 a1.f4.f0 :: .int .i64 a1.f4.f1 :: .bool a1.f4.f2 :: .bool a1.f4.f3 :: .bool a1.f4.f4 :: .bool a1.f4.f5 :: .bool a1.f4.f6 :: .bool a1.f4.f7 :: .bool a1.f4.f8 :: .bool a1.f4.f9 :: .slice A1_0 a1.f5.length c1_0 :: []), Ro k76 A1_0 c1_0 a1.f5, Blk b11 67 [.int .i64 r7.f0, .int .i64 r7.f1, .slice A8 r7.f2.length c9], Ro k76 A8 c9 r7.f2, Blk b23 67 [.int .i64 r19.1.f0, .int .i64 r19.1.f1, .slice A20 r19.1.f2.length c21], Buf k76 76 A20 c21 r19.1.f2] e ds As) ?_ ?_
  · refine SA_block ?_
    refine SA_loop (fun k_ e ds As => ∃ (x10_25 : Int) (z6_2_25 : (List S76)), F8.l0 r13 k_ x10_25 z6_2_25 = some t25 ∧ St [(2, .pointer (some ⟨b3, 0, none⟩)), (3, .pointer (some ⟨b5, 0, none⟩)), (5, .pointer (some ⟨b11, 0, none⟩)), (6, .pointer (some ⟨b17, 0, none⟩)), (8, .pointer (some ⟨b23, 0, none⟩)), (10, .int .i64 x10_25)] [Blk b3 67 [.int .i64 a0.f0, .int .i64 a0.f1, .slice A0_0 a0.f2.length c0_0], Ro k76 A0_0 c0_0 a0.f2, Blk b5 90 (.int .i64 a1.f0 :: .int .i64 a1.f1 :: .int .i64 a1.f2 :: .int .i64 a1.f3 :: .int .i64 a1.f4.f0 :: .int .i64 a1.f4.f1 :: .bool a1.f4.f2 :: .bool a1.f4.f3 :: .bool a1.f4.f4 :: .bool a1.f4.f5 :: .bool a1.f4.f6 :: .bool a1.f4.f7 :: .bool a1.f4.f8 :: .bool a1.f4.f9 :: .slice A1_0 a1.f5.length c1_0 :: []), Ro k76 A1_0 c1_0 a1.f5, Blk b11 67 [.int .i64 r7.f0, .int .i64 r7.f1, .slice A8 r7.f2.length c9], Ro k76 A8 c9 r7.f2, Blk b17 67 [.int .i64 r13.1.f0, .int .i64 r13.1.f1, .slice A14 z6_2_25.length c15], Buf k76 76 A14 c15 z6_2_25, Blk b23 67 [.int .i64 r19.1.f0, .int .i64 r19.1.f1, .slice A20 r19.1.f2.length c21], Buf k76 76 A20 c21 r19.1.f2] e ds As) (k := k) ⟨_, _, H, St.mk1 (aeq rfl (aeq rfl (aeq rfl (aeq rfl (aeq rfl (aeq rfl aeq0)))))) (Gh.sel [0, 1, 2, 3, 4, 5, 6, 7, 8, 9] rfl rfl)⟩ ?_
    clear H
    rintro k26 e ds As ⟨x10_25, z6_2_25, H, hst27⟩
    obtain _ | k26 := k26
    · cases H
    rw [F8.l0] at H
    obtain ⟨hl33, H⟩ := g_pos H
    refine SA.of_St hst27 fun junk => ?_
    refine SA_seq ?_
    refine SA_seq ?_
    refine SA_region ?_
    refine RA_step rfl (OA_v (v := .int .i64 x10_25) rfl (V_move rfl) ?_)
    refine RA_step rfl (OA_v (v := .pointer (some ((⟨b17, 0, none⟩ : Addr).add 2))) rfl (V_fieldAddrN (B := ⟨b17, 0, none⟩) (m := 0) (o := 2) Try.underlying67 rfl nz65 rfl rfl) ?_)
    refine RA_step rfl (OA_r rfl (VR_load_blk (b := b17) (m := 2) (k := 6) Try.underlying65 rfl rfl rfl rfl) ?_)
    refine RA_step rfl (OA_v (v := .int .i64 (z6_2_25.length : Int)) rfl (V_len Try.underlying65 rfl) ?_)
    refine RA_step rfl (OA_v (v := .bool (decide (x10_25 < (z6_2_25.length : Int)))) rfl (V_lss rfl rfl) ?_)
    refine RA_nil ?_
    refine at_normal ?_
    by_cases h28 : x10_25 < (z6_2_25.length : Int)
    · replace H := g_ift h28 H
      refine SA_condT rfl h28 ?_
      refine SA_skip ?_
      refine at_normal ?_
      refine SA_seq ?_
      refine SA_block ?_
      refine SA_region ?_
      refine RA_step rfl (OA_v (v := .pointer (some ((⟨b17, 0, none⟩ : Addr).add 2))) rfl (V_fieldAddrN (B := ⟨b17, 0, none⟩) (m := 0) (o := 2) Try.underlying67 rfl nz65 rfl rfl) ?_)
      refine RA_step rfl (OA_r rfl (VR_load_blk (b := b17) (m := 2) (k := 6) Try.underlying65 rfl rfl rfl rfl) ?_)
      refine RA_step rfl (OA_v (v := .int .i64 x10_25) rfl (V_move rfl) ?_)
      obtain ⟨⟨g29, g30⟩, H⟩ := g_pos H
      refine RA_step rfl (OA_r rfl (VR_index (i := x10_25) Try.underlying65 sz76 rfl rfl (Src.buf (k := 7) rfl) g29 g30) ?_)
      refine RA_step rfl (OA_v (v := .pointer (some ((el A14 (x10_25.toNat * 15)).add 0))) rfl (V_fieldAddrN (B := el A14 (x10_25.toNat * 15)) (m := 0) (o := 0) Try.underlying76 rfl nz21 rfl rfl) ?_)
      obtain ⟨n31, hn31, H⟩ := g_lt H
      have hl_n31 : n31.length = z6_2_25.length := by rw [hn31]; exact List.length_set
      refine RA_step rfl (OA_stEl (k := 7) (i := x10_25) (j := x10_25.toNat * 15) (m := 0) (sz := 15) (xs := z6_2_25) (vs := [.int .i32 1]) (S76.mk 1 ((rd z6_2_25 x10_25).f1) ((rd z6_2_25 x10_25).f2) ((rd z6_2_25 x10_25).f3)) rfl rfl rfl rfl rfl rfl rfl rfl sz21 g29 g30 rfl (fun _ _ h_ => by subst h_; rfl) ?_)
      rewrite [← hn31]
      try rewrite [← hl_n31]
      refine RA_nil ?_
      refine inb_normal ?_
      refine at_normal ?_
      refine SA_region ?_
      refine RA_step rfl (OA_v (v := .int .i64 x10_25) rfl (V_move rfl) ?_)
      refine RA_step rfl (OA_v (v := .int .i64 (IntKind.i64.wrap (x10_25 + 1))) rfl (V_add rfl rfl) ?_)
      obtain ⟨n32, hn32, H⟩ := g_lt H
      refine RA_step rfl (OA_v (v := .int .i64 n32) rfl (V_assign (v := .int .i64 n32) (congrArg (Value.int .i64) hn32.symm)) ?_)
      refine RA_nil ?_
      exact at_normal ⟨k26, Nat.lt_succ_self _, _, _, H, St.mk1 (aeq rfl (aeq rfl (aeq rfl (aeq rfl (aeq rfl (aeq rfl aeq0)))))) (Gh.sel [0, 1, 2, 3, 4, 5, 6, 7, 8, 9] rfl rfl)⟩
    replace H := g_iff h28 H
    refine SA_condF rfl h28 ?_
    refine SA_exit ?_
    refine thn_exit ?_
    refine thn_exit ?_
    refine inb_hit ?_
    have hr_ := Option.some.inj H
    subst hr_
    exact at_normal (St.mk1 (aeq rfl (aeq rfl (aeq rfl (aeq rfl aeq0)))) (Gh.sel [0, 1, 2, 3, 4, 5, 8, 9] rfl rfl))
  rintro e ds As hst34
  clear H
  have H := Bt25
  clear Bt25
  refine at_normal ?_
  refine SA.of_St hst34 fun junk => ?_
  refine SA_seq ?_
  refine SA_seq ?_
  refine SA_region ?_
  refine RA_step rfl (OA_v (v := .int .i64 0) rfl (V_assign rfl) ?_)
  refine RA_nil ?_
  refine at_normal ?_
  obtain ⟨t35, H, Bt35⟩ := g_bind H
  refine SA_mid (fun e ds As => St [(2, .pointer (some ⟨b3, 0, none⟩)), (3, .pointer (some ⟨b5, 0, none⟩)), (5, .pointer (some ⟨b11, 0, none⟩))] [Blk b3 67 [.int .i64 a0.f0, .int .i64 a0.f1, .slice A0_0 a0.f2.length c0_0], Ro k76 A0_0 c0_0 a0.f2, Blk b5 90 (.int .i64 a1.f0 :: .int .i64 a1.f1 :: .int .i64 a1.f2 :: .int .i64 a1.f3 :: .int .i64 a1.f4.f0 :: .int .i64 a1.f4.f1 :: .bool a1.f4.f2 :: .bool a1.f4.f3 :: .bool a1.f4.f4 :: .bool a1.f4.f5 :: .bool a1.f4.f6 :: .bool a1.f4.f7 :: .bool a1.f4.f8 :: .bool a1.f4.f9 :: .slice A1_0 a1.f5.length c1_0 :: []), Ro k76 A1_0 c1_0 a1.f5, Blk b11 67 [.int .i64 r7.f0, .int .i64 r7.f1, .slice A8 r7.f2.length c9], Ro k76 A8 c9 r7.f2] e ds As) ?_ ?_
  · refine SA_block ?_
    refine SA_loop (fun k_ e ds As => ∃ (x11_35 : Int) (z8_2_35 : (List S76)), F8.l1 r19 k_ x11_35 z8_2_35 = some t35 ∧ St [(2, .pointer (some ⟨b3, 0, none⟩)), (3, .pointer (some ⟨b5, 0, none⟩)), (5, .pointer (some ⟨b11, 0, none⟩)), (8, .pointer (some ⟨b23, 0, none⟩)), (11, .int .i64 x11_35)] [Blk b3 67 [.int .i64 a0.f0, .int .i64 a0.f1, .slice A0_0 a0.f2.length c0_0], Ro k76 A0_0 c0_0 a0.f2, Blk b5 90 (.int .i64 a1.f0 :: .int .i64 a1.f1 :: .int .i64 a1.f2 :: .int .i64 a1.f3 :: .int .i64 a1.f4.f0 :: .int .i64 a1.f4.f1 :: .bool a1.f4.f2 :: .bool a1.f4.f3 :: .bool a1.f4.f4 :: .bool a1.f4.f5 :: .bool a1.f4.f6 :: .bool a1.f4.f7 :: .bool a1.f4.f8 :: .bool a1.f4.f9 :: .slice A1_0 a1.f5.length c1_0 :: []), Ro k76 A1_0 c1_0 a1.f5, Blk b11 67 [.int .i64 r7.f0, .int .i64 r7.f1, .slice A8 r7.f2.length c9], Ro k76 A8 c9 r7.f2, Blk b23 67 [.int .i64 r19.1.f0, .int .i64 r19.1.f1, .slice A20 z8_2_35.length c21], Buf k76 76 A20 c21 z8_2_35] e ds As) (k := k) ⟨_, _, H, St.mk1 (aeq rfl (aeq rfl (aeq rfl (aeq rfl (aeq rfl aeq0))))) (Gh.sel [0, 1, 2, 3, 4, 5, 6, 7] rfl rfl)⟩ ?_
    clear H
    rintro k36 e ds As ⟨x11_35, z8_2_35, H, hst37⟩
    obtain _ | k36 := k36
    · cases H
    rw [F8.l1] at H
    obtain ⟨hl43, H⟩ := g_pos H
    refine SA.of_St hst37 fun junk => ?_
    refine SA_seq ?_
    refine SA_seq ?_
    refine SA_region ?_
    refine RA_step rfl (OA_v (v := .int .i64 x11_35) rfl (V_move rfl) ?_)
    refine RA_step rfl (OA_v (v := .pointer (some ((⟨b23, 0, none⟩ : Addr).add 2))) rfl (V_fieldAddrN (B := ⟨b23, 0, none⟩) (m := 0) (o := 2) Try.underlying67 rfl nz65 rfl rfl) ?_)
    refine RA_step rfl (OA_r rfl (VR_load_blk (b := b23) (m := 2) (k := 6) Try.underlying65 rfl rfl rfl rfl) ?_)
    refine RA_step rfl (OA_v (v := .int .i64 (z8_2_35.length : Int)) rfl (V_len Try.underlying65 rfl) ?_)
    refine RA_step rfl (OA_v (v := .bool (decide (x11_35 < (z8_2_35.length : Int)))) rfl (V_lss rfl rfl) ?_)
    refine RA_nil ?_
    refine at_normal ?_
    by_cases h38 : x11_35 < (z8_2_35.length : Int)
    · replace H := g_ift h38 H
      refine SA_condT rfl h38 ?_
      refine SA_skip ?_
      refine at_normal ?_
      refine SA_seq ?_
      refine SA_block ?_
      refine SA_region ?_
      refine RA_step rfl (OA_v (v := .pointer (some ((⟨b23, 0, none⟩ : Addr).add 2))) rfl (V_fieldAddrN (B := ⟨b23, 0, none⟩) (m := 0) (o := 2) Try.underlying67 rfl nz65 rfl rfl) ?_)
      refine RA_step rfl (OA_r rfl (VR_load_blk (b := b23) (m := 2) (k := 6) Try.underlying65 rfl rfl rfl rfl) ?_)
      refine RA_step rfl (OA_v (v := .int .i64 x11_35) rfl (V_move rfl) ?_)
      obtain ⟨⟨g39, g40⟩, H⟩ := g_pos H
      refine RA_step rfl (OA_r rfl (VR_index (i := x11_35) Try.underlying65 sz76 rfl rfl (Src.buf (k := 7) rfl) g39 g40) ?_)
      refine RA_step rfl (OA_v (v := .pointer (some ((el A20 (x11_35.toNat * 15)).add 0))) rfl (V_fieldAddrN (B := el A20 (x11_35.toNat * 15)) (m := 0) (o := 0) Try.underlying76 rfl nz21 rfl rfl) ?_)
      obtain ⟨n41, hn41, H⟩ := g_lt H
      have hl_n41 : n41.length = z8_2_35.length := by rw [hn41]; exact List.length_set
      refine RA_step rfl (OA_stEl (k := 7) (i := x11_35) (j := x11_35.toNat * 15) (m := 0) (sz := 15) (xs := z8_2_35) (vs := [.int .i32 2]) (S76.mk 2 ((rd z8_2_35 x11_35).f1) ((rd z8_2_35 x11_35).f2) ((rd z8_2_35 x11_35).f3)) rfl rfl rfl rfl rfl rfl rfl rfl sz21 g39 g40 rfl (fun _ _ h_ => by subst h_; rfl) ?_)
      rewrite [← hn41]
      try rewrite [← hl_n41]
      refine RA_nil ?_
      refine inb_normal ?_
      refine at_normal ?_
      refine SA_region ?_
      refine RA_step rfl (OA_v (v := .int .i64 x11_35) rfl (V_move rfl) ?_)
      refine RA_step rfl (OA_v (v := .int .i64 (IntKind.i64.wrap (x11_35 + 1))) rfl (V_add rfl rfl) ?_)
      obtain ⟨n42, hn42, H⟩ := g_lt H
      refine RA_step rfl (OA_v (v := .int .i64 n42) rfl (V_assign (v := .int .i64 n42) (congrArg (Value.int .i64) hn42.symm)) ?_)
      refine RA_nil ?_
      exact at_normal ⟨k36, Nat.lt_succ_self _, _, _, H, St.mk1 (aeq rfl (aeq rfl (aeq rfl (aeq rfl (aeq rfl aeq0))))) (Gh.sel [0, 1, 2, 3, 4, 5, 6, 7] rfl rfl)⟩
    replace H := g_iff h38 H
    refine SA_condF rfl h38 ?_
    refine SA_exit ?_
    refine thn_exit ?_
    refine thn_exit ?_
    refine inb_hit ?_
    have hr_ := Option.some.inj H
    subst hr_
    exact at_normal (St.mk1 (aeq rfl (aeq rfl (aeq rfl aeq0))) (Gh.sel [0, 1, 2, 3, 4, 5] rfl rfl))
  rintro e ds As hst44
  clear H
  have H := Bt35
  clear Bt35
  refine at_normal ?_
  refine SA.of_St hst44 fun junk => ?_
  refine SA_seq ?_
  refine SA_region ?_
  refine RA_step rfl (OA_r rfl (VR_loadA_blk (b := b11) (m := 0) (k := 4) (vs := [.int .i64 r7.f0, .int .i64 r7.f1, .slice A8 r7.f2.length c9]) Try.underlying67 rfl sz67 rfl rfl rfl) ?_)
  refine RA_step rfl (OA_v (v := .pointer (some ⟨b5, 0, none⟩)) rfl (V_fieldAddrN (B := ⟨b5, 0, none⟩) (m := 0) (o := 0) Try.underlying90 rfl nz3 rfl rfl) ?_)
  refine RA_step rfl (OA_r rfl (VR_load_blk (b := b5) (m := 0) (k := 2) Try.underlying3 rfl rfl rfl rfl) ?_)
  refine RA_step rfl (OA_v (v := .pointer (some ⟨b5, 0, none⟩)) rfl (V_fieldAddrN (B := ⟨b5, 0, none⟩) (m := 0) (o := 0) Try.underlying90 rfl nz3 rfl rfl) ?_)
  refine RA_step rfl (OA_r rfl (VR_load_blk (b := b5) (m := 0) (k := 2) Try.underlying3 rfl rfl rfl rfl) ?_)
  refine RA_step rfl (OA_v (v := .pointer (some ((⟨b5, 0, none⟩ : Addr).add 4))) rfl (V_fieldAddrN (B := ⟨b5, 0, none⟩) (m := 0) (o := 4) Try.underlying90 rfl nz70 rfl rfl) ?_)
  refine RA_step rfl (OA_r rfl (VR_loadA_blk (b := b5) (m := 4) (k := 2) (vs := [.int .i64 a1.f4.f0, .int .i64 a1.f4.f1, .bool a1.f4.f2, .bool a1.f4.f3, .bool a1.f4.f4, .bool a1.f4.f5, .bool a1.f4.f6, .bool a1.f4.f7, .bool a1.f4.f8, .bool a1.f4.f9]) Try.underlying70 rfl sz70 rfl rfl rfl) ?_)
  obtain ⟨r45, C73, H⟩ := g_bind H
  refine RA_step rfl (OA_callA [5] [0, 1, 2, 3, 4, 5] rfl (X_fn (vs := [.agg #[.int .i64 r7.f0, .int .i64 r7.f1, .slice A8 r7.f2.length c9], .int .i64 a1.f0, .int .i64 a1.f0, .int .i64 0, .agg #[.int .i64 a1.f4.f0, .int .i64 a1.f4.f1, .bool a1.f4.f2, .bool a1.f4.f3, .bool a1.f4.f4, .bool a1.f4.f5, .bool a1.f4.f6, .bool a1.f4.f7, .bool a1.f4.f8, .bool a1.f4.f9]]) Try.func33 nm33 rfl rfl) rfl (F33.ok (a0 := r7) (A0_0 := A8) (c0_0 := c9) (a1 := a1.f0) (a2 := a1.f0) (a3 := 0) (a4 := a1.f4) C73) rfl ?_)
  rintro _ _ ⟨A46, c47, rfl, rfl⟩
  refine RA_step rfl (OA_v (v := .tuple #[.agg #[.int .i64 r45.1.f0, .int .i64 r45.1.f1, .slice A46 r45.1.f2.length c47], .int .i64 r45.2]) rfl (V_move rfl) ?_)
  refine RA_step rfl (OA_v (v := .agg #[.int .i64 r45.1.f0, .int .i64 r45.1.f1, .slice A46 r45.1.f2.length c47]) rfl (V_extract rfl rfl) ?_)
  refine RA_step rfl (OA_v (v := .int .i64 r45.2) rfl (V_extract rfl rfl) ?_)
  refine RA_step rfl (OA_alloc rfl zero67 fun b49 => ?_)
  refine RA_step rfl (OA_st (b := b49) (m := 0) (k := 7) (vs := [.int .i64 r45.1.f0, .int .i64 r45.1.f1, .slice A46 r45.1.f2.length c47]) (cs' := [.int .i64 r45.1.f0, .int .i64 r45.1.f1, .slice A46 r45.1.f2.length c47]) rfl rfl rfl rfl rfl rfl sz67 rfl rfl ?_)
  refine RA_step rfl (OA_v (v := .int .i64 r45.2) rfl (V_assign rfl) ?_)
  refine RA_nil ?_
  refine at_normal ?_
  refine SA_seq ?_
  refine SA_region ?_
  refine RA_step rfl (OA_r rfl (VR_loadA_blk (b := b3) (m := 0) (k := 1) (vs := [.int .i64 a0.f0, .int .i64 a0.f1, .slice A0_0 a0.f2.length c0_0]) Try.underlying67 rfl sz67 rfl rfl rfl) ?_)
  refine RA_step rfl (OA_v (v := .pointer (some ⟨b5, 0, none⟩)) rfl (V_fieldAddrN (B := ⟨b5, 0, none⟩) (m := 0) (o := 0) Try.underlying90 rfl nz3 rfl rfl) ?_)
  refine RA_step rfl (OA_r rfl (VR_load_blk (b := b5) (m := 0) (k := 3) Try.underlying3 rfl rfl rfl rfl) ?_)
  refine RA_step rfl (OA_v (v := .pointer (some ⟨b5, 0, none⟩)) rfl (V_fieldAddrN (B := ⟨b5, 0, none⟩) (m := 0) (o := 0) Try.underlying90 rfl nz3 rfl rfl) ?_)
  refine RA_step rfl (OA_r rfl (VR_load_blk (b := b5) (m := 0) (k := 3) Try.underlying3 rfl rfl rfl rfl) ?_)
  refine RA_step rfl (OA_v (v := .pointer (some ((⟨b5, 0, none⟩ : Addr).add 4))) rfl (V_fieldAddrN (B := ⟨b5, 0, none⟩) (m := 0) (o := 4) Try.underlying90 rfl nz70 rfl rfl) ?_)
  refine RA_step rfl (OA_r rfl (VR_loadA_blk (b := b5) (m := 4) (k := 3) (vs := [.int .i64 a1.f4.f0, .int .i64 a1.f4.f1, .bool a1.f4.f2, .bool a1.f4.f3, .bool a1.f4.f4, .bool a1.f4.f5, .bool a1.f4.f6, .bool a1.f4.f7, .bool a1.f4.f8, .bool a1.f4.f9]) Try.underlying70 rfl sz70 rfl rfl rfl) ?_)
  obtain ⟨r51, C72, H⟩ := g_bind H
  refine RA_step rfl (OA_callA [2] [0, 1, 2, 3, 4, 5, 6, 7] rfl (X_fn (vs := [.agg #[.int .i64 a0.f0, .int .i64 a0.f1, .slice A0_0 a0.f2.length c0_0], .int .i64 a1.f0, .int .i64 a1.f0, .int .i64 0, .agg #[.int .i64 a1.f4.f0, .int .i64 a1.f4.f1, .bool a1.f4.f2, .bool a1.f4.f3, .bool a1.f4.f4, .bool a1.f4.f5, .bool a1.f4.f6, .bool a1.f4.f7, .bool a1.f4.f8, .bool a1.f4.f9]]) Try.func39 nm39 rfl rfl) rfl (F39.ok (a0 := a0) (A0_0 := A0_0) (c0_0 := c0_0) (a1 := a1.f0) (a2 := a1.f0) (a3 := 0) (a4 := a1.f4) C72) rfl ?_)
  rintro _ _ ⟨A52, c53, rfl, rfl⟩
  refine RA_step rfl (OA_v (v := .tuple #[.agg #[.int .i64 r51.1.f0, .int .i64 r51.1.f1, .slice A52 r51.1.f2.length c53], .int .i64 r51.2]) rfl (V_move rfl) ?_)
  refine RA_step rfl (OA_v (v := .agg #[.int .i64 r51.1.f0, .int .i64 r51.1.f1, .slice A52 r51.1.f2.length c53]) rfl (V_extract rfl rfl) ?_)
  refine RA_step rfl (OA_v (v := .int .i64 r51.2) rfl (V_extract rfl rfl) ?_)
  refine RA_step rfl (OA_alloc rfl zero67 fun b55 => ?_)
  refine RA_step rfl (OA_st (b := b55) (m := 0) (k := 9) (vs := [.int .i64 r51.1.f0, .int .i64 r51.1.f1, .slice A52 r51.1.f2.length c53]) (cs' := [.int .i64 r51.1.f0, .int .i64 r51.1.f1, .slice A52 r51.1.f2.length c53]) rfl rfl rfl rfl rfl rfl sz67 rfl rfl ?_)
  refine RA_step rfl (OA_v (v := .int .i64 r51.2) rfl (V_assign rfl) ?_)
  refine RA_nil ?_
  refine at_normal ?_
  refine SA.of_St (l := [(2, .pointer (some ⟨b3, 0, none⟩)), (5, .pointer (some ⟨b11, 0, none⟩)), (12, .pointer (some ⟨b49, 0, none⟩)), (13, .int .i64 r45.2), (14, .pointer (some ⟨b55, 0, none⟩)), (15, .int .i64 r51.2)]) (B := [Blk b3 67 [.int .i64 a0.f0, .int .i64 a0.f1, .slice A0_0 a0.f2.length c0_0], Ro k76 A0_0 c0_0 a0.f2, Blk b11 67 [.int .i64 r7.f0, .int .i64 r7.f1, .slice A8 r7.f2.length c9], Ro k76 A8 c9 r7.f2, Blk b49 67 [.int .i64 r45.1.f0, .int .i64 r45.1.f1, .slice A46 r45.1.f2.length c47], Buf k76 76 A46 c47 r45.1.f2, Blk b55 67 [.int .i64 r51.1.f0, .int .i64 r51.1.f1, .slice A52 r51.1.f2.length c53], Buf k76 76 A52 c53 r51.1.f2]) (St.mk1 (aeq rfl (aeq rfl (aeq rfl (aeq rfl (aeq rfl (aeq rfl aeq0)))))) (Gh.sel [2, 3, 6, 7, 8, 1, 9, 0] (by kernel_rfl) (by kernel_rfl))) fun junk => ?_
  refine SA_seq ?_
  refine SA_region ?_
  obtain ⟨r57, C71, H⟩ := g_bind H
  refine RA_step rfl (OA_callA [] [0, 1, 2, 3, 4, 5, 6, 7] rfl (X_fn (vs := []) Try.func31 nm31 rfl rfl) rfl (F31.ok C71) rfl ?_)
  rintro _ _ ⟨rfl, rfl⟩
  refine RA_step rfl (OA_v (v := .bool r57) rfl (V_move rfl) ?_)
  obtain ⟨q58, H, Bq58⟩ := g_bind H
  refine RA_cut 4 (fun e ds As => St [(12, .pointer (some ⟨b49, 0, none⟩)), (13, .int .i64 r45.2), (14, .pointer (some ⟨b55, 0, none⟩)), (15, .int .i64 r51.2), (93, .bool q58)] [Blk b49 67 [.int .i64 r45.1.f0, .int .i64 r45.1.f1, .slice A46 r45.1.f2.length c47], Buf k76 76 A46 c47 r45.1.f2, Blk b55 67 [.int .i64 r51.1.f0, .int .i64 r51.1.f1, .slice A52 r51.1.f2.length c53], Buf k76 76 A52 c53 r51.1.f2] e ds As) ?_ ?_
  · by_cases h59 : r57 = true
    · replace H := g_ift h59 H
      refine RA_yesB rfl rfl rfl rfl (h59) (OA_r rfl (VR_loadA_blk (b := b3) (m := 0) (k := 0) (vs := [.int .i64 a0.f0, .int .i64 a0.f1, .slice A0_0 a0.f2.length c0_0]) Try.underlying67 rfl sz67 rfl rfl rfl) ?_)
      refine RA_yesB rfl rfl rfl rfl (h59) (OA_r rfl (VR_loadA_blk (b := b11) (m := 0) (k := 2) (vs := [.int .i64 r7.f0, .int .i64 r7.f1, .slice A8 r7.f2.length c9]) Try.underlying67 rfl sz67 rfl rfl rfl) ?_)
      obtain ⟨r60, C61, H⟩ := g_bind H
      refine RA_yesB rfl rfl rfl rfl (h59) (OA_callA [1, 3] [0, 1, 2, 3, 4, 5, 6, 7] rfl (X_fn (vs := [.agg #[.int .i64 a0.f0, .int .i64 a0.f1, .slice A0_0 a0.f2.length c0_0], .agg #[.int .i64 r7.f0, .int .i64 r7.f1, .slice A8 r7.f2.length c9]]) Try.func40 nm40 rfl rfl) rfl (F40.ok (a0 := a0) (A0_0 := A0_0) (c0_0 := c0_0) (a1 := r7) (A1_0 := A8) (c1_0 := c9) C61) rfl ?_)
      rintro _ _ ⟨rfl, rfl⟩
      refine RA_step rfl (OA_v rfl (V_pickT rfl (h59) rfl) ?_)
      have hr_ := Option.some.inj H
      subst hr_
      refine RA_nil ?_
      exact at_normal (St.mk1 (aeq rfl (aeq rfl (aeq rfl (aeq rfl (aeq rfl aeq0))))) (Gh.sel [4, 5, 6, 7] rfl rfl))
    replace H := g_iff h59 H
    refine RA_noB rfl rfl rfl rfl (bno h59) rfl ?_
    refine RA_noB rfl rfl rfl rfl (bno h59) rfl ?_
    refine RA_noB rfl rfl rfl rfl (bno h59) rfl ?_
    refine RA_step rfl (OA_v rfl (V_pickF rfl (bno h59) rfl) ?_)
    have hr_ := Option.some.inj H
    subst hr_
    refine RA_nil ?_
    exact at_normal (St.mk1 (aeq rfl (aeq rfl (aeq rfl (aeq rfl (aeq rfl aeq0))))) (Gh.sel [4, 5, 6, 7] rfl rfl))
  rintro e ds As hst62
  clear H
  have H := Bq58
  clear Bq58
  refine RA.of_St rfl hst62 fun junk => ?_
  refine RA_step rfl (OA_v (v := .bool q58) rfl (V_move rfl) ?_)
  obtain ⟨q63, H, Bq63⟩ := g_bind H
  refine RA_cut 4 (fun e ds As => St [(13, .int .i64 r45.2), (15, .int .i64 r51.2), (98, .bool q63)] [] e ds As) ?_ ?_
  · by_cases h64 : q58 = true
    · replace H := g_ift h64 H
      refine RA_yesB rfl rfl rfl rfl (h64) (OA_r rfl (VR_loadA_blk (b := b49) (m := 0) (k := 0) (vs := [.int .i64 r45.1.f0, .int .i64 r45.1.f1, .slice A46 r45.1.f2.length c47]) Try.underlying67 rfl sz67 rfl rfl rfl) ?_)
      refine RA_yesB rfl rfl rfl rfl (h64) (OA_r rfl (VR_loadA_blk (b := b55) (m := 0) (k := 2) (vs := [.int .i64 r51.1.f0, .int .i64 r51.1.f1, .slice A52 r51.1.f2.length c53]) Try.underlying67 rfl sz67 rfl rfl rfl) ?_)
      obtain ⟨r65, C66, H⟩ := g_bind H
      refine RA_yesB rfl rfl rfl rfl (h64) (OA.ghost (Gh.freeze (k := 1) rfl) (OA.ghost (Gh.freeze (k := 3) rfl) (OA_callA [1, 3] [0, 1, 2, 3] rfl (X_fn (vs := [.agg #[.int .i64 r45.1.f0, .int .i64 r45.1.f1, .slice A46 r45.1.f2.length c47], .agg #[.int .i64 r51.1.f0, .int .i64 r51.1.f1, .slice A52 r51.1.f2.length c53]]) Try.func40 nm40 rfl rfl) rfl (F40.ok (a0 := r45.1) (A0_0 := A46) (c0_0 := c47) (a1 := r51.1) (A1_0 := A52) (c1_0 := c53) C66) rfl ?_)))
      rintro _ _ ⟨rfl, rfl⟩
      refine RA_step rfl (OA_v rfl (V_pickT rfl (h64) rfl) ?_)
      have hr_ := Option.some.inj H
      subst hr_
      refine RA_nil ?_
      exact at_normal (St.mk1 (aeq rfl (aeq rfl (aeq rfl aeq0))) (Gh.sel [] rfl rfl))
    replace H := g_iff h64 H
    refine RA_noB rfl rfl rfl rfl (bno h64) rfl ?_
    refine RA_noB rfl rfl rfl rfl (bno h64) rfl ?_
    refine RA_noB rfl rfl rfl rfl (bno h64) rfl ?_
    refine RA_step rfl (OA_v rfl (V_pickF rfl (bno h64) rfl) ?_)
    have hr_ := Option.some.inj H
    subst hr_
    refine RA_nil ?_
    exact at_normal (St.mk1 (aeq rfl (aeq rfl (aeq rfl aeq0))) (Gh.sel [] rfl rfl))
  rintro e ds As hst67
  clear H
  have H := Bq63
  clear Bq63
  refine RA.of_St rfl hst67 fun junk => ?_
  refine RA_step rfl (OA_v (v := .bool q63) rfl (V_move rfl) ?_)
  obtain ⟨q68, hq68, H⟩ := g_lt H
  refine RA_cut 4 (fun e ds As => St [(103, .bool q68)] [] e ds As) ?_ ?_
  · by_cases h69 : q63 = true
    · refine RA_yesB rfl rfl rfl rfl (h69) (OA_v (v := .int .i64 r45.2) rfl (V_move rfl) ?_)
      refine RA_yesB rfl rfl rfl rfl (h69) (OA_v (v := .int .i64 r51.2) rfl (V_move rfl) ?_)
      refine RA_yesB rfl rfl rfl rfl (h69) (OA_v (v := .bool (decide (r45.2 = r51.2))) rfl (V_eql rfl rfl) ?_)
      refine RA_step rfl (OA_v rfl (V_pickT rfl (h69) rfl) ?_)
      refine RA_nil ?_
      exact at_normal (St.mk1 (aeq (congrArg Value.bool (and_t hq68 (h69))) aeq0) (Gh.sel [] rfl rfl))
    refine RA_noB rfl rfl rfl rfl (bno h69) rfl ?_
    refine RA_noB rfl rfl rfl rfl (bno h69) rfl ?_
    refine RA_noB rfl rfl rfl rfl (bno h69) rfl ?_
    refine RA_step rfl (OA_v rfl (V_pickF rfl (bno h69) rfl) ?_)
    refine RA_nil ?_
    exact at_normal (St.mk1 (aeq (congrArg Value.bool (and_f hq68 (bno h69))) aeq0) (Gh.sel [] rfl rfl))
  rintro e ds As hst70
  refine RA.of_St rfl hst70 fun junk => ?_
  refine RA_step rfl (OA_v (v := .bool q68) rfl (V_assign rfl) ?_)
  refine RA_nil ?_
  refine at_normal ?_
  refine SA_ret ?_
  have hr_ := Option.some.inj H
  subst hr_
  exact BQ_R1 [] rfl rfl (Gh.sel [] rfl rfl) ⟨rfl, rfl⟩
end Go.Proofs.Ytodkeoibebimgaa.Gr

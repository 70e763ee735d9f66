/- What functions compute, and that they do: 52. -/
import Derived.Test.YtodkeoibebimgaaSq0
import Derived.Test.YtodkeoibebimgaaSq1
import Derived.Test.YtodkeoibebimgaaSq2
import Derived.Test.YtodkeoibebimgaaSq5
import Derived.Test.YtodkeoibebimgaaSq6
namespace Go.Proofs.Ytodkeoibebimgaa.Sq
open Go Go.RowKit Go.Proofs.Ytodkeoibebimgaa.SL
set_option linter.unusedVariables false
set_option linter.unusedSimpArgs false
attribute [local irreducible] IntKind.wrap minI maxI shrI shlI andI orI xorI andNotI cplI rd sub bytesOf strOf slA
/-! ### function 52: (*wayfarer/ssp.Receiver[wayfarer/wayfarerlaw23.text]).Take -/
def F52.f (k : Nat) (p0 : S162) (a1 : S54) : Option (Bool × Int × S162) := (F92.f p0).bind (fun r6 => if (!r6) = true then (some ((false, 1, p0))) else ((F61.f k p0.f0 a1.f1).bind (fun r368 => if r368 ≥ 0 then ((F93.f k p0.f0 a1.f3).bind (fun r910 => some ((false, 0, (S162.mk r910))))) else ((F61.f k p0.f0 a1.f0).bind (fun r1511 => lt ((decide (r1511 < 0)) || (decide (a1.f1 < a1.f0))) fun q1632 => if q1632 = true then (some ((false, 230, p0))) else ((F93.f k p0.f0 a1.f3).bind (fun r1996 => if (r1996.length : Int) ≥ 32 then (some ((false, 231, p0))) else ((if 0 ≤ r1511 ∧ r1511 < (p0.f0.length : Int) then ((F64.f a1.f4).bind (fun r2841 => (F142b1.f ((rd p0.f0 r1511).f1) r2841).bind (fun r2901 => some (r2901.2, r2901.1)))) else none : Option (Int × S41)).bind (fun t2178 => if t2178.1 ≠ 0 then (some ((false, t2178.1, p0))) else ((F94.f k p0.f0 a1.f1 (fun (x0_ : S128) (x1_ : Int) => F95.f x0_ x1_)).bind (fun r3684 => (F62.f p0.f0).bind (fun r4285 => (F143.f t2178.2).bind (fun r4645 => (F96m0b2.f r4285 r3684.1 ([(S128.mk a1.f1 r4645 0)] : (List S128))).bind (fun r4825 => (F93.f k r4825 a1.f3).bind (fun r4946 => some ((decide (r3684.1 = (p0.f0.length : Int)), 0, (S162.mk r4946))))))))))))))))))
set_option maxHeartbeats 2000000 in
set_option maxRecDepth 100000 in
theorem F52.ok {k : Nat} {p0 : S162} {a1 : S54} {b0_ : Nat} {A0_0 : Option Addr} {c0_0 : Nat} {A1_0 : Option Addr} {c1_0 : Nat} {r : Bool × Int × S162} (H : F52.f k p0 a1 = some r) : SCA Try.prog 52 #[.pointer (some ⟨b0_, 0, none⟩), .agg #[.int .u64 a1.f0, .int .u64 a1.f1, .int .u64 a1.f2, .int .u64 a1.f3, .slice A1_0 a1.f4.length c1_0]] [Blk b0_ 162 [.slice A0_0 p0.f0.length c0_0], Ro k128 A0_0 c0_0 p0.f0, Ro (Kd.int .u8) A1_0 c1_0 a1.f4] (fun v B => ∃ (P0_0_ : Option Addr) (q0_0_ : Nat), v = .tuple #[.bool r.1, .int .i64 r.2.1] ∧ B = [Blk b0_ 162 [.slice P0_0_ r.2.2.f0.length q0_0_], Ro k128 P0_0_ q0_0_ r.2.2.f0]) := by
  refine SCA_of_body Try.func52 rfl rfl ?_
  unfold F52.f at H
  refine SA_seq ?_
  refine SA_region ?_
  refine RA_step rfl (OA_box rfl rfl fun b4 => ?_)
  refine RA_step rfl (OA_v (v := .bool false) rfl (V_assign rfl) ?_)
  refine RA_step rfl (OA_v (v := .int .i64 0) rfl (V_assign rfl) ?_)
  refine RA_nil ?_
  refine at_normal ?_
  refine SA_seq ?_
  refine SA_seq ?_
  refine SA_region ?_
  refine RA_step rfl (OA_v (v := .pointer (some ⟨b0_, 0, none⟩)) rfl (V_move rfl) ?_)
  obtain ⟨r6, C4951, H⟩ := g_bind H
  refine RA_step rfl (OA_callA [0, 1] [1, 2, 3] rfl (X_fn (vs := [.pointer (some ⟨b0_, 0, none⟩)]) Try.func92 nm92 rfl rfl) rfl (F92.ok (b0_ := b0_) (A0_0 := A0_0) (c0_0 := c0_0) (p0 := p0) C4951) rfl ?_)
  rintro _ _ ⟨rfl, rfl⟩
  refine RA_step rfl (OA_v (v := .bool (!r6)) rfl (V_not rfl) ?_)
  refine RA_nil ?_
  refine at_normal ?_
  by_cases h7 : (!r6) = true
  · replace H := g_ift h7 H
    refine SA_condTb rfl h7 ?_
    refine SA_seq ?_
    refine SA_region ?_
    refine RA_step rfl (OA_v (v := .bool false) rfl (V_assign rfl) ?_)
    refine RA_step rfl (OA_v (v := .int .i64 1) rfl (V_assign rfl) ?_)
    refine RA_nil ?_
    refine at_normal ?_
    refine SA_ret ?_
    refine thn_ret ?_
    have hr_ := Option.some.inj H
    subst hr_
    exact BQ_R2 [Blk b0_ 162 [.slice A0_0 p0.f0.length c0_0], Ro k128 A0_0 c0_0 p0.f0] rfl rfl rfl (Gh.sel [0, 1] rfl rfl) ⟨A0_0, c0_0, rfl, rfl⟩
  replace H := g_iff h7 H
  refine SA_condFb rfl h7 ?_
  refine SA_skip ?_
  refine at_normal ?_
  refine SA_seq ?_
  refine SA_seq ?_
  refine SA_drawHq [0, 1, 2, 3, 4, 5, 7] #[[], [0], [0, 1], [0, 1, 2], [], [4], [0, 1, 2, 3, 4, 5], [0, 1, 2, 3, 4, 5]] [0, 1, 2, 3] [1, 2] mixed rfl rfl rfl (PanOk.thn (PanOk.thn PanOk.body)) fun I0 hS h0 hh0 w0 sH dd pk => ?_
  refine DH_take (v := .pointer (some ⟨b0_, 0, none⟩)) 0 (by kernel_rfl) rfl rfl (.no rfl) pk sH rfl (VR.ofV (V_move rfl)) ?_
  refine DH_take (v := .pointer (some ⟨b0_, 0, none⟩)) 1 (by kernel_rfl) rfl rfl (.no rfl) pk sH rfl (VR.ofV (V_nilCheck rfl)) ?_
  refine DH_take (v := .pointer (some ⟨b0_, 0, none⟩)) 2 (by kernel_rfl) rfl rfl (.no rfl) pk sH rfl (VR.ofV (V_fieldAddrN (B := ⟨b0_, 0, none⟩) (m := 0) (o := 0) Try.underlying162 rfl nz129 rfl rfl)) ?_
  refine DH_take 3 (by kernel_rfl) rfl rfl (.no rfl) pk sH rfl (VR_load_blk (b := b0_) (m := 0) (k := 0) Try.underlying129 rfl rfl rfl rfl) ?_
  refine DH_take (v := .pointer (some ((⟨b4, 0, none⟩ : Addr).add 1))) 4 (by kernel_rfl) rfl rfl (.no rfl) pk sH rfl (VR.ofV (V_fieldAddrN (B := ⟨b4, 0, none⟩) (m := 0) (o := 1) Try.underlying54 rfl nz44 rfl rfl)) ?_
  refine DH_take 5 (by kernel_rfl) rfl rfl (.no rfl) pk sH rfl (VR_load_blk (b := b4) (m := 1) (k := 3) Try.underlying44 rfl rfl rfl rfl) ?_
  obtain ⟨r368, C369, H⟩ := g_bind H
  refine DH_one 6 dd (by kernel_rfl) rfl (.no rfl) (OA_callA [0] [0, 1] rfl (X_fn (vs := [.slice A0_0 p0.f0.length c0_0, .int .u64 a1.f1]) Try.func61 nm61 rfl rfl) rfl (F61.ok (l0 := p0.f0) (A0 := A0_0) (c0 := c0_0) (a1 := a1.f1) C369) rfl ?_)
  rintro _ _ ⟨rfl, rfl⟩
  refine DH_take (v := .bool (decide (r368 ≥ 0))) 7 (by kernel_rfl) rfl rfl (.no rfl) pk sH rfl (VR.ofV (V_geq rfl rfl)) ?_
  refine DH_open dd sH ?_
  refine DN_done (by kernel_rfl) ?_
  refine at_normal ?_
  by_cases h489 : r368 ≥ 0
  · replace H := g_ift h489 H
    refine SA_condT rfl h489 ?_
    refine SA_seq ?_
    refine SA_drawHq [0, 1, 2, 3, 4, 5, 6, 8, 9] #[[], [], [1], [1, 2], [1, 2, 3], [], [5], [1, 2, 3, 4, 5, 6], [0, 1, 2, 3, 4, 5, 6], [0, 1, 2, 3, 4, 5, 6, 8], [0, 1, 2, 3, 4, 5, 6, 8, 9]] [0, 1, 2, 3, 1, 2] [1, 2, 1, 2] mixed rfl rfl rfl (PanOk.thn (PanOk.thn PanOk.body)) fun I0 hS h0 hh0 w0 sH dd pk => ?_
    refine DH_take (v := .pointer (some ⟨b0_, 0, none⟩)) 0 (by kernel_rfl) rfl rfl (.no rfl) pk sH rfl (VR.ofV (V_move rfl)) ?_
    refine DH_take (v := .pointer (some ⟨b0_, 0, none⟩)) 1 (by kernel_rfl) rfl rfl (.no rfl) pk sH rfl (VR.ofV (V_move rfl)) ?_
    refine DH_take (v := .pointer (some ⟨b0_, 0, none⟩)) 2 (by kernel_rfl) rfl rfl (.no rfl) pk sH rfl (VR.ofV (V_nilCheck rfl)) ?_
    refine DH_take (v := .pointer (some ⟨b0_, 0, none⟩)) 3 (by kernel_rfl) rfl rfl (.no rfl) pk sH rfl (VR.ofV (V_fieldAddrN (B := ⟨b0_, 0, none⟩) (m := 0) (o := 0) Try.underlying162 rfl nz129 rfl rfl)) ?_
    refine DH_take 4 (by kernel_rfl) rfl rfl (.no rfl) pk sH rfl (VR_load_blk (b := b0_) (m := 0) (k := 0) Try.underlying129 rfl rfl rfl rfl) ?_
    refine DH_take (v := .pointer (some ((⟨b4, 0, none⟩ : Addr).add 3))) 5 (by kernel_rfl) rfl rfl (.no rfl) pk sH rfl (VR.ofV (V_fieldAddrN (B := ⟨b4, 0, none⟩) (m := 0) (o := 3) Try.underlying54 rfl nz44 rfl rfl)) ?_
    refine DH_take 6 (by kernel_rfl) rfl rfl (.no rfl) pk sH rfl (VR_load_blk (b := b4) (m := 3) (k := 3) Try.underlying44 rfl rfl rfl rfl) ?_
    obtain ⟨r910, C914, H⟩ := g_bind H
    refine DH_one 7 dd (by kernel_rfl) rfl (.no rfl) (OA_callA [0] [0, 1, 2, 3] rfl (X_fn (vs := [.slice A0_0 p0.f0.length c0_0, .int .u64 a1.f3]) Try.func93 nm93 rfl rfl) rfl (F93.ok (l0 := p0.f0) (A0 := A0_0) (c0 := c0_0) (a1 := a1.f3) C914) rfl ?_)
    rintro _ _ ⟨A911, c912, rfl, rfl⟩
    refine DH_take (v := .pointer (some ⟨b0_, 0, none⟩)) 8 (by kernel_rfl) rfl rfl (.no rfl) pk sH rfl (VR.ofV (V_nilCheck rfl)) ?_
    refine DH_take (v := .pointer (some ⟨b0_, 0, none⟩)) 9 (by kernel_rfl) rfl rfl (.no rfl) pk sH rfl (VR.ofV (V_fieldAddrN (B := ⟨b0_, 0, none⟩) (m := 0) (o := 0) Try.underlying162 rfl nz129 rfl rfl)) ?_
    refine DH_open dd sH ?_
    refine DN_one 10 (by kernel_rfl) rfl rfl (.no rfl) (OA_st (b := b0_) (m := 0) (k := 0) (vs := [.slice A911 r910.length c912]) (cs' := [.slice A911 r910.length c912]) rfl rfl rfl rfl rfl rfl sz129 rfl rfl ?_)
    refine DN_done (by kernel_rfl) ?_
    refine at_normal ?_
    refine SA.of_St (l := []) (B := [Blk b0_ 162 [.slice A911 r910.length c912], Buf k128 128 A911 c912 r910]) (St.mk1 aeq0 (Gh.sel [0, 6] (by kernel_rfl) (by kernel_rfl))) fun junk => ?_
    refine SA_seq ?_
    refine SA_region ?_
    refine RA_step rfl (OA_v (v := .bool false) rfl (V_assign rfl) ?_)
    refine RA_step rfl (OA_v (v := .int .i64 0) rfl (V_assign rfl) ?_)
    refine RA_nil ?_
    refine at_normal ?_
    refine SA_ret ?_
    refine thn_ret ?_
    have hr_ := Option.some.inj H
    subst hr_
    exact BQ_R2 [Blk b0_ 162 [.slice A911 r910.length c912], Ro k128 A911 c912 r910] rfl rfl rfl ((Gh.freeze (k := 1) rfl).trans (Gh.sel [0, 1] rfl rfl)) ⟨A911, c912, rfl, rfl⟩
  replace H := g_iff h489 H
  refine SA_condF rfl h489 ?_
  refine SA_skip ?_
  refine at_normal ?_
  refine SA_seq ?_
  refine SA_drawHq [0, 1, 2, 3, 4, 5, 7] #[[], [0], [0, 1], [0, 1, 2], [], [4], [0, 1, 2, 3, 4, 5], [0, 1, 2, 3, 4, 5]] [0, 1, 2, 3, 1, 2] [1, 2, 1, 2] mixed rfl rfl rfl (PanOk.thn PanOk.body) fun I0 hS h0 hh0 w0 sH dd pk => ?_
  refine DH_take (v := .pointer (some ⟨b0_, 0, none⟩)) 0 (by kernel_rfl) rfl rfl (.no rfl) pk sH rfl (VR.ofV (V_move rfl)) ?_
  refine DH_take (v := .pointer (some ⟨b0_, 0, none⟩)) 1 (by kernel_rfl) rfl rfl (.no rfl) pk sH rfl (VR.ofV (V_nilCheck rfl)) ?_
  refine DH_take (v := .pointer (some ⟨b0_, 0, none⟩)) 2 (by kernel_rfl) rfl rfl (.no rfl) pk sH rfl (VR.ofV (V_fieldAddrN (B := ⟨b0_, 0, none⟩) (m := 0) (o := 0) Try.underlying162 rfl nz129 rfl rfl)) ?_
  refine DH_take 3 (by kernel_rfl) rfl rfl (.no rfl) pk sH rfl (VR_load_blk (b := b0_) (m := 0) (k := 0) Try.underlying129 rfl rfl rfl rfl) ?_
  refine DH_take (v := .pointer (some ⟨b4, 0, none⟩)) 4 (by kernel_rfl) rfl rfl (.no rfl) pk sH rfl (VR.ofV (V_fieldAddrN (B := ⟨b4, 0, none⟩) (m := 0) (o := 0) Try.underlying54 rfl nz44 rfl rfl)) ?_
  refine DH_take 5 (by kernel_rfl) rfl rfl (.no rfl) pk sH rfl (VR_load_blk (b := b4) (m := 0) (k := 3) Try.underlying44 rfl rfl rfl rfl) ?_
  obtain ⟨r1511, C1512, H⟩ := g_bind H
  refine DH_one 6 dd (by kernel_rfl) rfl (.no rfl) (OA_callA [0] [0, 1, 2, 3] rfl (X_fn (vs := [.slice A0_0 p0.f0.length c0_0, .int .u64 a1.f0]) Try.func61 nm61 rfl rfl) rfl (F61.ok (l0 := p0.f0) (A0 := A0_0) (c0 := c0_0) (a1 := a1.f0) C1512) rfl ?_)
  rintro _ _ ⟨rfl, rfl⟩
  refine DH_take (v := .int .i64 r1511) 7 (by kernel_rfl) rfl rfl (.no rfl) pk sH rfl (VR.ofV (V_assign rfl)) ?_
  refine DH_open dd sH ?_
  refine DN_done (by kernel_rfl) ?_
  refine at_normal ?_
  refine SA_seq ?_
  refine SA_seq ?_
  refine SA_region ?_
  refine RA_step rfl (OA_v (v := .int .i64 r1511) rfl (V_move rfl) ?_)
  refine RA_step rfl (OA_v (v := .bool (decide (r1511 < 0))) rfl (V_lss rfl rfl) ?_)
  refine RA_step rfl (OA_v (v := .bool (decide (r1511 < 0))) rfl (V_move rfl) ?_)
  obtain ⟨q1632, hq1632, H⟩ := g_lt H
  refine RA_cut 6 (fun e ds As => St [(0, .pointer (some ⟨b0_, 0, none⟩)), (3, .pointer (some ⟨b4, 0, none⟩)), (6, .int .i64 r1511), (47, .bool q1632)] [Blk b0_ 162 [.slice A0_0 p0.f0.length c0_0], Ro k128 A0_0 c0_0 p0.f0, Blk b4 54 [.int .u64 a1.f0, .int .u64 a1.f1, .int .u64 a1.f2, .int .u64 a1.f3, .slice A1_0 a1.f4.length c1_0], Ro (Kd.int .u8) A1_0 c1_0 a1.f4] e ds As) ?_ ?_
  · by_cases h1633 : r1511 < 0
    · refine RA_noB rfl rfl rfl rfl (dec_t h1633) rfl ?_
      refine RA_noB rfl rfl rfl rfl (dec_t h1633) rfl ?_
      refine RA_noB rfl rfl rfl rfl (dec_t h1633) rfl ?_
      refine RA_noB rfl rfl rfl rfl (dec_t h1633) rfl ?_
      refine RA_noB rfl rfl rfl rfl (dec_t h1633) rfl ?_
      refine RA_step rfl (OA_v rfl (V_pickT rfl (dec_t h1633) rfl) ?_)
      refine RA_nil ?_
      exact at_normal (St.mk1 (aeq rfl (aeq rfl (aeq rfl (aeq (congrArg Value.bool (or_t hq1632 (dec_t h1633))) aeq0)))) (Gh.sel [0, 1, 3, 2] rfl rfl))
    refine RA_yesB rfl rfl rfl rfl (dec_f h1633) (OA_v (v := .pointer (some ((⟨b4, 0, none⟩ : Addr).add 1))) rfl (V_fieldAddrN (B := ⟨b4, 0, none⟩) (m := 0) (o := 1) Try.underlying54 rfl nz44 rfl rfl) ?_)
    refine RA_yesB rfl rfl rfl rfl (dec_f h1633) (OA_r rfl (VR_load_blk (b := b4) (m := 1) (k := 3) Try.underlying44 rfl rfl rfl rfl) ?_)
    refine RA_yesB rfl rfl rfl rfl (dec_f h1633) (OA_v (v := .pointer (some ⟨b4, 0, none⟩)) rfl (V_fieldAddrN (B := ⟨b4, 0, none⟩) (m := 0) (o := 0) Try.underlying54 rfl nz44 rfl rfl) ?_)
    refine RA_yesB rfl rfl rfl rfl (dec_f h1633) (OA_r rfl (VR_load_blk (b := b4) (m := 0) (k := 3) Try.underlying44 rfl rfl rfl rfl) ?_)
    refine RA_yesB rfl rfl rfl rfl (dec_f h1633) (OA_v (v := .bool (decide (a1.f1 < a1.f0))) rfl (V_lss rfl rfl) ?_)
    refine RA_step rfl (OA_v rfl (V_pickF rfl (dec_f h1633) rfl) ?_)
    refine RA_nil ?_
    exact at_normal (St.mk1 (aeq rfl (aeq rfl (aeq rfl (aeq (congrArg Value.bool (or_f hq1632 (dec_f h1633))) aeq0)))) (Gh.sel [0, 1, 3, 2] rfl rfl))
  rintro e ds As hst1634
  refine RA_nil ?_
  refine at_normal ?_
  refine SA.of_St hst1634 fun junk => ?_
  by_cases h1635 : q1632 = true
  · replace H := g_ift h1635 H
    refine SA_condTb rfl h1635 ?_
    refine SA_seq ?_
    refine SA_region ?_
    refine RA_step rfl (OA_v (v := .bool false) rfl (V_assign rfl) ?_)
    refine RA_step rfl (OA_v (v := .int .i64 230) rfl (V_assign rfl) ?_)
    refine RA_nil ?_
    refine at_normal ?_
    refine SA_ret ?_
    refine thn_ret ?_
    have hr_ := Option.some.inj H
    subst hr_
    exact BQ_R2 [Blk b0_ 162 [.slice A0_0 p0.f0.length c0_0], Ro k128 A0_0 c0_0 p0.f0] rfl rfl rfl (Gh.sel [0, 1] rfl rfl) ⟨A0_0, c0_0, rfl, rfl⟩
  replace H := g_iff h1635 H
  refine SA_condFb rfl h1635 ?_
  refine SA_skip ?_
  refine at_normal ?_
  refine SA_seq ?_
  refine SA_seq ?_
  refine SA_drawHq [0, 1, 2, 3, 4, 5, 7, 8] #[[], [0], [0, 1], [0, 1, 2], [], [4], [0, 1, 2, 3, 4, 5], [0, 1, 2, 3, 4, 5], [0, 1, 2, 3, 4, 5, 7]] [0, 1, 2, 3] [1, 3] mixed rfl rfl rfl (PanOk.thn (PanOk.thn PanOk.body)) fun I0 hS h0 hh0 w0 sH dd pk => ?_
  refine DH_take (v := .pointer (some ⟨b0_, 0, none⟩)) 0 (by kernel_rfl) rfl rfl (.no rfl) pk sH rfl (VR.ofV (V_move rfl)) ?_
  refine DH_take (v := .pointer (some ⟨b0_, 0, none⟩)) 1 (by kernel_rfl) rfl rfl (.no rfl) pk sH rfl (VR.ofV (V_nilCheck rfl)) ?_
  refine DH_take (v := .pointer (some ⟨b0_, 0, none⟩)) 2 (by kernel_rfl) rfl rfl (.no rfl) pk sH rfl (VR.ofV (V_fieldAddrN (B := ⟨b0_, 0, none⟩) (m := 0) (o := 0) Try.underlying162 rfl nz129 rfl rfl)) ?_
  refine DH_take 3 (by kernel_rfl) rfl rfl (.no rfl) pk sH rfl (VR_load_blk (b := b0_) (m := 0) (k := 0) Try.underlying129 rfl rfl rfl rfl) ?_
  refine DH_take (v := .pointer (some ((⟨b4, 0, none⟩ : Addr).add 3))) 4 (by kernel_rfl) rfl rfl (.no rfl) pk sH rfl (VR.ofV (V_fieldAddrN (B := ⟨b4, 0, none⟩) (m := 0) (o := 3) Try.underlying54 rfl nz44 rfl rfl)) ?_
  refine DH_take 5 (by kernel_rfl) rfl rfl (.no rfl) pk sH rfl (VR_load_blk (b := b4) (m := 3) (k := 2) Try.underlying44 rfl rfl rfl rfl) ?_
  obtain ⟨r1996, C2000, H⟩ := g_bind H
  refine DH_one 6 dd (by kernel_rfl) rfl (.no rfl) (OA_callA [0] [0, 1] rfl (X_fn (vs := [.slice A0_0 p0.f0.length c0_0, .int .u64 a1.f3]) Try.func93 nm93 rfl rfl) rfl (F93.ok (l0 := p0.f0) (A0 := A0_0) (c0 := c0_0) (a1 := a1.f3) C2000) rfl ?_)
  rintro _ _ ⟨A1997, c1998, rfl, rfl⟩
  refine DH_take (v := .int .i64 (r1996.length : Int)) 7 (by kernel_rfl) rfl rfl (.no rfl) pk sH rfl (VR.ofV (V_len Try.underlying129 rfl)) ?_
  refine DH_take (v := .bool (decide ((r1996.length : Int) ≥ 32))) 8 (by kernel_rfl) rfl rfl (.no rfl) pk sH rfl (VR.ofV (V_geq rfl rfl)) ?_
  refine DH_open dd sH ?_
  refine DN_done (by kernel_rfl) ?_
  refine at_normal ?_
  by_cases h2177 : (r1996.length : Int) ≥ 32
  · replace H := g_ift h2177 H
    refine SA_condT rfl h2177 ?_
    refine SA_seq ?_
    refine SA_region ?_
    refine RA_step rfl (OA_v (v := .bool false) rfl (V_assign rfl) ?_)
    refine RA_step rfl (OA_v (v := .int .i64 231) rfl (V_assign rfl) ?_)
    refine RA_nil ?_
    refine at_normal ?_
    refine SA_ret ?_
    refine thn_ret ?_
    have hr_ := Option.some.inj H
    subst hr_
    exact BQ_R2 [Blk b0_ 162 [.slice A0_0 p0.f0.length c0_0], Ro k128 A0_0 c0_0 p0.f0] rfl rfl rfl (Gh.sel [0, 1] rfl rfl) ⟨A0_0, c0_0, rfl, rfl⟩
  replace H := g_iff h2177 H
  refine SA_condF rfl h2177 ?_
  refine SA_skip ?_
  refine at_normal ?_
  refine SA_seq ?_
  obtain ⟨t2178, H, Bt2178⟩ := g_bind H
  refine SA_mid (fun e ds As => ∃ (b2179 : Nat), St [(0, .pointer (some ⟨b0_, 0, none⟩)), (3, .pointer (some ⟨b4, 0, none⟩)), (5, .int .i64 t2178.1), (7, .pointer (some ⟨b2179, 0, none⟩))] [Blk b2179 41 [.string t2178.2.f0], Blk b0_ 162 [.slice A0_0 p0.f0.length c0_0], Ro k128 A0_0 c0_0 p0.f0, Blk b4 54 [.int .u64 a1.f0, .int .u64 a1.f1, .int .u64 a1.f2, .int .u64 a1.f3, .slice A1_0 a1.f4.length c1_0], Ro (Kd.int .u8) A1_0 c1_0 a1.f4] e ds As) ?_ ?_
  · refine SA_drawHq (0 :: 1 :: 2 :: 3 :: 4 :: 5 :: 6 :: 7 :: 8 :: 9 :: 10 :: 13 :: 14 :: 15 :: 18 :: []) (List.toArray ([] :: [0] :: [0, 1] :: [0, 1, 2] :: [] :: [0, 1, 2, 3, 4] :: [0, 1, 2, 3, 4, 5] :: [0, 1, 2, 3, 4, 5, 6] :: [0, 1, 2, 3, 4, 5, 6, 7] :: [] :: [9] :: [9, 10] :: [0, 1, 2, 3, 4, 5, 6, 7, 8, 9, 10] :: [0, 1, 2, 3, 4, 5, 6, 7, 8, 9, 10] :: [0, 1, 2, 3, 4, 5, 6, 7, 8, 9, 10, 13] :: [0, 1, 2, 3, 4, 5, 6, 7, 8, 9, 10, 13] :: [] :: (0 :: 1 :: 2 :: 3 :: 4 :: 5 :: 6 :: 7 :: 8 :: 9 :: 10 :: 13 :: 14 :: []) :: (0 :: 1 :: 2 :: 3 :: 4 :: 5 :: 6 :: 7 :: 8 :: 9 :: 10 :: 13 :: 14 :: 15 :: []) :: [])) [0, 1, 2, 3, 1, 3] [1, 3, 4, 1, 3] mixed rfl rfl rfl (PanOk.thn (PanOk.thn PanOk.body)) fun I0 hS h0 hh0 w0 sH dd pk => ?_
    refine DH_take (v := .pointer (some ⟨b0_, 0, none⟩)) 0 (by kernel_rfl) rfl rfl (.no rfl) pk sH rfl (VR.ofV (V_move rfl)) ?_
    refine DH_take (v := .pointer (some ⟨b0_, 0, none⟩)) 1 (by kernel_rfl) rfl rfl (.no rfl) pk sH rfl (VR.ofV (V_nilCheck rfl)) ?_
    refine DH_take (v := .pointer (some ⟨b0_, 0, none⟩)) 2 (by kernel_rfl) rfl rfl (.no rfl) pk sH rfl (VR.ofV (V_fieldAddrN (B := ⟨b0_, 0, none⟩) (m := 0) (o := 0) Try.underlying162 rfl nz129 rfl rfl)) ?_
    refine DH_take 3 (by kernel_rfl) rfl rfl (.no rfl) pk sH rfl (VR_load_blk (b := b0_) (m := 0) (k := 0) Try.underlying129 rfl rfl rfl rfl) ?_
    refine DH_take (v := .int .i64 r1511) 4 (by kernel_rfl) rfl rfl (.no rfl) pk sH rfl (VR.ofV (V_move rfl)) ?_
    obtain ⟨⟨g2481, g2482⟩, H⟩ := g_pos H
    refine DH_take 5 (by kernel_rfl) rfl rfl (.no rfl) pk sH rfl (VR_index (i := r1511) Try.underlying129 sz128 rfl rfl (Src.ro (k := 1) rfl) g2481 g2482) ?_
    refine DH_take (v := .pointer (some ((el A0_0 (r1511.toNat * 3)).add 1))) 6 (by kernel_rfl) rfl rfl (.no rfl) pk sH rfl (VR.ofV (V_fieldAddrN (B := el A0_0 (r1511.toNat * 3)) (m := 0) (o := 1) Try.underlying128 rfl nz41 rfl rfl)) ?_
    refine DH_take 7 (by kernel_rfl) rfl rfl (.no rfl) pk sH rfl (VR_loadA_el (enc := enc128) (i := r1511) (j := r1511.toNat * 3) (m := 1) (sz := 3) (vs := [.string (((rd p0.f0 r1511).f1).f0)]) Try.underlying41 rfl sz41 rfl rfl rfl (Src.ro (k := 1) rfl) g2481 g2482 (fun _ _ h => h) rfl) ?_
    refine DH_take (v := .iface 41 (.agg #[.string (((rd p0.f0 r1511).f1).f0)])) 8 (by kernel_rfl) rfl rfl (.no rfl) pk sH rfl (VR.ofV (V_iface con41 rfl)) ?_
    refine DH_take (v := .pointer (some ((⟨b4, 0, none⟩ : Addr).add 4))) 9 (by kernel_rfl) rfl rfl (.no rfl) pk sH rfl (VR.ofV (V_fieldAddrN (B := ⟨b4, 0, none⟩) (m := 0) (o := 4) Try.underlying54 rfl nz23 rfl rfl)) ?_
    refine DH_take 10 (by kernel_rfl) rfl rfl (.no rfl) pk sH rfl (VR_load_blk (b := b4) (m := 4) (k := 2) Try.underlying23 rfl rfl rfl rfl) ?_
    obtain ⟨r2841, C2845, H⟩ := g_bind H
    obtain ⟨r2901, C2902, H⟩ := g_bind H
    refine DH_many (rs := [11, 16]) dd (by kernel_rfl) (by decide) (fal_cons ⟨_, rfl, (.no rfl), ?_⟩ (fal_cons ⟨_, rfl, (.no rfl), ?_⟩ fal_nil))
    · refine id (OA_callA [1] [0, 1, 2, 3, 4] rfl (X_fn (vs := [.slice A1_0 a1.f4.length c1_0]) Try.func64 nm64 rfl rfl) rfl (F64.ok (l0 := a1.f4) (A0 := A1_0) (c0 := c1_0) C2845) rfl ?_)
      rintro _ _ ⟨A2842, c2843, rfl, rfl⟩
      refine DH_many (rs := [12, 16]) dd (by kernel_rfl) (by decide) (fal_cons ⟨_, rfl, (.no rfl), ?_⟩ (fal_cons ⟨_, rfl, (.no rfl), ?_⟩ fal_nil))
      · refine id (OA_callA [0] [1, 2, 3, 4, 5] rfl (X_inv (vs := [.slice A2842 r2841.length c2843]) rfl met41_142 Try.func142 nm142 rfl rfl) rfl (F142b1.ok (a0 := ((rd p0.f0 r1511).f1)) (l1 := r2841) (A1 := A2842) (c1 := c2843) C2902) rfl ?_)
        rintro _ _ ⟨rfl, rfl⟩
        refine DH_take (v := .tuple #[.agg #[.string r2901.1.f0], .int .i64 r2901.2]) 13 (by kernel_rfl) rfl rfl (.no rfl) pk sH rfl (VR.ofV (V_move rfl)) ?_
        refine DH_take (v := .agg #[.string r2901.1.f0]) 14 (by kernel_rfl) rfl rfl (.no rfl) pk sH rfl (VR.ofV (V_extract rfl rfl)) ?_
        refine DH_take (v := .int .i64 r2901.2) 15 (by kernel_rfl) rfl rfl (.no rfl) pk sH rfl (VR.ofV (V_extract rfl rfl)) ?_
        refine DH_one 16 dd (by kernel_rfl) rfl (.no rfl) (OA_alloc rfl zero41 fun b3141 => ?_)
        refine DH_one 17 dd (by kernel_rfl) rfl (.no rfl) (OA_st (b := b3141) (m := 0) (k := 6) (vs := [.string r2901.1.f0]) (cs' := [.string r2901.1.f0]) rfl rfl rfl rfl rfl rfl sz41 rfl rfl ?_)
        refine DH_take (v := .int .i64 r2901.2) 18 (by kernel_rfl) rfl rfl (.no rfl) pk sH rfl (VR.ofV (V_assign rfl)) ?_
        refine DH_open dd sH ?_
        refine DN_done (by kernel_rfl) ?_
        have hr_ := Option.some.inj H
        subst hr_
        exact at_normal ⟨b3141, St.mk1 (aeq rfl (aeq rfl (aeq rfl (aeq rfl aeq0)))) (Gh.sel [12, 0, 1, 2, 3] rfl rfl)⟩
      refine id (OA_alloc rfl zero41 fun b3141 => ?_)
      refine DH_one 12 dd (by kernel_rfl) rfl (.no rfl) (OA_callA [0] [1, 2, 3, 4, 5, 6] rfl (X_inv (vs := [.slice A2842 r2841.length c2843]) rfl met41_142 Try.func142 nm142 rfl rfl) rfl (F142b1.ok (a0 := ((rd p0.f0 r1511).f1)) (l1 := r2841) (A1 := A2842) (c1 := c2843) C2902) rfl ?_)
      rintro _ _ ⟨rfl, rfl⟩
      refine DH_take (v := .tuple #[.agg #[.string r2901.1.f0], .int .i64 r2901.2]) 13 (by kernel_rfl) rfl rfl (.no rfl) pk sH rfl (VR.ofV (V_move rfl)) ?_
      refine DH_take (v := .agg #[.string r2901.1.f0]) 14 (by kernel_rfl) rfl rfl (.no rfl) pk sH rfl (VR.ofV (V_extract rfl rfl)) ?_
      refine DH_take (v := .int .i64 r2901.2) 15 (by kernel_rfl) rfl rfl (.no rfl) pk sH rfl (VR.ofV (V_extract rfl rfl)) ?_
      refine DH_one 17 dd (by kernel_rfl) rfl (.no rfl) (OA_st (b := b3141) (m := 0) (k := 6) (vs := [.string r2901.1.f0]) (cs' := [.string r2901.1.f0]) rfl rfl rfl rfl rfl rfl sz41 rfl rfl ?_)
      refine DH_take (v := .int .i64 r2901.2) 18 (by kernel_rfl) rfl rfl (.no rfl) pk sH rfl (VR.ofV (V_assign rfl)) ?_
      refine DH_open dd sH ?_
      refine DN_done (by kernel_rfl) ?_
      have hr_ := Option.some.inj H
      subst hr_
      exact at_normal ⟨b3141, St.mk1 (aeq rfl (aeq rfl (aeq rfl (aeq rfl aeq0)))) (Gh.sel [12, 0, 1, 2, 3] rfl rfl)⟩
    refine id (OA_alloc rfl zero41 fun b3141 => ?_)
    refine DH_one 11 dd (by kernel_rfl) rfl (.no rfl) (OA_callA [1] [0, 1, 2, 3, 4, 5] rfl (X_fn (vs := [.slice A1_0 a1.f4.length c1_0]) Try.func64 nm64 rfl rfl) rfl (F64.ok (l0 := a1.f4) (A0 := A1_0) (c0 := c1_0) C2845) rfl ?_)
    rintro _ _ ⟨A2842, c2843, rfl, rfl⟩
    refine DH_one 12 dd (by kernel_rfl) rfl (.no rfl) (OA_callA [0] [1, 2, 3, 4, 5, 6] rfl (X_inv (vs := [.slice A2842 r2841.length c2843]) rfl met41_142 Try.func142 nm142 rfl rfl) rfl (F142b1.ok (a0 := ((rd p0.f0 r1511).f1)) (l1 := r2841) (A1 := A2842) (c1 := c2843) C2902) rfl ?_)
    rintro _ _ ⟨rfl, rfl⟩
    refine DH_take (v := .tuple #[.agg #[.string r2901.1.f0], .int .i64 r2901.2]) 13 (by kernel_rfl) rfl rfl (.no rfl) pk sH rfl (VR.ofV (V_move rfl)) ?_
    refine DH_take (v := .agg #[.string r2901.1.f0]) 14 (by kernel_rfl) rfl rfl (.no rfl) pk sH rfl (VR.ofV (V_extract rfl rfl)) ?_
    refine DH_take (v := .int .i64 r2901.2) 15 (by kernel_rfl) rfl rfl (.no rfl) pk sH rfl (VR.ofV (V_extract rfl rfl)) ?_
    refine DH_one 17 dd (by kernel_rfl) rfl (.no rfl) (OA_st (b := b3141) (m := 0) (k := 6) (vs := [.string r2901.1.f0]) (cs' := [.string r2901.1.f0]) rfl rfl rfl rfl rfl rfl sz41 rfl rfl ?_)
    refine DH_take (v := .int .i64 r2901.2) 18 (by kernel_rfl) rfl rfl (.no rfl) pk sH rfl (VR.ofV (V_assign rfl)) ?_
    refine DH_open dd sH ?_
    refine DN_done (by kernel_rfl) ?_
    have hr_ := Option.some.inj H
    subst hr_
    exact at_normal ⟨b3141, St.mk1 (aeq rfl (aeq rfl (aeq rfl (aeq rfl aeq0)))) (Gh.sel [12, 0, 1, 2, 3] rfl rfl)⟩
  rintro e ds As ⟨b2179, hst3322⟩
  clear H
  have H := Bt2178
  clear Bt2178
  refine at_normal ?_
  refine SA.of_St hst3322 fun junk => ?_
  refine SA_seq ?_
  refine SA_seq ?_
  refine SA_region ?_
  refine RA_step rfl (OA_v (v := .int .i64 t2178.1) rfl (V_move rfl) ?_)
  refine RA_step rfl (OA_v (v := .bool (decide (t2178.1 ≠ 0))) rfl (V_neq rfl rfl) ?_)
  refine RA_nil ?_
  refine at_normal ?_
  by_cases h3323 : t2178.1 ≠ 0
  · replace H := g_ift h3323 H
    refine SA_condT rfl h3323 ?_
    refine SA_seq ?_
    refine SA_region ?_
    refine RA_step rfl (OA_v (v := .int .i64 t2178.1) rfl (V_move rfl) ?_)
    refine RA_step rfl (OA_v (v := .bool false) rfl (V_assign rfl) ?_)
    refine RA_step rfl (OA_v (v := .int .i64 t2178.1) rfl (V_assign rfl) ?_)
    refine RA_nil ?_
    refine at_normal ?_
    refine SA_ret ?_
    refine thn_ret ?_
    have hr_ := Option.some.inj H
    subst hr_
    exact BQ_R2 [Blk b0_ 162 [.slice A0_0 p0.f0.length c0_0], Ro k128 A0_0 c0_0 p0.f0] rfl rfl rfl (Gh.sel [1, 2] rfl rfl) ⟨A0_0, c0_0, rfl, rfl⟩
  replace H := g_iff h3323 H
  refine SA_condF rfl h3323 ?_
  refine SA_skip ?_
  refine at_normal ?_
  refine SA_seq ?_
  refine SA_drawHq [0, 1, 2, 3, 4, 5, 7, 8, 9, 10, 11] #[[], [0], [0, 1], [0, 1, 2], [], [4], [0, 1, 2, 3, 4, 5], [0, 1, 2, 3, 4, 5], [0, 1, 2, 3, 4, 5, 7], [0, 1, 2, 3, 4, 5, 7], [0, 1, 2, 3, 4, 5, 7, 8], [0, 1, 2, 3, 4, 5, 7, 8, 9, 10]] [1, 2, 3, 4] [0, 2, 4] mixed rfl rfl rfl (PanOk.thn PanOk.body) fun I0 hS h0 hh0 w0 sH dd pk => ?_
  refine DH_take (v := .pointer (some ⟨b0_, 0, none⟩)) 0 (by kernel_rfl) rfl rfl (.no rfl) pk sH rfl (VR.ofV (V_move rfl)) ?_
  refine DH_take (v := .pointer (some ⟨b0_, 0, none⟩)) 1 (by kernel_rfl) rfl rfl (.no rfl) pk sH rfl (VR.ofV (V_nilCheck rfl)) ?_
  refine DH_take (v := .pointer (some ⟨b0_, 0, none⟩)) 2 (by kernel_rfl) rfl rfl (.no rfl) pk sH rfl (VR.ofV (V_fieldAddrN (B := ⟨b0_, 0, none⟩) (m := 0) (o := 0) Try.underlying162 rfl nz129 rfl rfl)) ?_
  refine DH_take 3 (by kernel_rfl) rfl rfl (.no rfl) pk sH rfl (VR_load_blk (b := b0_) (m := 0) (k := 0) Try.underlying129 rfl rfl rfl rfl) ?_
  refine DH_take (v := .pointer (some ((⟨b4, 0, none⟩ : Addr).add 1))) 4 (by kernel_rfl) rfl rfl (.no rfl) pk sH rfl (VR.ofV (V_fieldAddrN (B := ⟨b4, 0, none⟩) (m := 0) (o := 1) Try.underlying54 rfl nz44 rfl rfl)) ?_
  refine DH_take 5 (by kernel_rfl) rfl rfl (.no rfl) pk sH rfl (VR_load_blk (b := b4) (m := 1) (k := 2) Try.underlying44 rfl rfl rfl rfl) ?_
  obtain ⟨r3684, C3685, H⟩ := g_bind H
  refine DH_one 6 dd (by kernel_rfl) rfl (.no rfl) (OA_callA [1] [0, 1, 2] rfl (X_fn (vs := [.slice A0_0 p0.f0.length c0_0, .int .u64 a1.f1, .func (.func 95) #[] #[]]) Try.func94 nm94 rfl rfl) rfl (SCA.unpk (pre0 := [Ro k128 A0_0 c0_0 p0.f0]) (Bs := []) ((F94.ok (l0 := p0.f0) (A0 := A0_0) (c0 := c0_0) (a1 := a1.f1) (g2 := (fun (x0_ : S128) (x1_ : Int) => F95.f x0_ x1_)) (fv2 := .func (.func 95) #[] #[]) (Fr2 := Pk []) (hg2 := (fun {x0_} {x1_} {r_} C_ => FC.of (pre0 := []) (Bs := []) (cap := []) Try.func95 nm95 rfl ((F95.ok (a0 := x0_) (a1 := x1_) C_).mono (fun _ _ ⟨hv_, hB_⟩ => ⟨_, ⟨hv_, rfl⟩, hB_⟩)))) C3685).mono (fun (v_ : Value) (B_ : List Asrt) ⟨hv_, hB_⟩ => (⟨[], ⟨hv_, rfl⟩, hB_⟩ : ∃ B0_ : List Asrt, (v_ = (.tuple #[.int .i64 r3684.1, .bool r3684.2] : Value) ∧ B0_ = []) ∧ B_ = B0_ ++ [Pk []])))) rfl ?_)
  rintro _ _ ⟨_, ⟨rfl, rfl⟩, rfl⟩
  refine DH_take (v := .tuple #[.int .i64 r3684.1, .bool r3684.2]) 7 (by kernel_rfl) rfl rfl (.no rfl) pk sH rfl (VR.ofV (V_move rfl)) ?_
  refine DH_take (v := .int .i64 r3684.1) 8 (by kernel_rfl) rfl rfl (.no rfl) pk sH rfl (VR.ofV (V_extract rfl rfl)) ?_
  refine DH_take (v := .bool r3684.2) 9 (by kernel_rfl) rfl rfl (.no rfl) pk sH rfl (VR.ofV (V_extract rfl rfl)) ?_
  refine DH_take (v := .int .i64 r3684.1) 10 (by kernel_rfl) rfl rfl (.no rfl) pk sH rfl (VR.ofV (V_assign rfl)) ?_
  refine DH_take (v := .bool r3684.2) 11 (by kernel_rfl) rfl rfl (.no rfl) pk sH rfl (VR.ofV (V_assign rfl)) ?_
  refine DH_open dd sH ?_
  refine DN_done (by kernel_rfl) ?_
  refine at_normal ?_
  refine SA_seq ?_
  refine SA_region ?_
  refine RA_step rfl (OA_v (v := .int .i64 r3684.1) rfl (V_move rfl) ?_)
  refine RA_step rfl (OA_v (v := .pointer (some ⟨b0_, 0, none⟩)) rfl (V_move rfl) ?_)
  refine RA_step rfl (OA_v (v := .pointer (some ⟨b0_, 0, none⟩)) rfl (V_nilCheck rfl) ?_)
  refine RA_step rfl (OA_v (v := .pointer (some ⟨b0_, 0, none⟩)) rfl (V_fieldAddrN (B := ⟨b0_, 0, none⟩) (m := 0) (o := 0) Try.underlying162 rfl nz129 rfl rfl) ?_)
  refine RA_step rfl (OA_r rfl (VR_load_blk (b := b0_) (m := 0) (k := 0) Try.underlying129 rfl rfl rfl rfl) ?_)
  refine RA_step rfl (OA_v (v := .int .i64 (p0.f0.length : Int)) rfl (V_len Try.underlying129 rfl) ?_)
  refine RA_step rfl (OA_v (v := .bool (decide (r3684.1 = (p0.f0.length : Int)))) rfl (V_eql rfl rfl) ?_)
  refine RA_step rfl (OA_v (v := .bool (decide (r3684.1 = (p0.f0.length : Int)))) rfl (V_assign rfl) ?_)
  refine RA_nil ?_
  refine at_normal ?_
  refine SA_seq ?_
  refine SA_drawHq [0, 1, 2, 3, 5, 6, 7, 8, 9, 11, 14] (List.toArray ([] :: [0] :: [0, 1] :: [0, 1, 2] :: [0, 1, 2, 3] :: [] :: [] :: [6] :: [] :: [8] :: [0, 1, 2, 3, 8, 9] :: [0, 1, 2, 3, 6, 7, 8, 9] :: [0, 1, 2, 3, 6, 7, 8, 9, 11] :: [0, 1, 2, 3, 5, 6, 7, 8, 9, 11] :: [0, 1, 2, 3, 5, 6, 7, 8, 9, 11] :: [])) [0, 1, 2, 3, 4, 1, 3] [1, 3, 1, 3] mixed rfl rfl rfl (PanOk.thn PanOk.body) fun I0 hS h0 hh0 w0 sH dd pk => ?_
  refine DH_take (v := .pointer (some ⟨b0_, 0, none⟩)) 0 (by kernel_rfl) rfl rfl (.no rfl) pk sH rfl (VR.ofV (V_move rfl)) ?_
  refine DH_take (v := .pointer (some ⟨b0_, 0, none⟩)) 1 (by kernel_rfl) rfl rfl (.no rfl) pk sH rfl (VR.ofV (V_nilCheck rfl)) ?_
  refine DH_take (v := .pointer (some ⟨b0_, 0, none⟩)) 2 (by kernel_rfl) rfl rfl (.no rfl) pk sH rfl (VR.ofV (V_fieldAddrN (B := ⟨b0_, 0, none⟩) (m := 0) (o := 0) Try.underlying162 rfl nz129 rfl rfl)) ?_
  refine DH_take 3 (by kernel_rfl) rfl rfl (.no rfl) pk sH rfl (VR_load_blk (b := b0_) (m := 0) (k := 0) Try.underlying129 rfl rfl rfl rfl) ?_
  refine DH_take (v := .int .i64 r3684.1) 5 (by kernel_rfl) rfl rfl (.no rfl) pk sH rfl (VR.ofV (V_move rfl)) ?_
  refine DH_take (v := .pointer (some ((⟨b4, 0, none⟩ : Addr).add 1))) 6 (by kernel_rfl) rfl rfl (.no rfl) pk sH rfl (VR.ofV (V_fieldAddrN (B := ⟨b4, 0, none⟩) (m := 0) (o := 1) Try.underlying54 rfl nz44 rfl rfl)) ?_
  refine DH_take 7 (by kernel_rfl) rfl rfl (.no rfl) pk sH rfl (VR_load_blk (b := b4) (m := 1) (k := 2) Try.underlying44 rfl rfl rfl rfl) ?_
  refine DH_take 8 (by kernel_rfl) rfl rfl (.no rfl) pk sH rfl (VR_loadA_blk (b := b2179) (m := 0) (k := 4) (vs := [.string t2178.2.f0]) Try.underlying41 rfl sz41 rfl rfl rfl) ?_
  refine DH_take (v := .iface 41 (.agg #[.string t2178.2.f0])) 9 (by kernel_rfl) rfl rfl (.no rfl) pk sH rfl (VR.ofV (V_iface con41 rfl)) ?_
  obtain ⟨r4285, C4289, H⟩ := g_bind H
  refine DH_one 4 dd (by kernel_rfl) rfl (.no rfl) (OA_callA [0] [0, 1, 2, 3] rfl (X_fn (vs := [.slice A0_0 p0.f0.length c0_0]) Try.func62 nm62 rfl rfl) rfl (F62.ok (l0 := p0.f0) (A0 := A0_0) (c0 := c0_0) C4289) rfl ?_)
  rintro _ _ ⟨A4286, c4287, rfl, rfl⟩
  obtain ⟨r4645, C4646, H⟩ := g_bind H
  refine DH_one 10 dd (by kernel_rfl) rfl (.no rfl) (OA_callA [] [0, 1, 2, 3, 4] rfl (X_inv (vs := []) rfl met41_143 Try.func143 nm143 rfl rfl) rfl (F143.ok (a0 := t2178.2) C4646) rfl ?_)
  rintro _ _ ⟨rfl, rfl⟩
  refine DH_take (v := .agg #[.int .u64 a1.f1, .string r4645.f0, .int .u64 0]) 11 (by kernel_rfl) rfl rfl (.no rfl) pk sH rfl (VR.ofV (V_build (cells := [.int .u64 a1.f1, .string r4645.f0, .int .u64 0]) zero128 Try.underlying128 plc128 (by kernel_rfl))) ?_
  refine DH_one 12 dd (by kernel_rfl) rfl (.no rfl) (OA_bs (kd := k128) (zv := (.agg #[.int .u64 0, .string ByteArray.empty, .int .u64 0])) (sz := 3) (cells := [.int .u64 a1.f1, .string r4645.f0, .int .u64 0]) (xs := ([(S128.mk a1.f1 r4645 0)] : (List S128))) rfl Try.underlying129 zero128 sz128 rfl rfl rfl (by kernel_rfl) rfl rfl (RL_enc enc128 (fun _ _ => rfl) (by kernel_rfl)) fun b4765 => ?_)
  obtain ⟨r4825, C4829, H⟩ := g_bind H
  refine DH_one 13 dd (by kernel_rfl) rfl (.no rfl) (OA_callA [0, 5] [1, 2, 3, 4] rfl (X_fn (vs := [.slice A4286 r4285.length c4287, .int .i64 r3684.1, .slice (some ⟨b4765, 0, none⟩) ([(S128.mk a1.f1 r4645 0)] : (List S128)).length 1]) Try.func96 nm96 rfl rfl) rfl (F96m0b2.ok (l0 := r4285) (A0 := A4286) (c0 := c4287) (a1 := r3684.1) (l2 := ([(S128.mk a1.f1 r4645 0)] : (List S128))) (A2 := some ⟨b4765, 0, none⟩) (c2 := 1) C4829) rfl ?_)
  rintro _ _ ⟨A4826, c4827, rfl, rfl⟩
  refine DH_take (v := .slice A4826 r4825.length c4827) 14 (by kernel_rfl) rfl rfl (.no rfl) pk sH rfl (VR.ofV (V_assign rfl)) ?_
  refine DH_open dd sH ?_
  refine DN_done (by kernel_rfl) ?_
  refine at_normal ?_
  refine SA.of_St (l := [(0, .pointer (some ⟨b0_, 0, none⟩)), (3, .pointer (some ⟨b4, 0, none⟩)), (4, .bool (decide (r3684.1 = (p0.f0.length : Int)))), (10, .slice A4826 r4825.length c4827)]) (B := [Blk b0_ 162 [.slice A0_0 p0.f0.length c0_0], Ro k128 A0_0 c0_0 p0.f0, Blk b4 54 [.int .u64 a1.f0, .int .u64 a1.f1, .int .u64 a1.f2, .int .u64 a1.f3, .slice A1_0 a1.f4.length c1_0], Ro (Kd.int .u8) A1_0 c1_0 a1.f4, Buf k128 128 A4826 c4827 r4825]) (St.mk1 (aeq rfl (aeq rfl (aeq rfl (aeq rfl aeq0)))) (Gh.sel [0, 1, 2, 3, 7] (by kernel_rfl) (by kernel_rfl))) fun junk => ?_
  refine SA_seq ?_
  refine SA_region ?_
  refine RA_step rfl (OA_v (v := .pointer (some ⟨b0_, 0, none⟩)) rfl (V_move rfl) ?_)
  refine RA_step rfl (OA_v (v := .slice A4826 r4825.length c4827) rfl (V_move rfl) ?_)
  refine RA_step rfl (OA_v (v := .pointer (some ((⟨b4, 0, none⟩ : Addr).add 3))) rfl (V_fieldAddrN (B := ⟨b4, 0, none⟩) (m := 0) (o := 3) Try.underlying54 rfl nz44 rfl rfl) ?_)
  refine RA_step rfl (OA_r rfl (VR_load_blk (b := b4) (m := 3) (k := 2) Try.underlying44 rfl rfl rfl rfl) ?_)
  obtain ⟨r4946, C4950, H⟩ := g_bind H
  refine RA_step rfl (OA.ghost (Gh.freeze (k := 4) rfl) (OA_callA [4] [0, 1, 2, 3, 4] rfl (X_fn (vs := [.slice A4826 r4825.length c4827, .int .u64 a1.f3]) Try.func93 nm93 rfl rfl) rfl (F93.ok (l0 := r4825) (A0 := A4826) (c0 := c4827) (a1 := a1.f3) C4950) rfl ?_))
  rintro _ _ ⟨A4947, c4948, rfl, rfl⟩
  refine RA_step rfl (OA_v (v := .pointer (some ⟨b0_, 0, none⟩)) rfl (V_nilCheck rfl) ?_)
  refine RA_step rfl (OA_v (v := .pointer (some ⟨b0_, 0, none⟩)) rfl (V_fieldAddrN (B := ⟨b0_, 0, none⟩) (m := 0) (o := 0) Try.underlying162 rfl nz129 rfl rfl) ?_)
  refine RA_step rfl (OA_st (b := b0_) (m := 0) (k := 1) (vs := [.slice A4947 r4946.length c4948]) (cs' := [.slice A4947 r4946.length c4948]) rfl rfl rfl rfl rfl rfl sz129 rfl rfl ?_)
  refine RA_nil ?_
  refine at_normal ?_
  refine SA_seq ?_
  refine SA_region ?_
  refine RA_step rfl (OA_v (v := .bool (decide (r3684.1 = (p0.f0.length : Int)))) rfl (V_move rfl) ?_)
  refine RA_step rfl (OA_v (v := .bool (decide (r3684.1 = (p0.f0.length : Int)))) rfl (V_assign rfl) ?_)
  refine RA_step rfl (OA_v (v := .int .i64 0) rfl (V_assign rfl) ?_)
  refine RA_nil ?_
  refine at_normal ?_
  refine SA_ret ?_
  have hr_ := Option.some.inj H
  subst hr_
  exact BQ_R2 [Blk b0_ 162 [.slice A4947 r4946.length c4948], Ro k128 A4947 c4948 r4946] rfl rfl rfl ((Gh.freeze (k := 0) rfl).trans (Gh.sel [1, 0] rfl rfl)) ⟨A4947, c4948, rfl, rfl⟩
end Go.Proofs.Ytodkeoibebimgaa.Sq

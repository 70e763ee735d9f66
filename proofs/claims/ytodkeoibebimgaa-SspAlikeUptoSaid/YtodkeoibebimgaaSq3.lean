/- What functions compute, and that they do: 16b0b1, 26b0. -/
import Derived.Test.YtodkeoibebimgaaSq0
import Derived.Test.YtodkeoibebimgaaSq2
namespace Go.Proofs.Ytodkeoibebimgaa.Sq
open Go Go.RowKit Go.Proofs.Ytodkeoibebimgaa.SL
set_option linter.unusedVariables false
set_option linter.unusedSimpArgs false
attribute [local irreducible] IntKind.wrap minI maxI shrI shlI andI orI xorI andNotI cplI rd sub bytesOf strOf slA
/-! ### function 26: (*wayfarer/wayfarerref23.Sender).Tick -/
def F26b0.f (p0 : S49) (a1 : Int) (a2 : Int) (a3 : Int) : Option (S54 × Bool × Int × S49) := lt ((decide (a2 < 0)) || (decide (a3 < 0))) fun q5 => lt (q5 || (decide (a1 < p0.f4))) fun q8 => if q8 = true then (some (((S54.mk 0 0 0 0 ([] : (List Int))), false, 2, p0))) else (if 0 ≤ (IntKind.i64.wrap ((p0.f1.length : Int) - 1)) ∧ (IntKind.i64.wrap ((p0.f1.length : Int) - 1)) < (p0.f1.length : Int) then ((if ((rd p0.f1 (IntKind.i64.wrap ((p0.f1.length : Int) - 1))).f1) ≠ p0.f0 then (if (p0.f1.length : Int) < 32 then (if (!p0.f2) = true then (some true) else ((F65.f a1 p0.f3 a2).bind (fun r2535 => some r2535))) else (some false)) else (some false) : Option (Bool)).bind (fun t854 => (if (p0.f1.length : Int) > 1 then ((F65.f a1 ((rd p0.f1 (IntKind.i64.wrap ((p0.f1.length : Int) - 1))).f2) a3).bind (fun r2782 => some r2782)) else (some false) : Option Bool).bind (fun q2780 => (if (!p0.f2) = true then (some true) else ((F65.f a1 p0.f3 3000).bind (fun r2787 => some r2787)) : Option Bool).bind (fun q2785 => lt ((!t854) && (!q2780)) fun q2790 => lt (q2790 && (!q2785)) fun q2793 => if q2793 = true then (some (((S54.mk 0 0 0 0 ([] : (List Int))), false, 0, (S49.mk p0.f0 p0.f1 p0.f2 p0.f3 a1)))) else (if t854 = true then ((if ([] : (List S63)).length + p0.f1.length ≤ 4398046511104 then lt (([] : (List S63)) ++ p0.f1) fun n3107 => (if n3107.length + ([(S63.mk (IntKind.u64.wrap (((rd p0.f1 (IntKind.i64.wrap ((p0.f1.length : Int) - 1))).f0) + 1)) p0.f0 0)] : (List S63)).length ≤ 4398046511104 then lt (n3107 ++ ([(S63.mk (IntKind.u64.wrap (((rd p0.f1 (IntKind.i64.wrap ((p0.f1.length : Int) - 1))).f0) + 1)) p0.f0 0)] : (List S63))) fun n3707 => (some n3707) else none) else none : Option ((List S63))).bind (fun t2799 => if 0 ≤ (0 : Int) ∧ (0 : Int) < (t2799.length : Int) then (if 0 ≤ (IntKind.i64.wrap ((t2799.length : Int) - 1)) ∧ (IntKind.i64.wrap ((t2799.length : Int) - 1)) < (t2799.length : Int) then ((F66.f ((rd t2799 (0 : Int)).f1) ((rd t2799 (IntKind.i64.wrap ((t2799.length : Int) - 1))).f1)).bind (fun r4485 => if (!r4485.2) = true then (some (((S54.mk 0 0 0 0 ([] : (List Int))), false, 99, p0))) else (if 0 ≤ (IntKind.i64.wrap ((t2799.length : Int) - 1)) ∧ (IntKind.i64.wrap ((t2799.length : Int) - 1)) < (t2799.length : Int) then (lt (t2799.set (IntKind.i64.wrap ((t2799.length : Int) - 1)).toNat (S63.mk ((rd t2799 (IntKind.i64.wrap ((t2799.length : Int) - 1))).f0) ((rd t2799 (IntKind.i64.wrap ((t2799.length : Int) - 1))).f1) a1)) fun n5628 => (if 0 ≤ (0 : Int) ∧ (0 : Int) < (n5628.length : Int) then (if 0 ≤ (IntKind.i64.wrap ((n5628.length : Int) - 1)) ∧ (IntKind.i64.wrap ((n5628.length : Int) - 1)) < (n5628.length : Int) then (if 0 ≤ (0 : Int) ∧ (0 : Int) < (n5628.length : Int) then (if r4485.1.size ≤ 9223372036854775807 then lt (bytesOf r4485.1) fun n6652 => (some (((S54.mk ((rd n5628 (0 : Int)).f0) ((rd n5628 (IntKind.i64.wrap ((n5628.length : Int) - 1))).f0) 0 ((rd n5628 (0 : Int)).f0) n6652), true, 0, (S49.mk p0.f0 n5628 true a1 a1)))) else none) else none) else none) else none)) else none))) else none) else none)) else (if 0 ≤ (0 : Int) ∧ (0 : Int) < (p0.f1.length : Int) then (if 0 ≤ (IntKind.i64.wrap ((p0.f1.length : Int) - 1)) ∧ (IntKind.i64.wrap ((p0.f1.length : Int) - 1)) < (p0.f1.length : Int) then ((F66.f ((rd p0.f1 (0 : Int)).f1) ((rd p0.f1 (IntKind.i64.wrap ((p0.f1.length : Int) - 1))).f1)).bind (fun r7610 => if (!r7610.2) = true then (some (((S54.mk 0 0 0 0 ([] : (List Int))), false, 99, p0))) else (if 0 ≤ (IntKind.i64.wrap ((p0.f1.length : Int) - 1)) ∧ (IntKind.i64.wrap ((p0.f1.length : Int) - 1)) < (p0.f1.length : Int) then (lt (p0.f1.set (IntKind.i64.wrap ((p0.f1.length : Int) - 1)).toNat (S63.mk ((rd p0.f1 (IntKind.i64.wrap ((p0.f1.length : Int) - 1))).f0) ((rd p0.f1 (IntKind.i64.wrap ((p0.f1.length : Int) - 1))).f1) a1)) fun n8753 => (if 0 ≤ (0 : Int) ∧ (0 : Int) < (n8753.length : Int) then (if 0 ≤ (IntKind.i64.wrap ((n8753.length : Int) - 1)) ∧ (IntKind.i64.wrap ((n8753.length : Int) - 1)) < (n8753.length : Int) then (if 0 ≤ (0 : Int) ∧ (0 : Int) < (n8753.length : Int) then (if r7610.1.size ≤ 9223372036854775807 then lt (bytesOf r7610.1) fun n9777 => (some (((S54.mk ((rd n8753 (0 : Int)).f0) ((rd n8753 (IntKind.i64.wrap ((n8753.length : Int) - 1))).f0) 0 ((rd n8753 (0 : Int)).f0) n9777), true, 0, (S49.mk p0.f0 n8753 true a1 a1)))) else none) else none) else none) else none)) else none))) else none) else none)))))) else none)
set_option maxHeartbeats 2000000 in
set_option maxRecDepth 100000 in
theorem F26b0.ok {p0 : S49} {a1 : Int} {a2 : Int} {a3 : Int} {b0_ : Nat} {A0_0 : Option Addr} {c0_0 : Nat} {r : S54 × Bool × Int × S49} (H : F26b0.f p0 a1 a2 a3 = some r) : SCA Try.prog 26 #[.pointer (some ⟨b0_, 0, none⟩), .int .u64 a1, .int .i64 a2, .int .i64 a3] [Blk b0_ 49 [.string p0.f0, .slice A0_0 p0.f1.length c0_0, .bool p0.f2, .int .u64 p0.f3, .int .u64 p0.f4], Buf k63 63 A0_0 c0_0 p0.f1] (fun v B => ∃ (A0_0_ : Option Addr) (c0_0_ : Nat), ∃ (P0_0_ : Option Addr) (q0_0_ : Nat), v = .tuple #[.agg #[.int .u64 r.1.f0, .int .u64 r.1.f1, .int .u64 r.1.f2, .int .u64 r.1.f3, .slice A0_0_ r.1.f4.length c0_0_], .bool r.2.1, .int .i64 r.2.2.1] ∧ B = [Buf (Kd.int .u8) 5 A0_0_ c0_0_ r.1.f4, Blk b0_ 49 [.string r.2.2.2.f0, .slice P0_0_ r.2.2.2.f1.length q0_0_, .bool r.2.2.2.f2, .int .u64 r.2.2.2.f3, .int .u64 r.2.2.2.f4], Buf k63 63 P0_0_ q0_0_ r.2.2.2.f1]) := by
  refine SCA_of_body Try.func26 rfl rfl ?_
  unfold F26b0.f at H
  refine SA_seq ?_
  refine SA_region ?_
  refine RA_step rfl (OA_alloc rfl zero54 fun b3 => ?_)
  refine RA_step rfl (OA_v (v := .bool false) rfl (V_assign rfl) ?_)
  refine RA_step rfl (OA_v (v := .int .i64 0) rfl (V_assign rfl) ?_)
  refine RA_nil ?_
  refine at_normal ?_
  refine SA_seq ?_
  refine SA_seq ?_
  refine SA_region ?_
  refine RA_step rfl (OA_v (v := .int .i64 a2) rfl (V_move rfl) ?_)
  refine RA_step rfl (OA_v (v := .bool (decide (a2 < 0))) rfl (V_lss rfl rfl) ?_)
  refine RA_step rfl (OA_v (v := .bool (decide (a2 < 0))) rfl (V_move rfl) ?_)
  obtain ⟨q5, hq5, H⟩ := g_lt H
  refine RA_cut 3 (fun e ds As => St [(0, .pointer (some ⟨b0_, 0, none⟩)), (1, .int .u64 a1), (2, .int .i64 a2), (3, .int .i64 a3), (8, .pointer (some ⟨b3, 0, none⟩)), (23, .bool q5)] [Blk b0_ 49 [.string p0.f0, .slice A0_0 p0.f1.length c0_0, .bool p0.f2, .int .u64 p0.f3, .int .u64 p0.f4], Buf k63 63 A0_0 c0_0 p0.f1, Blk b3 54 [.int .u64 0, .int .u64 0, .int .u64 0, .int .u64 0, .slice none 0 0]] e ds As) ?_ ?_
  · by_cases h6 : a2 < 0
    · refine RA_noB rfl rfl rfl rfl (dec_t h6) rfl ?_
      refine RA_noB rfl rfl rfl rfl (dec_t h6) rfl ?_
      refine RA_step rfl (OA_v rfl (V_pickT rfl (dec_t h6) rfl) ?_)
      refine RA_nil ?_
      exact at_normal (St.mk1 (aeq rfl (aeq rfl (aeq rfl (aeq rfl (aeq rfl (aeq (congrArg Value.bool (or_t hq5 (dec_t h6))) aeq0)))))) (Gh.sel [0, 1, 2] rfl rfl))
    refine RA_yesB rfl rfl rfl rfl (dec_f h6) (OA_v (v := .int .i64 a3) rfl (V_move rfl) ?_)
    refine RA_yesB rfl rfl rfl rfl (dec_f h6) (OA_v (v := .bool (decide (a3 < 0))) rfl (V_lss rfl rfl) ?_)
    refine RA_step rfl (OA_v rfl (V_pickF rfl (dec_f h6) rfl) ?_)
    refine RA_nil ?_
    exact at_normal (St.mk1 (aeq rfl (aeq rfl (aeq rfl (aeq rfl (aeq rfl (aeq (congrArg Value.bool (or_f hq5 (dec_f h6))) aeq0)))))) (Gh.sel [0, 1, 2] rfl rfl))
  rintro e ds As hst7
  refine RA.of_St rfl hst7 fun junk => ?_
  refine RA_step rfl (OA_v (v := .bool q5) rfl (V_move rfl) ?_)
  obtain ⟨q8, hq8, H⟩ := g_lt H
  refine RA_cut 7 (fun e ds As => St [(0, .pointer (some ⟨b0_, 0, none⟩)), (1, .int .u64 a1), (2, .int .i64 a2), (3, .int .i64 a3), (8, .pointer (some ⟨b3, 0, none⟩)), (31, .bool q8)] [Blk b0_ 49 [.string p0.f0, .slice A0_0 p0.f1.length c0_0, .bool p0.f2, .int .u64 p0.f3, .int .u64 p0.f4], Buf k63 63 A0_0 c0_0 p0.f1, Blk b3 54 [.int .u64 0, .int .u64 0, .int .u64 0, .int .u64 0, .slice none 0 0]] e ds As) ?_ ?_
  · by_cases h9 : q5 = true
    · refine RA_noB rfl rfl rfl rfl (h9) rfl ?_
      refine RA_noB rfl rfl rfl rfl (h9) rfl ?_
      refine RA_noB rfl rfl rfl rfl (h9) rfl ?_
      refine RA_noB rfl rfl rfl rfl (h9) rfl ?_
      refine RA_noB rfl rfl rfl rfl (h9) rfl ?_
      refine RA_noB rfl rfl rfl rfl (h9) rfl ?_
      refine RA_step rfl (OA_v rfl (V_pickT rfl (h9) rfl) ?_)
      refine RA_nil ?_
      exact at_normal (St.mk1 (aeq rfl (aeq rfl (aeq rfl (aeq rfl (aeq rfl (aeq (congrArg Value.bool (or_t hq8 (h9))) aeq0)))))) (Gh.sel [0, 1, 2] rfl rfl))
    refine RA_yesB rfl rfl rfl rfl (bno h9) (OA_v (v := .int .u64 a1) rfl (V_move rfl) ?_)
    refine RA_yesB rfl rfl rfl rfl (bno h9) (OA_v (v := .pointer (some ⟨b0_, 0, none⟩)) rfl (V_move rfl) ?_)
    refine RA_yesB rfl rfl rfl rfl (bno h9) (OA_v (v := .pointer (some ⟨b0_, 0, none⟩)) rfl (V_nilCheck rfl) ?_)
    refine RA_yesB rfl rfl rfl rfl (bno h9) (OA_v (v := .pointer (some ((⟨b0_, 0, none⟩ : Addr).add 4))) rfl (V_fieldAddrN (B := ⟨b0_, 0, none⟩) (m := 0) (o := 4) Try.underlying49 rfl nz44 rfl rfl) ?_)
    refine RA_yesB rfl rfl rfl rfl (bno h9) (OA_r rfl (VR_load_blk (b := b0_) (m := 4) (k := 0) Try.underlying44 rfl rfl rfl rfl) ?_)
    refine RA_yesB rfl rfl rfl rfl (bno h9) (OA_v (v := .bool (decide (a1 < p0.f4))) rfl (V_lss rfl rfl) ?_)
    refine RA_step rfl (OA_v rfl (V_pickF rfl (bno h9) rfl) ?_)
    refine RA_nil ?_
    exact at_normal (St.mk1 (aeq rfl (aeq rfl (aeq rfl (aeq rfl (aeq rfl (aeq (congrArg Value.bool (or_f hq8 (bno h9))) aeq0)))))) (Gh.sel [0, 1, 2] rfl rfl))
  rintro e ds As hst10
  refine RA_nil ?_
  refine at_normal ?_
  refine SA.of_St hst10 fun junk => ?_
  by_cases h11 : q8 = true
  · replace H := g_ift h11 H
    refine SA_condTb rfl h11 ?_
    refine SA_seq ?_
    refine SA_region ?_
    refine RA_step rfl (OA_v (v := .agg #[.int .u64 0, .int .u64 0, .int .u64 0, .int .u64 0, .slice none 0 0]) rfl (V_build (cells := [.int .u64 0, .int .u64 0, .int .u64 0, .int .u64 0, .slice none 0 0]) zero54 Try.underlying54 plc54 (by kernel_rfl)) ?_)
    refine RA_step rfl (OA_st (b := b3) (m := 0) (k := 2) (vs := [.int .u64 0, .int .u64 0, .int .u64 0, .int .u64 0, .slice none 0 0]) (cs' := [.int .u64 0, .int .u64 0, .int .u64 0, .int .u64 0, .slice none 0 0]) rfl rfl rfl rfl rfl rfl sz54 rfl rfl ?_)
    refine RA_step rfl (OA_v (v := .bool false) rfl (V_assign rfl) ?_)
    refine RA_step rfl (OA_v (v := .int .i64 2) rfl (V_assign rfl) ?_)
    refine RA_nil ?_
    refine at_normal ?_
    refine SA_ret ?_
    refine thn_ret ?_
    have hr_ := Option.some.inj H
    subst hr_
    exact BQ_RL (rs := [.cell 8 54, .tmp 9, .tmp 10]) (vs := [.agg #[.int .u64 0, .int .u64 0, .int .u64 0, .int .u64 0, .slice none 0 0], .bool false, .int .i64 2]) [Buf (Kd.int .u8) 5 none 0 ([] : (List Int)), Blk b0_ 49 [.string p0.f0, .slice A0_0 p0.f1.length c0_0, .bool p0.f2, .int .u64 p0.f3, .int .u64 p0.f4], Buf k63 63 A0_0 c0_0 p0.f1] rfl ⟨RV.cell (k := 2) rfl rfl Try.underlying54 rfl sz54, RV.tmp rfl, RV.tmp rfl, trivial⟩ rfl ((Gh.nilBuf (Kd.int .u8) 5).trans (Gh.sel [3, 0, 1] rfl rfl)) ⟨none, 0, A0_0, c0_0, rfl, rfl⟩
  replace H := g_iff h11 H
  refine SA_condFb rfl h11 ?_
  refine SA_skip ?_
  refine at_normal ?_
  refine SA_seq ?_
  refine SA_drawHq [0, 1, 2, 3, 4, 5, 6, 7, 8, 9, 10, 11] (List.toArray ([] :: [0] :: [0, 1] :: [0, 1, 2] :: [] :: [4] :: [4, 5] :: [4, 5, 6] :: [4, 5, 6, 7] :: [4, 5, 6, 7, 8] :: [0, 1, 2, 3, 4, 5, 6, 7, 8, 9] :: [0, 1, 2, 3, 4, 5, 6, 7, 8, 9, 10] :: [] :: [0, 1, 2, 3, 4, 5, 6, 7, 8, 9, 10, 11] :: [])) [0, 1] [2] mixed rfl rfl rfl (PanOk.thn PanOk.body) fun I0 hS h0 hh0 w0 sH dd pk => ?_
  refine DH_take (v := .pointer (some ⟨b0_, 0, none⟩)) 0 (by kernel_rfl) rfl rfl (.no rfl) pk sH rfl (VR.ofV (V_move rfl)) ?_
  refine DH_take (v := .pointer (some ⟨b0_, 0, none⟩)) 1 (by kernel_rfl) rfl rfl (.no rfl) pk sH rfl (VR.ofV (V_nilCheck rfl)) ?_
  refine DH_take (v := .pointer (some ((⟨b0_, 0, none⟩ : Addr).add 1))) 2 (by kernel_rfl) rfl rfl (.no rfl) pk sH rfl (VR.ofV (V_fieldAddrN (B := ⟨b0_, 0, none⟩) (m := 0) (o := 1) Try.underlying49 rfl nz47 rfl rfl)) ?_
  refine DH_take 3 (by kernel_rfl) rfl rfl (.no rfl) pk sH rfl (VR_load_blk (b := b0_) (m := 1) (k := 0) Try.underlying47 rfl rfl rfl rfl) ?_
  refine DH_take (v := .pointer (some ⟨b0_, 0, none⟩)) 4 (by kernel_rfl) rfl rfl (.no rfl) pk sH rfl (VR.ofV (V_move rfl)) ?_
  refine DH_take (v := .pointer (some ⟨b0_, 0, none⟩)) 5 (by kernel_rfl) rfl rfl (.no rfl) pk sH rfl (VR.ofV (V_nilCheck rfl)) ?_
  refine DH_take (v := .pointer (some ((⟨b0_, 0, none⟩ : Addr).add 1))) 6 (by kernel_rfl) rfl rfl (.no rfl) pk sH rfl (VR.ofV (V_fieldAddrN (B := ⟨b0_, 0, none⟩) (m := 0) (o := 1) Try.underlying49 rfl nz47 rfl rfl)) ?_
  refine DH_take 7 (by kernel_rfl) rfl rfl (.no rfl) pk sH rfl (VR_load_blk (b := b0_) (m := 1) (k := 0) Try.underlying47 rfl rfl rfl rfl) ?_
  refine DH_take (v := .int .i64 (p0.f1.length : Int)) 8 (by kernel_rfl) rfl rfl (.no rfl) pk sH rfl (VR.ofV (V_len Try.underlying47 rfl)) ?_
  refine DH_take (v := .int .i64 (IntKind.i64.wrap ((p0.f1.length : Int) - 1))) 9 (by kernel_rfl) rfl rfl (.no rfl) pk sH rfl (VR.ofV (V_sub rfl rfl)) ?_
  obtain ⟨⟨g613, g614⟩, H⟩ := g_pos H
  refine DH_take 10 (by kernel_rfl) rfl rfl (.no rfl) pk sH rfl (VR_index (i := IntKind.i64.wrap ((p0.f1.length : Int) - 1)) Try.underlying47 sz63 rfl rfl (Src.buf (k := 1) rfl) g613 g614) ?_
  refine DH_take 11 (by kernel_rfl) rfl rfl (.no rfl) pk sH rfl (VR_loadA_el (enc := enc63) (i := IntKind.i64.wrap ((p0.f1.length : Int) - 1)) (j := (IntKind.i64.wrap ((p0.f1.length : Int) - 1)).toNat * 3) (m := 0) (sz := 3) (vs := [.int .u64 ((rd p0.f1 (IntKind.i64.wrap ((p0.f1.length : Int) - 1))).f0), .string ((rd p0.f1 (IntKind.i64.wrap ((p0.f1.length : Int) - 1))).f1), .int .u64 ((rd p0.f1 (IntKind.i64.wrap ((p0.f1.length : Int) - 1))).f2)]) Try.underlying63 rfl sz63 rfl rfl rfl (Src.buf (k := 1) rfl) g613 g614 (fun _ _ h => h) rfl) ?_
  refine DH_one 12 dd (by kernel_rfl) rfl (.no rfl) (OA_alloc rfl zero63 fun b733 => ?_)
  refine DH_one 13 dd (by kernel_rfl) rfl (.no rfl) (OA_st (b := b733) (m := 0) (k := 1) (vs := [.int .u64 ((rd p0.f1 (IntKind.i64.wrap ((p0.f1.length : Int) - 1))).f0), .string ((rd p0.f1 (IntKind.i64.wrap ((p0.f1.length : Int) - 1))).f1), .int .u64 ((rd p0.f1 (IntKind.i64.wrap ((p0.f1.length : Int) - 1))).f2)]) (cs' := [.int .u64 ((rd p0.f1 (IntKind.i64.wrap ((p0.f1.length : Int) - 1))).f0), .string ((rd p0.f1 (IntKind.i64.wrap ((p0.f1.length : Int) - 1))).f1), .int .u64 ((rd p0.f1 (IntKind.i64.wrap ((p0.f1.length : Int) - 1))).f2)]) rfl rfl rfl rfl rfl rfl sz63 rfl rfl ?_)
  refine DH_open dd sH ?_
  refine DN_done (by kernel_rfl) ?_
  refine at_normal ?_
  refine SA_seq ?_
  obtain ⟨t854, H, Bt854⟩ := g_bind H
  refine SA_mid (fun e ds As => St [(0, .pointer (some ⟨b0_, 0, none⟩)), (1, .int .u64 a1), (3, .int .i64 a3), (8, .pointer (some ⟨b3, 0, none⟩)), (11, .pointer (some ⟨b733, 0, none⟩)), (12, .bool t854)] [Blk b0_ 49 [.string p0.f0, .slice A0_0 p0.f1.length c0_0, .bool p0.f2, .int .u64 p0.f3, .int .u64 p0.f4], Buf k63 63 A0_0 c0_0 p0.f1, Blk b3 54 [.int .u64 0, .int .u64 0, .int .u64 0, .int .u64 0, .slice none 0 0], Blk b733 63 [.int .u64 ((rd p0.f1 (IntKind.i64.wrap ((p0.f1.length : Int) - 1))).f0), .string ((rd p0.f1 (IntKind.i64.wrap ((p0.f1.length : Int) - 1))).f1), .int .u64 ((rd p0.f1 (IntKind.i64.wrap ((p0.f1.length : Int) - 1))).f2)]] e ds As) ?_ ?_
  · refine SA_drawHq (0 :: 1 :: 2 :: 3 :: 4 :: 5 :: 6 :: 7 :: 8 :: 9 :: 10 :: 11 :: 12 :: 13 :: 14 :: 15 :: 16 :: 17 :: 18 :: 19 :: 20 :: 21 :: 22 :: 23 :: 24 :: 25 :: 26 :: 27 :: 28 :: 29 :: 30 :: 31 :: []) (List.toArray ([] :: [0] :: [] :: [2] :: [2, 3] :: [2, 3, 4] :: [0, 1, 2, 3, 4, 5] :: [0, 1, 2, 3, 4, 5, 6] :: [0, 1, 2, 3, 4, 5, 6, 7] :: [0, 1, 2, 3, 4, 5, 6, 7, 8] :: [0, 1, 2, 3, 4, 5, 6, 7, 8, 9] :: [0, 1, 2, 3, 4, 5, 6, 7, 8, 9, 10] :: [0, 1, 2, 3, 4, 5, 6, 7, 8, 9, 10, 11] :: (0 :: 1 :: 2 :: 3 :: 4 :: 5 :: 6 :: 7 :: 8 :: 9 :: 10 :: 11 :: 12 :: []) :: (0 :: 1 :: 2 :: 3 :: 4 :: 5 :: 6 :: 7 :: 8 :: 9 :: 10 :: 11 :: 12 :: 13 :: []) :: (0 :: 1 :: 2 :: 3 :: 4 :: 5 :: 6 :: 7 :: 8 :: 9 :: 10 :: 11 :: 12 :: 13 :: 14 :: []) :: (0 :: 1 :: 2 :: 3 :: 4 :: 5 :: 6 :: 7 :: 8 :: 9 :: 10 :: 11 :: 12 :: 13 :: 14 :: 15 :: []) :: (0 :: 1 :: 2 :: 3 :: 4 :: 5 :: 6 :: 7 :: 8 :: 9 :: 10 :: 11 :: 12 :: 13 :: 14 :: 15 :: 16 :: []) :: (0 :: 1 :: 2 :: 3 :: 4 :: 5 :: 6 :: 7 :: 8 :: 9 :: 10 :: 11 :: 12 :: 13 :: 14 :: 15 :: 16 :: 17 :: []) :: (0 :: 1 :: 2 :: 3 :: 4 :: 5 :: 6 :: 7 :: 8 :: 9 :: 10 :: 11 :: 12 :: 13 :: 14 :: 15 :: 16 :: 17 :: 18 :: []) :: (0 :: 1 :: 2 :: 3 :: 4 :: 5 :: 6 :: 7 :: 8 :: 9 :: 10 :: 11 :: 12 :: 13 :: 14 :: 15 :: 16 :: 17 :: 18 :: 19 :: []) :: (0 :: 1 :: 2 :: 3 :: 4 :: 5 :: 6 :: 7 :: 8 :: 9 :: 10 :: 11 :: 12 :: 13 :: 14 :: 15 :: 16 :: 17 :: 18 :: 19 :: 20 :: []) :: (0 :: 1 :: 2 :: 3 :: 4 :: 5 :: 6 :: 7 :: 8 :: 9 :: 10 :: 11 :: 12 :: 13 :: 14 :: 15 :: 16 :: 17 :: 18 :: 19 :: 20 :: 21 :: []) :: (0 :: 1 :: 2 :: 3 :: 4 :: 5 :: 6 :: 7 :: 8 :: 9 :: 10 :: 11 :: 12 :: 13 :: 14 :: 15 :: 16 :: 17 :: 18 :: 19 :: 20 :: 21 :: []) :: (0 :: 1 :: 2 :: 3 :: 4 :: 5 :: 6 :: 7 :: 8 :: 9 :: 10 :: 11 :: 12 :: 13 :: 14 :: 15 :: 16 :: 17 :: 18 :: 19 :: 20 :: 21 :: 23 :: []) :: (0 :: 1 :: 2 :: 3 :: 4 :: 5 :: 6 :: 7 :: 8 :: 9 :: 10 :: 11 :: 12 :: 13 :: 14 :: 15 :: 16 :: 17 :: 18 :: 19 :: 20 :: 21 :: 23 :: 24 :: []) :: (0 :: 1 :: 2 :: 3 :: 4 :: 5 :: 6 :: 7 :: 8 :: 9 :: 10 :: 11 :: 12 :: 13 :: 14 :: 15 :: 16 :: 17 :: 18 :: 19 :: 20 :: 21 :: 23 :: 24 :: 25 :: []) :: (0 :: 1 :: 2 :: 3 :: 4 :: 5 :: 6 :: 7 :: 8 :: 9 :: 10 :: 11 :: 12 :: 13 :: 14 :: 15 :: 16 :: 17 :: 18 :: 19 :: 20 :: 21 :: []) :: (0 :: 1 :: 2 :: 3 :: 4 :: 5 :: 6 :: 7 :: 8 :: 9 :: 10 :: 11 :: 12 :: 13 :: 14 :: 15 :: 16 :: 17 :: 18 :: 19 :: 20 :: 21 :: 22 :: 23 :: 24 :: 25 :: 26 :: 27 :: []) :: (0 :: 1 :: 2 :: 3 :: 4 :: 5 :: 6 :: 7 :: 8 :: 9 :: 10 :: 11 :: 12 :: 13 :: 14 :: 15 :: 16 :: 17 :: 18 :: 19 :: 20 :: 21 :: 22 :: 23 :: 24 :: 25 :: 26 :: 27 :: 28 :: []) :: (0 :: 1 :: 2 :: 3 :: 4 :: 5 :: 6 :: 7 :: 8 :: 9 :: 10 :: 11 :: 12 :: 13 :: 14 :: 15 :: 16 :: 17 :: 18 :: 19 :: 20 :: 21 :: 22 :: 23 :: 24 :: 25 :: 26 :: 27 :: 28 :: 29 :: []) :: (0 :: 1 :: 2 :: 3 :: 4 :: 5 :: 6 :: 7 :: 8 :: 9 :: 10 :: 11 :: 12 :: 13 :: 14 :: 15 :: 16 :: 17 :: 18 :: 19 :: 20 :: 21 :: 22 :: 23 :: 24 :: 25 :: 26 :: 27 :: 28 :: 29 :: 30 :: []) :: [])) [0, 3] [1, 2] mixed rfl rfl rfl (PanOk.thn (PanOk.thn PanOk.body)) fun I0 hS h0 hh0 w0 sH dd pk => ?_
    refine DH_take (v := .pointer (some ((⟨b733, 0, none⟩ : Addr).add 1))) 0 (by kernel_rfl) rfl rfl (.no rfl) pk sH rfl (VR.ofV (V_fieldAddrN (B := ⟨b733, 0, none⟩) (m := 0) (o := 1) Try.underlying63 rfl nz9 rfl rfl)) ?_
    refine DH_take 1 (by kernel_rfl) rfl rfl (.no rfl) pk sH rfl (VR_load_blk (b := b733) (m := 1) (k := 1) Try.underlying9 rfl rfl rfl rfl) ?_
    refine DH_take (v := .pointer (some ⟨b0_, 0, none⟩)) 2 (by kernel_rfl) rfl rfl (.no rfl) pk sH rfl (VR.ofV (V_move rfl)) ?_
    refine DH_take (v := .pointer (some ⟨b0_, 0, none⟩)) 3 (by kernel_rfl) rfl rfl (.no rfl) pk sH rfl (VR.ofV (V_nilCheck rfl)) ?_
    refine DH_take (v := .pointer (some ⟨b0_, 0, none⟩)) 4 (by kernel_rfl) rfl rfl (.no rfl) pk sH rfl (VR.ofV (V_fieldAddrN (B := ⟨b0_, 0, none⟩) (m := 0) (o := 0) Try.underlying49 rfl nz9 rfl rfl)) ?_
    refine DH_take 5 (by kernel_rfl) rfl rfl (.no rfl) pk sH rfl (VR_load_blk (b := b0_) (m := 0) (k := 0) Try.underlying9 rfl rfl rfl rfl) ?_
    refine DH_take (v := .bool (decide (((rd p0.f1 (IntKind.i64.wrap ((p0.f1.length : Int) - 1))).f1) ≠ p0.f0))) 6 (by kernel_rfl) rfl rfl (.no rfl) pk sH rfl (VR.ofV (V_neqS rfl rfl)) ?_
    refine DH_take (v := .bool (decide (((rd p0.f1 (IntKind.i64.wrap ((p0.f1.length : Int) - 1))).f1) ≠ p0.f0))) 7 (by kernel_rfl) rfl rfl (.no rfl) pk sH rfl (VR.ofV (V_move rfl)) ?_
    by_cases h2776 : ((rd p0.f1 (IntKind.i64.wrap ((p0.f1.length : Int) - 1))).f1) ≠ p0.f0
    · replace H := g_ift h2776 H
      refine DH_take (v := .pointer (some ⟨b0_, 0, none⟩)) 8 (by kernel_rfl) rfl rfl (.yes rfl rfl rfl rfl (dec_t h2776)) pk sH rfl (VR.ofV (V_move rfl)) ?_
      refine DH_take (v := .pointer (some ⟨b0_, 0, none⟩)) 9 (by kernel_rfl) rfl rfl (.yes rfl rfl rfl rfl (dec_t h2776)) pk sH rfl (VR.ofV (V_nilCheck rfl)) ?_
      refine DH_take (v := .pointer (some ((⟨b0_, 0, none⟩ : Addr).add 1))) 10 (by kernel_rfl) rfl rfl (.yes rfl rfl rfl rfl (dec_t h2776)) pk sH rfl (VR.ofV (V_fieldAddrN (B := ⟨b0_, 0, none⟩) (m := 0) (o := 1) Try.underlying49 rfl nz47 rfl rfl)) ?_
      refine DH_take 11 (by kernel_rfl) rfl rfl (.yes rfl rfl rfl rfl (dec_t h2776)) pk sH rfl (VR_load_blk (b := b0_) (m := 1) (k := 0) Try.underlying47 rfl rfl rfl rfl) ?_
      refine DH_take (v := .int .i64 (p0.f1.length : Int)) 12 (by kernel_rfl) rfl rfl (.yes rfl rfl rfl rfl (dec_t h2776)) pk sH rfl (VR.ofV (V_len Try.underlying47 rfl)) ?_
      refine DH_take (v := .bool (decide ((p0.f1.length : Int) < 32))) 13 (by kernel_rfl) rfl rfl (.yes rfl rfl rfl rfl (dec_t h2776)) pk sH rfl (VR.ofV (V_lss rfl rfl)) ?_
      refine DH_take 14 (by kernel_rfl) rfl rfl (.no rfl) pk sH rfl (VR.ofV (V_pickT rfl (dec_t h2776) rfl)) ?_
      refine DH_take (v := .bool (decide ((p0.f1.length : Int) < 32))) 15 (by kernel_rfl) rfl rfl (.no rfl) pk sH rfl (VR.ofV (V_move rfl)) ?_
      by_cases h2777 : (p0.f1.length : Int) < 32
      · replace H := g_ift h2777 H
        refine DH_take (v := .pointer (some ⟨b0_, 0, none⟩)) 16 (by kernel_rfl) rfl rfl (.yes rfl rfl rfl rfl (dec_t h2777)) pk sH rfl (VR.ofV (V_move rfl)) ?_
        refine DH_take (v := .pointer (some ⟨b0_, 0, none⟩)) 17 (by kernel_rfl) rfl rfl (.yes rfl rfl rfl rfl (dec_t h2777)) pk sH rfl (VR.ofV (V_nilCheck rfl)) ?_
        refine DH_take (v := .pointer (some ((⟨b0_, 0, none⟩ : Addr).add 2))) 18 (by kernel_rfl) rfl rfl (.yes rfl rfl rfl rfl (dec_t h2777)) pk sH rfl (VR.ofV (V_fieldAddrN (B := ⟨b0_, 0, none⟩) (m := 0) (o := 2) Try.underlying49 rfl nz4 rfl rfl)) ?_
        refine DH_take 19 (by kernel_rfl) rfl rfl (.yes rfl rfl rfl rfl (dec_t h2777)) pk sH rfl (VR_load_blk (b := b0_) (m := 2) (k := 0) Try.underlying4 rfl rfl rfl rfl) ?_
        refine DH_take (v := .bool (!p0.f2)) 20 (by kernel_rfl) rfl rfl (.yes rfl rfl rfl rfl (dec_t h2777)) pk sH rfl (VR.ofV (V_not rfl)) ?_
        refine DH_take (v := .bool (!p0.f2)) 21 (by kernel_rfl) rfl rfl (.yes rfl rfl rfl rfl (dec_t h2777)) pk sH rfl (VR.ofV (V_move rfl)) ?_
        by_cases h2778 : (!p0.f2) = true
        · replace H := g_ift h2778 H
          refine DH_skip 22 (by kernel_rfl) rfl rfl (.no rfl rfl rfl rfl (h2778)) pk rfl ?_
          refine DH_skip 23 (by kernel_rfl) rfl rfl (.no rfl rfl rfl rfl (h2778)) pk rfl ?_
          refine DH_skip 24 (by kernel_rfl) rfl rfl (.no rfl rfl rfl rfl (h2778)) pk rfl ?_
          refine DH_skip 25 (by kernel_rfl) rfl rfl (.no rfl rfl rfl rfl (h2778)) pk rfl ?_
          refine DH_skip 26 (by kernel_rfl) rfl rfl (.no rfl rfl rfl rfl (h2778)) pk rfl ?_
          refine DH_skip 27 (by kernel_rfl) rfl rfl (.no rfl rfl rfl rfl (h2778)) pk rfl ?_
          refine DH_skip 28 (by kernel_rfl) rfl rfl (.no rfl rfl rfl rfl (h2778)) pk rfl ?_
          refine DH_take 29 (by kernel_rfl) rfl rfl (.yes rfl rfl rfl rfl (dec_t h2777)) pk sH rfl (VR.ofV (V_pickT rfl (h2778) rfl)) ?_
          refine DH_take 30 (by kernel_rfl) rfl rfl (.no rfl) pk sH rfl (VR.ofV (V_pickT rfl (dec_t h2777) rfl)) ?_
          refine DH_take (v := .bool true) 31 (by kernel_rfl) rfl rfl (.no rfl) pk sH rfl (VR.ofV (V_assign rfl)) ?_
          refine DH_open dd sH ?_
          refine DN_done (by kernel_rfl) ?_
          have hr_ := Option.some.inj H
          subst hr_
          exact at_normal (St.mk1 (aeq rfl (aeq rfl (aeq rfl (aeq rfl (aeq rfl (aeq rfl aeq0)))))) (Gh.sel [0, 2, 3, 1] rfl rfl))
        replace H := g_iff h2778 H
        refine DH_take (v := .int .u64 a1) 22 (by kernel_rfl) rfl rfl (.yes rfl rfl rfl rfl (bno h2778)) pk sH rfl (VR.ofV (V_move rfl)) ?_
        refine DH_take (v := .pointer (some ⟨b0_, 0, none⟩)) 23 (by kernel_rfl) rfl rfl (.yes rfl rfl rfl rfl (bno h2778)) pk sH rfl (VR.ofV (V_move rfl)) ?_
        refine DH_take (v := .pointer (some ⟨b0_, 0, none⟩)) 24 (by kernel_rfl) rfl rfl (.yes rfl rfl rfl rfl (bno h2778)) pk sH rfl (VR.ofV (V_nilCheck rfl)) ?_
        refine DH_take (v := .pointer (some ((⟨b0_, 0, none⟩ : Addr).add 3))) 25 (by kernel_rfl) rfl rfl (.yes rfl rfl rfl rfl (bno h2778)) pk sH rfl (VR.ofV (V_fieldAddrN (B := ⟨b0_, 0, none⟩) (m := 0) (o := 3) Try.underlying49 rfl nz44 rfl rfl)) ?_
        refine DH_take 26 (by kernel_rfl) rfl rfl (.yes rfl rfl rfl rfl (bno h2778)) pk sH rfl (VR_load_blk (b := b0_) (m := 3) (k := 0) Try.underlying44 rfl rfl rfl rfl) ?_
        refine DH_take (v := .int .i64 a2) 27 (by kernel_rfl) rfl rfl (.yes rfl rfl rfl rfl (bno h2778)) pk sH rfl (VR.ofV (V_move rfl)) ?_
        obtain ⟨r2535, C2536, H⟩ := g_bind H
        refine DH_one 28 dd (by kernel_rfl) rfl (.yes rfl rfl rfl rfl (bno h2778)) (OA_callA [] [0, 1] rfl (X_fn (vs := [.int .u64 a1, .int .u64 p0.f3, .int .i64 a2]) Try.func65 nm65 rfl rfl) rfl (F65.ok (a0 := a1) (a1 := p0.f3) (a2 := a2) C2536) rfl ?_)
        rintro _ _ ⟨rfl, rfl⟩
        refine DH_take 29 (by kernel_rfl) rfl rfl (.yes rfl rfl rfl rfl (dec_t h2777)) pk sH rfl (VR.ofV (V_pickF rfl (bno h2778) rfl)) ?_
        refine DH_take 30 (by kernel_rfl) rfl rfl (.no rfl) pk sH rfl (VR.ofV (V_pickT rfl (dec_t h2777) rfl)) ?_
        refine DH_take (v := .bool r2535) 31 (by kernel_rfl) rfl rfl (.no rfl) pk sH rfl (VR.ofV (V_assign rfl)) ?_
        refine DH_open dd sH ?_
        refine DN_done (by kernel_rfl) ?_
        have hr_ := Option.some.inj H
        subst hr_
        exact at_normal (St.mk1 (aeq rfl (aeq rfl (aeq rfl (aeq rfl (aeq rfl (aeq rfl aeq0)))))) (Gh.sel [0, 2, 3, 1] rfl rfl))
      replace H := g_iff h2777 H
      refine DH_skip 16 (by kernel_rfl) rfl rfl (.no rfl rfl rfl rfl (dec_f h2777)) pk rfl ?_
      refine DH_skip 17 (by kernel_rfl) rfl rfl (.no rfl rfl rfl rfl (dec_f h2777)) pk rfl ?_
      refine DH_skip 18 (by kernel_rfl) rfl rfl (.no rfl rfl rfl rfl (dec_f h2777)) pk rfl ?_
      refine DH_skip 19 (by kernel_rfl) rfl rfl (.no rfl rfl rfl rfl (dec_f h2777)) pk rfl ?_
      refine DH_skip 20 (by kernel_rfl) rfl rfl (.no rfl rfl rfl rfl (dec_f h2777)) pk rfl ?_
      refine DH_skip 21 (by kernel_rfl) rfl rfl (.no rfl rfl rfl rfl (dec_f h2777)) pk rfl ?_
      refine DH_skip 22 (by kernel_rfl) rfl rfl (.un rfl rfl rfl rfl) pk rfl ?_
      refine DH_skip 23 (by kernel_rfl) rfl rfl (.un rfl rfl rfl rfl) pk rfl ?_
      refine DH_skip 24 (by kernel_rfl) rfl rfl (.un rfl rfl rfl rfl) pk rfl ?_
      refine DH_skip 25 (by kernel_rfl) rfl rfl (.un rfl rfl rfl rfl) pk rfl ?_
      refine DH_skip 26 (by kernel_rfl) rfl rfl (.un rfl rfl rfl rfl) pk rfl ?_
      refine DH_skip 27 (by kernel_rfl) rfl rfl (.un rfl rfl rfl rfl) pk rfl ?_
      refine DH_skip 28 (by kernel_rfl) rfl rfl (.un rfl rfl rfl rfl) pk rfl ?_
      refine DH_skip 29 (by kernel_rfl) rfl rfl (.no rfl rfl rfl rfl (dec_f h2777)) pk rfl ?_
      refine DH_take 30 (by kernel_rfl) rfl rfl (.no rfl) pk sH rfl (VR.ofV (V_pickF rfl (dec_f h2777) rfl)) ?_
      refine DH_take (v := .bool false) 31 (by kernel_rfl) rfl rfl (.no rfl) pk sH rfl (VR.ofV (V_assign rfl)) ?_
      refine DH_open dd sH ?_
      refine DN_done (by kernel_rfl) ?_
      have hr_ := Option.some.inj H
      subst hr_
      exact at_normal (St.mk1 (aeq rfl (aeq rfl (aeq rfl (aeq rfl (aeq rfl (aeq rfl aeq0)))))) (Gh.sel [0, 2, 3, 1] rfl rfl))
    replace H := g_iff h2776 H
    refine DH_skip 8 (by kernel_rfl) rfl rfl (.no rfl rfl rfl rfl (dec_f h2776)) pk rfl ?_
    refine DH_skip 9 (by kernel_rfl) rfl rfl (.no rfl rfl rfl rfl (dec_f h2776)) pk rfl ?_
    refine DH_skip 10 (by kernel_rfl) rfl rfl (.no rfl rfl rfl rfl (dec_f h2776)) pk rfl ?_
    refine DH_skip 11 (by kernel_rfl) rfl rfl (.no rfl rfl rfl rfl (dec_f h2776)) pk rfl ?_
    refine DH_skip 12 (by kernel_rfl) rfl rfl (.no rfl rfl rfl rfl (dec_f h2776)) pk rfl ?_
    refine DH_skip 13 (by kernel_rfl) rfl rfl (.no rfl rfl rfl rfl (dec_f h2776)) pk rfl ?_
    refine DH_take 14 (by kernel_rfl) rfl rfl (.no rfl) pk sH rfl (VR.ofV (V_pickF rfl (dec_f h2776) rfl)) ?_
    refine DH_take (v := .bool false) 15 (by kernel_rfl) rfl rfl (.no rfl) pk sH rfl (VR.ofV (V_move rfl)) ?_
    refine DH_skip 16 (by kernel_rfl) rfl rfl (.no rfl rfl rfl rfl (rfl)) pk rfl ?_
    refine DH_skip 17 (by kernel_rfl) rfl rfl (.no rfl rfl rfl rfl (rfl)) pk rfl ?_
    refine DH_skip 18 (by kernel_rfl) rfl rfl (.no rfl rfl rfl rfl (rfl)) pk rfl ?_
    refine DH_skip 19 (by kernel_rfl) rfl rfl (.no rfl rfl rfl rfl (rfl)) pk rfl ?_
    refine DH_skip 20 (by kernel_rfl) rfl rfl (.no rfl rfl rfl rfl (rfl)) pk rfl ?_
    refine DH_skip 21 (by kernel_rfl) rfl rfl (.no rfl rfl rfl rfl (rfl)) pk rfl ?_
    refine DH_skip 22 (by kernel_rfl) rfl rfl (.un rfl rfl rfl rfl) pk rfl ?_
    refine DH_skip 23 (by kernel_rfl) rfl rfl (.un rfl rfl rfl rfl) pk rfl ?_
    refine DH_skip 24 (by kernel_rfl) rfl rfl (.un rfl rfl rfl rfl) pk rfl ?_
    refine DH_skip 25 (by kernel_rfl) rfl rfl (.un rfl rfl rfl rfl) pk rfl ?_
    refine DH_skip 26 (by kernel_rfl) rfl rfl (.un rfl rfl rfl rfl) pk rfl ?_
    refine DH_skip 27 (by kernel_rfl) rfl rfl (.un rfl rfl rfl rfl) pk rfl ?_
    refine DH_skip 28 (by kernel_rfl) rfl rfl (.un rfl rfl rfl rfl) pk rfl ?_
    refine DH_skip 29 (by kernel_rfl) rfl rfl (.no rfl rfl rfl rfl (rfl)) pk rfl ?_
    refine DH_take 30 (by kernel_rfl) rfl rfl (.no rfl) pk sH rfl (VR.ofV (V_pickF rfl (rfl) rfl)) ?_
    refine DH_take (v := .bool false) 31 (by kernel_rfl) rfl rfl (.no rfl) pk sH rfl (VR.ofV (V_assign rfl)) ?_
    refine DH_open dd sH ?_
    refine DN_done (by kernel_rfl) ?_
    have hr_ := Option.some.inj H
    subst hr_
    exact at_normal (St.mk1 (aeq rfl (aeq rfl (aeq rfl (aeq rfl (aeq rfl (aeq rfl aeq0)))))) (Gh.sel [0, 2, 3, 1] rfl rfl))
  rintro e ds As hst2779
  clear H
  have H := Bt854
  clear Bt854
  refine at_normal ?_
  refine SA.of_St hst2779 fun junk => ?_
  refine SA_seq ?_
  refine SA_region ?_
  refine RA_step rfl (OA_v (v := .pointer (some ⟨b0_, 0, none⟩)) rfl (V_move rfl) ?_)
  refine RA_step rfl (OA_v (v := .pointer (some ⟨b0_, 0, none⟩)) rfl (V_nilCheck rfl) ?_)
  refine RA_step rfl (OA_v (v := .pointer (some ((⟨b0_, 0, none⟩ : Addr).add 1))) rfl (V_fieldAddrN (B := ⟨b0_, 0, none⟩) (m := 0) (o := 1) Try.underlying49 rfl nz47 rfl rfl) ?_)
  refine RA_step rfl (OA_r rfl (VR_load_blk (b := b0_) (m := 1) (k := 0) Try.underlying47 rfl rfl rfl rfl) ?_)
  refine RA_step rfl (OA_v (v := .int .i64 (p0.f1.length : Int)) rfl (V_len Try.underlying47 rfl) ?_)
  refine RA_step rfl (OA_v (v := .bool (decide ((p0.f1.length : Int) > 1))) rfl (V_gtr rfl rfl) ?_)
  refine RA_step rfl (OA_v (v := .bool (decide ((p0.f1.length : Int) > 1))) rfl (V_move rfl) ?_)
  obtain ⟨q2780, H, Bq2780⟩ := g_bind H
  refine RA_cut 6 (fun e ds As => St [(0, .pointer (some ⟨b0_, 0, none⟩)), (1, .int .u64 a1), (8, .pointer (some ⟨b3, 0, none⟩)), (11, .pointer (some ⟨b733, 0, none⟩)), (12, .bool t854), (88, .bool q2780)] [Blk b0_ 49 [.string p0.f0, .slice A0_0 p0.f1.length c0_0, .bool p0.f2, .int .u64 p0.f3, .int .u64 p0.f4], Buf k63 63 A0_0 c0_0 p0.f1, Blk b3 54 [.int .u64 0, .int .u64 0, .int .u64 0, .int .u64 0, .slice none 0 0], Blk b733 63 [.int .u64 ((rd p0.f1 (IntKind.i64.wrap ((p0.f1.length : Int) - 1))).f0), .string ((rd p0.f1 (IntKind.i64.wrap ((p0.f1.length : Int) - 1))).f1), .int .u64 ((rd p0.f1 (IntKind.i64.wrap ((p0.f1.length : Int) - 1))).f2)]] e ds As) ?_ ?_
  · by_cases h2781 : (p0.f1.length : Int) > 1
    · replace H := g_ift h2781 H
      refine RA_yesB rfl rfl rfl rfl (dec_t h2781) (OA_v (v := .int .u64 a1) rfl (V_move rfl) ?_)
      refine RA_yesB rfl rfl rfl rfl (dec_t h2781) (OA_v (v := .pointer (some ((⟨b733, 0, none⟩ : Addr).add 2))) rfl (V_fieldAddrN (B := ⟨b733, 0, none⟩) (m := 0) (o := 2) Try.underlying63 rfl nz44 rfl rfl) ?_)
      refine RA_yesB rfl rfl rfl rfl (dec_t h2781) (OA_r rfl (VR_load_blk (b := b733) (m := 2) (k := 3) Try.underlying44 rfl rfl rfl rfl) ?_)
      refine RA_yesB rfl rfl rfl rfl (dec_t h2781) (OA_v (v := .int .i64 a3) rfl (V_move rfl) ?_)
      obtain ⟨r2782, C2783, H⟩ := g_bind H
      refine RA_yesB rfl rfl rfl rfl (dec_t h2781) (OA_callA [] [0, 1, 2, 3] rfl (X_fn (vs := [.int .u64 a1, .int .u64 ((rd p0.f1 (IntKind.i64.wrap ((p0.f1.length : Int) - 1))).f2), .int .i64 a3]) Try.func65 nm65 rfl rfl) rfl (F65.ok (a0 := a1) (a1 := (rd p0.f1 (IntKind.i64.wrap ((p0.f1.length : Int) - 1))).f2) (a2 := a3) C2783) rfl ?_)
      rintro _ _ ⟨rfl, rfl⟩
      refine RA_step rfl (OA_v rfl (V_pickT rfl (dec_t h2781) rfl) ?_)
      have hr_ := Option.some.inj H
      subst hr_
      refine RA_nil ?_
      exact at_normal (St.mk1 (aeq rfl (aeq rfl (aeq rfl (aeq rfl (aeq rfl (aeq rfl aeq0)))))) (Gh.sel [0, 1, 2, 3] rfl rfl))
    replace H := g_iff h2781 H
    refine RA_noB rfl rfl rfl rfl (dec_f h2781) rfl ?_
    refine RA_noB rfl rfl rfl rfl (dec_f h2781) rfl ?_
    refine RA_noB rfl rfl rfl rfl (dec_f h2781) rfl ?_
    refine RA_noB rfl rfl rfl rfl (dec_f h2781) rfl ?_
    refine RA_noB rfl rfl rfl rfl (dec_f h2781) rfl ?_
    refine RA_step rfl (OA_v rfl (V_pickF rfl (dec_f h2781) rfl) ?_)
    have hr_ := Option.some.inj H
    subst hr_
    refine RA_nil ?_
    exact at_normal (St.mk1 (aeq rfl (aeq rfl (aeq rfl (aeq rfl (aeq rfl (aeq rfl aeq0)))))) (Gh.sel [0, 1, 2, 3] rfl rfl))
  rintro e ds As hst2784
  clear H
  have H := Bq2780
  clear Bq2780
  refine RA.of_St rfl hst2784 fun junk => ?_
  refine RA_step rfl (OA_v (v := .bool q2780) rfl (V_assign rfl) ?_)
  refine RA_nil ?_
  refine at_normal ?_
  refine SA_seq ?_
  refine SA_region ?_
  refine RA_step rfl (OA_v (v := .pointer (some ⟨b0_, 0, none⟩)) rfl (V_move rfl) ?_)
  refine RA_step rfl (OA_v (v := .pointer (some ⟨b0_, 0, none⟩)) rfl (V_nilCheck rfl) ?_)
  refine RA_step rfl (OA_v (v := .pointer (some ((⟨b0_, 0, none⟩ : Addr).add 2))) rfl (V_fieldAddrN (B := ⟨b0_, 0, none⟩) (m := 0) (o := 2) Try.underlying49 rfl nz4 rfl rfl) ?_)
  refine RA_step rfl (OA_r rfl (VR_load_blk (b := b0_) (m := 2) (k := 0) Try.underlying4 rfl rfl rfl rfl) ?_)
  refine RA_step rfl (OA_v (v := .bool (!p0.f2)) rfl (V_not rfl) ?_)
  refine RA_step rfl (OA_v (v := .bool (!p0.f2)) rfl (V_move rfl) ?_)
  obtain ⟨q2785, H, Bq2785⟩ := g_bind H
  refine RA_cut 7 (fun e ds As => St [(0, .pointer (some ⟨b0_, 0, none⟩)), (1, .int .u64 a1), (8, .pointer (some ⟨b3, 0, none⟩)), (11, .pointer (some ⟨b733, 0, none⟩)), (12, .bool t854), (13, .bool q2780), (101, .bool q2785)] [Blk b0_ 49 [.string p0.f0, .slice A0_0 p0.f1.length c0_0, .bool p0.f2, .int .u64 p0.f3, .int .u64 p0.f4], Buf k63 63 A0_0 c0_0 p0.f1, Blk b3 54 [.int .u64 0, .int .u64 0, .int .u64 0, .int .u64 0, .slice none 0 0], Blk b733 63 [.int .u64 ((rd p0.f1 (IntKind.i64.wrap ((p0.f1.length : Int) - 1))).f0), .string ((rd p0.f1 (IntKind.i64.wrap ((p0.f1.length : Int) - 1))).f1), .int .u64 ((rd p0.f1 (IntKind.i64.wrap ((p0.f1.length : Int) - 1))).f2)]] e ds As) ?_ ?_
  · by_cases h2786 : (!p0.f2) = true
    · replace H := g_ift h2786 H
      refine RA_noB rfl rfl rfl rfl (h2786) rfl ?_
      refine RA_noB rfl rfl rfl rfl (h2786) rfl ?_
      refine RA_noB rfl rfl rfl rfl (h2786) rfl ?_
      refine RA_noB rfl rfl rfl rfl (h2786) rfl ?_
      refine RA_noB rfl rfl rfl rfl (h2786) rfl ?_
      refine RA_noB rfl rfl rfl rfl (h2786) rfl ?_
      refine RA_step rfl (OA_v rfl (V_pickT rfl (h2786) rfl) ?_)
      have hr_ := Option.some.inj H
      subst hr_
      refine RA_nil ?_
      exact at_normal (St.mk1 (aeq rfl (aeq rfl (aeq rfl (aeq rfl (aeq rfl (aeq rfl (aeq rfl aeq0))))))) (Gh.sel [0, 1, 2, 3] rfl rfl))
    replace H := g_iff h2786 H
    refine RA_yesB rfl rfl rfl rfl (bno h2786) (OA_v (v := .int .u64 a1) rfl (V_move rfl) ?_)
    refine RA_yesB rfl rfl rfl rfl (bno h2786) (OA_v (v := .pointer (some ⟨b0_, 0, none⟩)) rfl (V_move rfl) ?_)
    refine RA_yesB rfl rfl rfl rfl (bno h2786) (OA_v (v := .pointer (some ⟨b0_, 0, none⟩)) rfl (V_nilCheck rfl) ?_)
    refine RA_yesB rfl rfl rfl rfl (bno h2786) (OA_v (v := .pointer (some ((⟨b0_, 0, none⟩ : Addr).add 3))) rfl (V_fieldAddrN (B := ⟨b0_, 0, none⟩) (m := 0) (o := 3) Try.underlying49 rfl nz44 rfl rfl) ?_)
    refine RA_yesB rfl rfl rfl rfl (bno h2786) (OA_r rfl (VR_load_blk (b := b0_) (m := 3) (k := 0) Try.underlying44 rfl rfl rfl rfl) ?_)
    obtain ⟨r2787, C2788, H⟩ := g_bind H
    refine RA_yesB rfl rfl rfl rfl (bno h2786) (OA_callA [] [0, 1, 2, 3] rfl (X_fn (vs := [.int .u64 a1, .int .u64 p0.f3, .int .i64 3000]) Try.func65 nm65 rfl rfl) rfl (F65.ok (a0 := a1) (a1 := p0.f3) (a2 := 3000) C2788) rfl ?_)
    rintro _ _ ⟨rfl, rfl⟩
    refine RA_step rfl (OA_v rfl (V_pickF rfl (bno h2786) rfl) ?_)
    have hr_ := Option.some.inj H
    subst hr_
    refine RA_nil ?_
    exact at_normal (St.mk1 (aeq rfl (aeq rfl (aeq rfl (aeq rfl (aeq rfl (aeq rfl (aeq rfl aeq0))))))) (Gh.sel [0, 1, 2, 3] rfl rfl))
  rintro e ds As hst2789
  clear H
  have H := Bq2785
  clear Bq2785
  refine RA.of_St rfl hst2789 fun junk => ?_
  refine RA_step rfl (OA_v (v := .bool q2785) rfl (V_assign rfl) ?_)
  refine RA_nil ?_
  refine at_normal ?_
  refine SA_seq ?_
  refine SA_seq ?_
  refine SA_region ?_
  refine RA_step rfl (OA_v (v := .bool t854) rfl (V_move rfl) ?_)
  refine RA_step rfl (OA_v (v := .bool (!t854)) rfl (V_not rfl) ?_)
  refine RA_step rfl (OA_v (v := .bool (!t854)) rfl (V_move rfl) ?_)
  obtain ⟨q2790, hq2790, H⟩ := g_lt H
  refine RA_cut 3 (fun e ds As => St [(0, .pointer (some ⟨b0_, 0, none⟩)), (1, .int .u64 a1), (8, .pointer (some ⟨b3, 0, none⟩)), (11, .pointer (some ⟨b733, 0, none⟩)), (12, .bool t854), (14, .bool q2785), (107, .bool q2790)] [Blk b0_ 49 [.string p0.f0, .slice A0_0 p0.f1.length c0_0, .bool p0.f2, .int .u64 p0.f3, .int .u64 p0.f4], Buf k63 63 A0_0 c0_0 p0.f1, Blk b3 54 [.int .u64 0, .int .u64 0, .int .u64 0, .int .u64 0, .slice none 0 0], Blk b733 63 [.int .u64 ((rd p0.f1 (IntKind.i64.wrap ((p0.f1.length : Int) - 1))).f0), .string ((rd p0.f1 (IntKind.i64.wrap ((p0.f1.length : Int) - 1))).f1), .int .u64 ((rd p0.f1 (IntKind.i64.wrap ((p0.f1.length : Int) - 1))).f2)]] e ds As) ?_ ?_
  · by_cases h2791 : (!t854) = true
    · refine RA_yesB rfl rfl rfl rfl (h2791) (OA_v (v := .bool q2780) rfl (V_move rfl) ?_)
      refine RA_yesB rfl rfl rfl rfl (h2791) (OA_v (v := .bool (!q2780)) rfl (V_not rfl) ?_)
      refine RA_step rfl (OA_v rfl (V_pickT rfl (h2791) rfl) ?_)
      refine RA_nil ?_
      exact at_normal (St.mk1 (aeq rfl (aeq rfl (aeq rfl (aeq rfl (aeq rfl (aeq rfl (aeq (congrArg Value.bool (and_t hq2790 (h2791))) aeq0))))))) (Gh.sel [0, 1, 2, 3] rfl rfl))
    refine RA_noB rfl rfl rfl rfl (bno h2791) rfl ?_
    refine RA_noB rfl rfl rfl rfl (bno h2791) rfl ?_
    refine RA_step rfl (OA_v rfl (V_pickF rfl (bno h2791) rfl) ?_)
    refine RA_nil ?_
    exact at_normal (St.mk1 (aeq rfl (aeq rfl (aeq rfl (aeq rfl (aeq rfl (aeq rfl (aeq (congrArg Value.bool (and_f hq2790 (bno h2791))) aeq0))))))) (Gh.sel [0, 1, 2, 3] rfl rfl))
  rintro e ds As hst2792
  refine RA.of_St rfl hst2792 fun junk => ?_
  refine RA_step rfl (OA_v (v := .bool q2790) rfl (V_move rfl) ?_)
  obtain ⟨q2793, hq2793, H⟩ := g_lt H
  refine RA_cut 3 (fun e ds As => St [(0, .pointer (some ⟨b0_, 0, none⟩)), (1, .int .u64 a1), (8, .pointer (some ⟨b3, 0, none⟩)), (11, .pointer (some ⟨b733, 0, none⟩)), (12, .bool t854), (111, .bool q2793)] [Blk b0_ 49 [.string p0.f0, .slice A0_0 p0.f1.length c0_0, .bool p0.f2, .int .u64 p0.f3, .int .u64 p0.f4], Buf k63 63 A0_0 c0_0 p0.f1, Blk b3 54 [.int .u64 0, .int .u64 0, .int .u64 0, .int .u64 0, .slice none 0 0], Blk b733 63 [.int .u64 ((rd p0.f1 (IntKind.i64.wrap ((p0.f1.length : Int) - 1))).f0), .string ((rd p0.f1 (IntKind.i64.wrap ((p0.f1.length : Int) - 1))).f1), .int .u64 ((rd p0.f1 (IntKind.i64.wrap ((p0.f1.length : Int) - 1))).f2)]] e ds As) ?_ ?_
  · by_cases h2794 : q2790 = true
    · refine RA_yesB rfl rfl rfl rfl (h2794) (OA_v (v := .bool q2785) rfl (V_move rfl) ?_)
      refine RA_yesB rfl rfl rfl rfl (h2794) (OA_v (v := .bool (!q2785)) rfl (V_not rfl) ?_)
      refine RA_step rfl (OA_v rfl (V_pickT rfl (h2794) rfl) ?_)
      refine RA_nil ?_
      exact at_normal (St.mk1 (aeq rfl (aeq rfl (aeq rfl (aeq rfl (aeq rfl (aeq (congrArg Value.bool (and_t hq2793 (h2794))) aeq0)))))) (Gh.sel [0, 1, 2, 3] rfl rfl))
    refine RA_noB rfl rfl rfl rfl (bno h2794) rfl ?_
    refine RA_noB rfl rfl rfl rfl (bno h2794) rfl ?_
    refine RA_step rfl (OA_v rfl (V_pickF rfl (bno h2794) rfl) ?_)
    refine RA_nil ?_
    exact at_normal (St.mk1 (aeq rfl (aeq rfl (aeq rfl (aeq rfl (aeq rfl (aeq (congrArg Value.bool (and_f hq2793 (bno h2794))) aeq0)))))) (Gh.sel [0, 1, 2, 3] rfl rfl))
  rintro e ds As hst2795
  refine RA_nil ?_
  refine at_normal ?_
  refine SA.of_St hst2795 fun junk => ?_
  by_cases h2796 : q2793 = true
  · replace H := g_ift h2796 H
    refine SA_condTb rfl h2796 ?_
    refine SA_seq ?_
    refine SA_region ?_
    refine RA_step rfl (OA_v (v := .pointer (some ⟨b0_, 0, none⟩)) rfl (V_move rfl) ?_)
    refine RA_step rfl (OA_v (v := .int .u64 a1) rfl (V_move rfl) ?_)
    refine RA_step rfl (OA_v (v := .pointer (some ⟨b0_, 0, none⟩)) rfl (V_nilCheck rfl) ?_)
    refine RA_step rfl (OA_v (v := .pointer (some ((⟨b0_, 0, none⟩ : Addr).add 4))) rfl (V_fieldAddrN (B := ⟨b0_, 0, none⟩) (m := 0) (o := 4) Try.underlying49 rfl nz44 rfl rfl) ?_)
    refine RA_step rfl (OA_st (b := b0_) (m := 4) (k := 0) (vs := [.int .u64 a1]) (cs' := [.string p0.f0, .slice A0_0 p0.f1.length c0_0, .bool p0.f2, .int .u64 p0.f3, .int .u64 a1]) rfl rfl rfl rfl rfl rfl sz44 rfl rfl ?_)
    refine RA_nil ?_
    refine at_normal ?_
    refine SA_seq ?_
    refine SA_region ?_
    refine RA_step rfl (OA_v (v := .agg #[.int .u64 0, .int .u64 0, .int .u64 0, .int .u64 0, .slice none 0 0]) rfl (V_build (cells := [.int .u64 0, .int .u64 0, .int .u64 0, .int .u64 0, .slice none 0 0]) zero54 Try.underlying54 plc54 (by kernel_rfl)) ?_)
    refine RA_step rfl (OA_st (b := b3) (m := 0) (k := 2) (vs := [.int .u64 0, .int .u64 0, .int .u64 0, .int .u64 0, .slice none 0 0]) (cs' := [.int .u64 0, .int .u64 0, .int .u64 0, .int .u64 0, .slice none 0 0]) rfl rfl rfl rfl rfl rfl sz54 rfl rfl ?_)
    refine RA_step rfl (OA_v (v := .bool false) rfl (V_assign rfl) ?_)
    refine RA_step rfl (OA_v (v := .int .i64 0) rfl (V_assign rfl) ?_)
    refine RA_nil ?_
    refine at_normal ?_
    refine SA_ret ?_
    refine thn_ret ?_
    have hr_ := Option.some.inj H
    subst hr_
    exact BQ_RL (rs := [.cell 8 54, .tmp 9, .tmp 10]) (vs := [.agg #[.int .u64 0, .int .u64 0, .int .u64 0, .int .u64 0, .slice none 0 0], .bool false, .int .i64 0]) [Buf (Kd.int .u8) 5 none 0 ([] : (List Int)), Blk b0_ 49 [.string p0.f0, .slice A0_0 p0.f1.length c0_0, .bool p0.f2, .int .u64 p0.f3, .int .u64 a1], Buf k63 63 A0_0 c0_0 p0.f1] rfl ⟨RV.cell (k := 2) rfl rfl Try.underlying54 rfl sz54, RV.tmp rfl, RV.tmp rfl, trivial⟩ rfl ((Gh.nilBuf (Kd.int .u8) 5).trans (Gh.sel [4, 0, 1] rfl rfl)) ⟨none, 0, A0_0, c0_0, rfl, rfl⟩
  replace H := g_iff h2796 H
  refine SA_condFb rfl h2796 ?_
  refine SA_skip ?_
  refine at_normal ?_
  refine SA_seq ?_
  refine SA_region ?_
  refine RA_step rfl (OA_v (v := .pointer (some ⟨b0_, 0, none⟩)) rfl (V_move rfl) ?_)
  refine RA_step rfl (OA_v (v := .pointer (some ⟨b0_, 0, none⟩)) rfl (V_nilCheck rfl) ?_)
  refine RA_step rfl (OA_v (v := .pointer (some ((⟨b0_, 0, none⟩ : Addr).add 1))) rfl (V_fieldAddrN (B := ⟨b0_, 0, none⟩) (m := 0) (o := 1) Try.underlying49 rfl nz47 rfl rfl) ?_)
  refine RA_step rfl (OA_r rfl (VR_load_blk (b := b0_) (m := 1) (k := 0) Try.underlying47 rfl rfl rfl rfl) ?_)
  refine RA_step rfl (OA_v (v := .slice A0_0 p0.f1.length c0_0) rfl (V_assign rfl) ?_)
  refine RA_nil ?_
  refine at_normal ?_
  refine SA_seq ?_
  refine SA_seq ?_
  refine SA_region ?_
  refine RA_step rfl (OA_v (v := .bool t854) rfl (V_move rfl) ?_)
  refine RA_nil ?_
  refine at_normal ?_
  by_cases h2798 : t854 = true
  · replace H := g_ift h2798 H
    refine SA_condTb rfl h2798 ?_
    obtain ⟨t2799, H, Bt2799⟩ := g_bind H
    refine SA_mid (fun e ds As => ∃ (A2800 : Option Addr) (c2801 : Nat), St [(0, .pointer (some ⟨b0_, 0, none⟩)), (1, .int .u64 a1), (8, .pointer (some ⟨b3, 0, none⟩)), (15, .slice A2800 t2799.length c2801)] [Buf k63 63 A2800 c2801 t2799, Blk b0_ 49 [.string p0.f0, .slice A0_0 p0.f1.length c0_0, .bool p0.f2, .int .u64 p0.f3, .int .u64 p0.f4], Buf k63 63 A0_0 c0_0 p0.f1, Blk b3 54 [.int .u64 0, .int .u64 0, .int .u64 0, .int .u64 0, .slice none 0 0]] e ds As) ?_ ?_
    · refine SA_drawHq (1 :: 2 :: 3 :: 4 :: 6 :: 7 :: 8 :: 9 :: 10 :: 11 :: 12 :: 13 :: 16 :: []) (List.toArray ([] :: [] :: [1] :: [1, 2] :: [1, 2, 3] :: [1, 2, 3, 4] :: [] :: [6] :: [6, 7] :: [] :: [9] :: [9, 10] :: [9, 10, 11] :: [6, 7, 8, 9, 10, 11, 12] :: [6, 7, 8, 9, 10, 11, 12, 13] :: [1, 2, 3, 4, 6, 7, 8, 9, 10, 11, 12, 13] :: [1, 2, 3, 4, 6, 7, 8, 9, 10, 11, 12, 13] :: [])) [0, 3] [1, 2] mixed rfl rfl rfl (PanOk.thn (PanOk.thn PanOk.body)) fun I0 hS h0 hh0 w0 sH dd pk => ?_
      refine DH_take (v := .pointer (some ⟨b0_, 0, none⟩)) 1 (by kernel_rfl) rfl rfl (.no rfl) pk sH rfl (VR.ofV (V_move rfl)) ?_
      refine DH_take (v := .pointer (some ⟨b0_, 0, none⟩)) 2 (by kernel_rfl) rfl rfl (.no rfl) pk sH rfl (VR.ofV (V_nilCheck rfl)) ?_
      refine DH_take (v := .pointer (some ((⟨b0_, 0, none⟩ : Addr).add 1))) 3 (by kernel_rfl) rfl rfl (.no rfl) pk sH rfl (VR.ofV (V_fieldAddrN (B := ⟨b0_, 0, none⟩) (m := 0) (o := 1) Try.underlying49 rfl nz47 rfl rfl)) ?_
      refine DH_take 4 (by kernel_rfl) rfl rfl (.no rfl) pk sH rfl (VR_load_blk (b := b0_) (m := 1) (k := 0) Try.underlying47 rfl rfl rfl rfl) ?_
      refine DH_take (v := .pointer (some ⟨b733, 0, none⟩)) 6 (by kernel_rfl) rfl rfl (.no rfl) pk sH rfl (VR.ofV (V_fieldAddrN (B := ⟨b733, 0, none⟩) (m := 0) (o := 0) Try.underlying63 rfl nz44 rfl rfl)) ?_
      refine DH_take 7 (by kernel_rfl) rfl rfl (.no rfl) pk sH rfl (VR_load_blk (b := b733) (m := 0) (k := 1) Try.underlying44 rfl rfl rfl rfl) ?_
      refine DH_take (v := .int .u64 (IntKind.u64.wrap (((rd p0.f1 (IntKind.i64.wrap ((p0.f1.length : Int) - 1))).f0) + 1))) 8 (by kernel_rfl) rfl rfl (.no rfl) pk sH rfl (VR.ofV (V_add rfl rfl)) ?_
      refine DH_take (v := .pointer (some ⟨b0_, 0, none⟩)) 9 (by kernel_rfl) rfl rfl (.no rfl) pk sH rfl (VR.ofV (V_move rfl)) ?_
      refine DH_take (v := .pointer (some ⟨b0_, 0, none⟩)) 10 (by kernel_rfl) rfl rfl (.no rfl) pk sH rfl (VR.ofV (V_nilCheck rfl)) ?_
      refine DH_take (v := .pointer (some ⟨b0_, 0, none⟩)) 11 (by kernel_rfl) rfl rfl (.no rfl) pk sH rfl (VR.ofV (V_fieldAddrN (B := ⟨b0_, 0, none⟩) (m := 0) (o := 0) Try.underlying49 rfl nz9 rfl rfl)) ?_
      refine DH_take 12 (by kernel_rfl) rfl rfl (.no rfl) pk sH rfl (VR_load_blk (b := b0_) (m := 0) (k := 0) Try.underlying9 rfl rfl rfl rfl) ?_
      refine DH_take (v := .agg #[.int .u64 (IntKind.u64.wrap (((rd p0.f1 (IntKind.i64.wrap ((p0.f1.length : Int) - 1))).f0) + 1)), .string p0.f0, .int .u64 0]) 13 (by kernel_rfl) rfl rfl (.no rfl) pk sH rfl (VR.ofV (V_build (cells := [.int .u64 (IntKind.u64.wrap (((rd p0.f1 (IntKind.i64.wrap ((p0.f1.length : Int) - 1))).f0) + 1)), .string p0.f0, .int .u64 0]) zero63 Try.underlying63 plc63 (by kernel_rfl))) ?_
      obtain ⟨g3104, H⟩ := g_pos H
      obtain ⟨n3107, hn3107, H⟩ := g_lt H
      obtain ⟨g3704, H⟩ := g_pos H
      obtain ⟨n3707, hn3707, H⟩ := g_lt H
      refine DH_many (rs := [0, 14]) dd (by kernel_rfl) (by decide) (fal_cons ⟨_, rfl, (.no rfl), ?_⟩ (fal_cons ⟨_, rfl, (.no rfl), ?_⟩ fal_nil))
      · refine id (OA_bs (kd := k63) (zv := (.agg #[.int .u64 0, .string ByteArray.empty, .int .u64 0])) (sz := 3) (cells := []) (xs := ([] : (List S63))) rfl Try.underlying47 zero63 sz63 rfl rfl rfl (by kernel_rfl) rfl rfl (RL_enc enc63 (fun _ _ => rfl) (by kernel_rfl)) fun b2803 => ?_)
        refine DH_many (rs := [5, 14]) dd (by kernel_rfl) (by decide) (fal_cons ⟨_, rfl, (.no rfl), ?_⟩ (fal_cons ⟨_, rfl, (.no rfl), ?_⟩ fal_nil))
        · refine id (OA_app (k := 2) (A := some ⟨b2803, 0, none⟩) (c := 0) (xs := ([] : (List S63))) (ys := p0.f1) n3107 hn3107 rfl Try.underlying47 inf63 rfl rfl rfl rfl rfl (Yld.slice Try.underlying47 (Src.buf (k := 0) rfl)) (by omega) (by omega) fun A3105 c3106 => ?_)
          refine DH_one 14 dd (by kernel_rfl) rfl (.no rfl) (OA_bs (kd := k63) (zv := (.agg #[.int .u64 0, .string ByteArray.empty, .int .u64 0])) (sz := 3) (cells := [.int .u64 (IntKind.u64.wrap (((rd p0.f1 (IntKind.i64.wrap ((p0.f1.length : Int) - 1))).f0) + 1)), .string p0.f0, .int .u64 0]) (xs := ([(S63.mk (IntKind.u64.wrap (((rd p0.f1 (IntKind.i64.wrap ((p0.f1.length : Int) - 1))).f0) + 1)) p0.f0 0)] : (List S63))) rfl Try.underlying47 zero63 sz63 rfl rfl rfl (by kernel_rfl) rfl rfl (RL_enc enc63 (fun _ _ => rfl) (by kernel_rfl)) fun b3643 => ?_)
          refine DH_one 15 dd (by kernel_rfl) rfl (.no rfl) (OA_app (k := 2) (A := A3105) (c := c3106) (xs := n3107) (ys := ([(S63.mk (IntKind.u64.wrap (((rd p0.f1 (IntKind.i64.wrap ((p0.f1.length : Int) - 1))).f0) + 1)) p0.f0 0)] : (List S63))) n3707 hn3707 rfl Try.underlying47 inf63 rfl rfl rfl rfl rfl (Yld.slice Try.underlying47 (Src.buf (k := 3) rfl)) (by omega) (by omega) fun A3705 c3706 => ?_)
          refine DH_take (v := .slice A3705 n3707.length c3706) 16 (by kernel_rfl) rfl rfl (.no rfl) pk sH rfl (VR.ofV (V_assign rfl)) ?_
          refine DH_open dd sH ?_
          refine DN_done (by kernel_rfl) ?_
          have hr_ := Option.some.inj H
          subst hr_
          exact at_normal ⟨A3705, c3706, St.mk1 (aeq rfl (aeq rfl (aeq rfl (aeq rfl aeq0)))) (Gh.sel [4, 0, 2, 3] rfl rfl)⟩
        refine id (OA_bs (kd := k63) (zv := (.agg #[.int .u64 0, .string ByteArray.empty, .int .u64 0])) (sz := 3) (cells := [.int .u64 (IntKind.u64.wrap (((rd p0.f1 (IntKind.i64.wrap ((p0.f1.length : Int) - 1))).f0) + 1)), .string p0.f0, .int .u64 0]) (xs := ([(S63.mk (IntKind.u64.wrap (((rd p0.f1 (IntKind.i64.wrap ((p0.f1.length : Int) - 1))).f0) + 1)) p0.f0 0)] : (List S63))) rfl Try.underlying47 zero63 sz63 rfl rfl rfl (by kernel_rfl) rfl rfl (RL_enc enc63 (fun _ _ => rfl) (by kernel_rfl)) fun b3643 => ?_)
        refine DH_one 5 dd (by kernel_rfl) rfl (.no rfl) (OA_app (k := 2) (A := some ⟨b2803, 0, none⟩) (c := 0) (xs := ([] : (List S63))) (ys := p0.f1) n3107 hn3107 rfl Try.underlying47 inf63 rfl rfl rfl rfl rfl (Yld.slice Try.underlying47 (Src.buf (k := 0) rfl)) (by omega) (by omega) fun A3105 c3106 => ?_)
        refine DH_one 15 dd (by kernel_rfl) rfl (.no rfl) (OA_app (k := 2) (A := A3105) (c := c3106) (xs := n3107) (ys := ([(S63.mk (IntKind.u64.wrap (((rd p0.f1 (IntKind.i64.wrap ((p0.f1.length : Int) - 1))).f0) + 1)) p0.f0 0)] : (List S63))) n3707 hn3707 rfl Try.underlying47 inf63 rfl rfl rfl rfl rfl (Yld.slice Try.underlying47 (Src.buf (k := 3) rfl)) (by omega) (by omega) fun A3705 c3706 => ?_)
        refine DH_take (v := .slice A3705 n3707.length c3706) 16 (by kernel_rfl) rfl rfl (.no rfl) pk sH rfl (VR.ofV (V_assign rfl)) ?_
        refine DH_open dd sH ?_
        refine DN_done (by kernel_rfl) ?_
        have hr_ := Option.some.inj H
        subst hr_
        exact at_normal ⟨A3705, c3706, St.mk1 (aeq rfl (aeq rfl (aeq rfl (aeq rfl aeq0)))) (Gh.sel [4, 0, 2, 3] rfl rfl)⟩
      refine id (OA_bs (kd := k63) (zv := (.agg #[.int .u64 0, .string ByteArray.empty, .int .u64 0])) (sz := 3) (cells := [.int .u64 (IntKind.u64.wrap (((rd p0.f1 (IntKind.i64.wrap ((p0.f1.length : Int) - 1))).f0) + 1)), .string p0.f0, .int .u64 0]) (xs := ([(S63.mk (IntKind.u64.wrap (((rd p0.f1 (IntKind.i64.wrap ((p0.f1.length : Int) - 1))).f0) + 1)) p0.f0 0)] : (List S63))) rfl Try.underlying47 zero63 sz63 rfl rfl rfl (by kernel_rfl) rfl rfl (RL_enc enc63 (fun _ _ => rfl) (by kernel_rfl)) fun b3643 => ?_)
      refine DH_one 0 dd (by kernel_rfl) rfl (.no rfl) (OA_bs (kd := k63) (zv := (.agg #[.int .u64 0, .string ByteArray.empty, .int .u64 0])) (sz := 3) (cells := []) (xs := ([] : (List S63))) rfl Try.underlying47 zero63 sz63 rfl rfl rfl (by kernel_rfl) rfl rfl (RL_enc enc63 (fun _ _ => rfl) (by kernel_rfl)) fun b2803 => ?_)
      refine DH_one 5 dd (by kernel_rfl) rfl (.no rfl) (OA_app (k := 3) (A := some ⟨b2803, 0, none⟩) (c := 0) (xs := ([] : (List S63))) (ys := p0.f1) n3107 hn3107 rfl Try.underlying47 inf63 rfl rfl rfl rfl rfl (Yld.slice Try.underlying47 (Src.buf (k := 0) rfl)) (by omega) (by omega) fun A3105 c3106 => ?_)
      refine DH_one 15 dd (by kernel_rfl) rfl (.no rfl) (OA_app (k := 3) (A := A3105) (c := c3106) (xs := n3107) (ys := ([(S63.mk (IntKind.u64.wrap (((rd p0.f1 (IntKind.i64.wrap ((p0.f1.length : Int) - 1))).f0) + 1)) p0.f0 0)] : (List S63))) n3707 hn3707 rfl Try.underlying47 inf63 rfl rfl rfl rfl rfl (Yld.slice Try.underlying47 (Src.buf (k := 2) rfl)) (by omega) (by omega) fun A3705 c3706 => ?_)
      refine DH_take (v := .slice A3705 n3707.length c3706) 16 (by kernel_rfl) rfl rfl (.no rfl) pk sH rfl (VR.ofV (V_assign rfl)) ?_
      refine DH_open dd sH ?_
      refine DN_done (by kernel_rfl) ?_
      have hr_ := Option.some.inj H
      subst hr_
      exact at_normal ⟨A3705, c3706, St.mk1 (aeq rfl (aeq rfl (aeq rfl (aeq rfl aeq0)))) (Gh.sel [5, 0, 2, 3] rfl rfl)⟩
    rintro e ds As ⟨A2800, c2801, hst3824⟩
    clear H
    have H := Bt2799
    clear Bt2799
    refine at_normal ?_
    refine SA.of_St hst3824 fun junk => ?_
    refine SA_seq ?_
    refine SA_drawHq (0 :: 1 :: 2 :: 3 :: 4 :: 5 :: 6 :: 7 :: 8 :: 9 :: 10 :: 12 :: 13 :: 14 :: 15 :: 16 :: []) (List.toArray ([] :: [0] :: [0, 1] :: [0, 1, 2] :: [] :: [] :: [5] :: [5, 6] :: [4, 5, 6, 7] :: [4, 5, 6, 7, 8] :: [4, 5, 6, 7, 8, 9] :: [0, 1, 2, 3, 4, 5, 6, 7, 8, 9, 10] :: [0, 1, 2, 3, 4, 5, 6, 7, 8, 9, 10] :: [0, 1, 2, 3, 4, 5, 6, 7, 8, 9, 10, 12] :: [0, 1, 2, 3, 4, 5, 6, 7, 8, 9, 10, 12] :: (0 :: 1 :: 2 :: 3 :: 4 :: 5 :: 6 :: 7 :: 8 :: 9 :: 10 :: 12 :: 13 :: []) :: (0 :: 1 :: 2 :: 3 :: 4 :: 5 :: 6 :: 7 :: 8 :: 9 :: 10 :: 12 :: 13 :: 14 :: 15 :: []) :: [])) [0] [1, 2, 3] mixed rfl rfl rfl (PanOk.thn PanOk.body) fun I0 hS h0 hh0 w0 sH dd pk => ?_
    refine DH_take (v := .slice A2800 t2799.length c2801) 0 (by kernel_rfl) rfl rfl (.no rfl) pk sH rfl (VR.ofV (V_move rfl)) ?_
    obtain ⟨⟨g3885, g3886⟩, H⟩ := g_pos H
    refine DH_take 1 (by kernel_rfl) rfl rfl (.no rfl) pk sH rfl (VR_index (i := (0 : Int)) Try.underlying47 sz63 rfl rfl (Src.buf (k := 0) rfl) g3885 g3886) ?_
    refine DH_take (v := .pointer (some ((el A2800 ((0 : Int).toNat * 3)).add 1))) 2 (by kernel_rfl) rfl rfl (.no rfl) pk sH rfl (VR.ofV (V_fieldAddrN (B := el A2800 ((0 : Int).toNat * 3)) (m := 0) (o := 1) Try.underlying63 rfl nz9 rfl rfl)) ?_
    refine DH_take 3 (by kernel_rfl) rfl rfl (.no rfl) pk sH rfl (VR_load_el (enc := enc63) (i := (0 : Int)) (j := (0 : Int).toNat * 3) (m := 1) (sz := 3) Try.underlying9 rfl rfl rfl rfl (Src.buf (k := 0) rfl) g3885 g3886 (fun _ _ h => h) rfl) ?_
    refine DH_take (v := .slice A2800 t2799.length c2801) 4 (by kernel_rfl) rfl rfl (.no rfl) pk sH rfl (VR.ofV (V_move rfl)) ?_
    refine DH_take (v := .slice A2800 t2799.length c2801) 5 (by kernel_rfl) rfl rfl (.no rfl) pk sH rfl (VR.ofV (V_move rfl)) ?_
    refine DH_take (v := .int .i64 (t2799.length : Int)) 6 (by kernel_rfl) rfl rfl (.no rfl) pk sH rfl (VR.ofV (V_len Try.underlying47 rfl)) ?_
    refine DH_take (v := .int .i64 (IntKind.i64.wrap ((t2799.length : Int) - 1))) 7 (by kernel_rfl) rfl rfl (.no rfl) pk sH rfl (VR.ofV (V_sub rfl rfl)) ?_
    obtain ⟨⟨g4305, g4306⟩, H⟩ := g_pos H
    refine DH_take 8 (by kernel_rfl) rfl rfl (.no rfl) pk sH rfl (VR_index (i := IntKind.i64.wrap ((t2799.length : Int) - 1)) Try.underlying47 sz63 rfl rfl (Src.buf (k := 0) rfl) g4305 g4306) ?_
    refine DH_take (v := .pointer (some ((el A2800 ((IntKind.i64.wrap ((t2799.length : Int) - 1)).toNat * 3)).add 1))) 9 (by kernel_rfl) rfl rfl (.no rfl) pk sH rfl (VR.ofV (V_fieldAddrN (B := el A2800 ((IntKind.i64.wrap ((t2799.length : Int) - 1)).toNat * 3)) (m := 0) (o := 1) Try.underlying63 rfl nz9 rfl rfl)) ?_
    refine DH_take 10 (by kernel_rfl) rfl rfl (.no rfl) pk sH rfl (VR_load_el (enc := enc63) (i := IntKind.i64.wrap ((t2799.length : Int) - 1)) (j := (IntKind.i64.wrap ((t2799.length : Int) - 1)).toNat * 3) (m := 1) (sz := 3) Try.underlying9 rfl rfl rfl rfl (Src.buf (k := 0) rfl) g4305 g4306 (fun _ _ h => h) rfl) ?_
    obtain ⟨r4485, C4486, H⟩ := g_bind H
    refine DH_one 11 dd (by kernel_rfl) rfl (.no rfl) (OA_callA [] [0, 1, 2] rfl (X_fn (vs := [.string ((rd t2799 (0 : Int)).f1), .string ((rd t2799 (IntKind.i64.wrap ((t2799.length : Int) - 1))).f1)]) Try.func66 nm66 rfl rfl) rfl (F66.ok (a0 := (rd t2799 (0 : Int)).f1) (a1 := (rd t2799 (IntKind.i64.wrap ((t2799.length : Int) - 1))).f1) C4486) rfl ?_)
    rintro _ _ ⟨rfl, rfl⟩
    refine DH_take (v := .tuple #[.string r4485.1, .bool r4485.2]) 12 (by kernel_rfl) rfl rfl (.no rfl) pk sH rfl (VR.ofV (V_move rfl)) ?_
    refine DH_take (v := .string r4485.1) 13 (by kernel_rfl) rfl rfl (.no rfl) pk sH rfl (VR.ofV (V_extract rfl rfl)) ?_
    refine DH_take (v := .bool r4485.2) 14 (by kernel_rfl) rfl rfl (.no rfl) pk sH rfl (VR.ofV (V_extract rfl rfl)) ?_
    refine DH_take (v := .string r4485.1) 15 (by kernel_rfl) rfl rfl (.no rfl) pk sH rfl (VR.ofV (V_assign rfl)) ?_
    refine DH_take (v := .bool r4485.2) 16 (by kernel_rfl) rfl rfl (.no rfl) pk sH rfl (VR.ofV (V_assign rfl)) ?_
    refine DH_open dd sH ?_
    refine DN_done (by kernel_rfl) ?_
    refine at_normal ?_
    refine SA_seq ?_
    refine SA_seq ?_
    refine SA_region ?_
    refine RA_step rfl (OA_v (v := .bool r4485.2) rfl (V_move rfl) ?_)
    refine RA_step rfl (OA_v (v := .bool (!r4485.2)) rfl (V_not rfl) ?_)
    refine RA_nil ?_
    refine at_normal ?_
    by_cases h4846 : (!r4485.2) = true
    · replace H := g_ift h4846 H
      refine SA_condTb rfl h4846 ?_
      refine SA_seq ?_
      refine SA_region ?_
      refine RA_step rfl (OA_v (v := .agg #[.int .u64 0, .int .u64 0, .int .u64 0, .int .u64 0, .slice none 0 0]) rfl (V_build (cells := [.int .u64 0, .int .u64 0, .int .u64 0, .int .u64 0, .slice none 0 0]) zero54 Try.underlying54 plc54 (by kernel_rfl)) ?_)
      refine RA_step rfl (OA_st (b := b3) (m := 0) (k := 3) (vs := [.int .u64 0, .int .u64 0, .int .u64 0, .int .u64 0, .slice none 0 0]) (cs' := [.int .u64 0, .int .u64 0, .int .u64 0, .int .u64 0, .slice none 0 0]) rfl rfl rfl rfl rfl rfl sz54 rfl rfl ?_)
      refine RA_step rfl (OA_v (v := .bool false) rfl (V_assign rfl) ?_)
      refine RA_step rfl (OA_v (v := .int .i64 99) rfl (V_assign rfl) ?_)
      refine RA_nil ?_
      refine at_normal ?_
      refine SA_ret ?_
      refine thn_ret ?_
      have hr_ := Option.some.inj H
      subst hr_
      exact BQ_RL (rs := [.cell 8 54, .tmp 9, .tmp 10]) (vs := [.agg #[.int .u64 0, .int .u64 0, .int .u64 0, .int .u64 0, .slice none 0 0], .bool false, .int .i64 99]) [Buf (Kd.int .u8) 5 none 0 ([] : (List Int)), Blk b0_ 49 [.string p0.f0, .slice A0_0 p0.f1.length c0_0, .bool p0.f2, .int .u64 p0.f3, .int .u64 p0.f4], Buf k63 63 A0_0 c0_0 p0.f1] rfl ⟨RV.cell (k := 3) rfl rfl Try.underlying54 rfl sz54, RV.tmp rfl, RV.tmp rfl, trivial⟩ rfl ((Gh.nilBuf (Kd.int .u8) 5).trans (Gh.sel [4, 1, 2] rfl rfl)) ⟨none, 0, A0_0, c0_0, rfl, rfl⟩
    replace H := g_iff h4846 H
    refine SA_condFb rfl h4846 ?_
    refine SA_skip ?_
    refine at_normal ?_
    refine SA_seq ?_
    refine SA_region ?_
    refine RA_step rfl (OA_v (v := .pointer (some ⟨b0_, 0, none⟩)) rfl (V_move rfl) ?_)
    refine RA_step rfl (OA_v (v := .pointer (some ⟨b0_, 0, none⟩)) rfl (V_move rfl) ?_)
    refine RA_step rfl (OA_v (v := .pointer (some ⟨b0_, 0, none⟩)) rfl (V_move rfl) ?_)
    refine RA_step rfl (OA_v (v := .pointer (some ⟨b0_, 0, none⟩)) rfl (V_move rfl) ?_)
    refine RA_step rfl (OA_v (v := .slice A2800 t2799.length c2801) rfl (V_move rfl) ?_)
    refine RA_step rfl (OA_v (v := .int .u64 a1) rfl (V_move rfl) ?_)
    refine RA_step rfl (OA_v (v := .int .u64 a1) rfl (V_move rfl) ?_)
    refine RA_step rfl (OA_v (v := .pointer (some ⟨b0_, 0, none⟩)) rfl (V_nilCheck rfl) ?_)
    refine RA_step rfl (OA_v (v := .pointer (some ((⟨b0_, 0, none⟩ : Addr).add 1))) rfl (V_fieldAddrN (B := ⟨b0_, 0, none⟩) (m := 0) (o := 1) Try.underlying49 rfl nz47 rfl rfl) ?_)
    refine RA_step rfl (OA_st (b := b0_) (m := 1) (k := 1) (vs := [.slice A2800 t2799.length c2801]) (cs' := [.string p0.f0, .slice A2800 t2799.length c2801, .bool p0.f2, .int .u64 p0.f3, .int .u64 p0.f4]) rfl rfl rfl rfl rfl rfl sz47 rfl rfl ?_)
    refine RA_step rfl (OA_v (v := .pointer (some ⟨b0_, 0, none⟩)) rfl (V_nilCheck rfl) ?_)
    refine RA_step rfl (OA_v (v := .pointer (some ((⟨b0_, 0, none⟩ : Addr).add 2))) rfl (V_fieldAddrN (B := ⟨b0_, 0, none⟩) (m := 0) (o := 2) Try.underlying49 rfl nz4 rfl rfl) ?_)
    refine RA_step rfl (OA_st (b := b0_) (m := 2) (k := 1) (vs := [.bool true]) (cs' := [.string p0.f0, .slice A2800 t2799.length c2801, .bool true, .int .u64 p0.f3, .int .u64 p0.f4]) rfl rfl rfl rfl rfl rfl sz4 rfl rfl ?_)
    refine RA_step rfl (OA_v (v := .pointer (some ⟨b0_, 0, none⟩)) rfl (V_nilCheck rfl) ?_)
    refine RA_step rfl (OA_v (v := .pointer (some ((⟨b0_, 0, none⟩ : Addr).add 3))) rfl (V_fieldAddrN (B := ⟨b0_, 0, none⟩) (m := 0) (o := 3) Try.underlying49 rfl nz44 rfl rfl) ?_)
    refine RA_step rfl (OA_st (b := b0_) (m := 3) (k := 1) (vs := [.int .u64 a1]) (cs' := [.string p0.f0, .slice A2800 t2799.length c2801, .bool true, .int .u64 a1, .int .u64 p0.f4]) rfl rfl rfl rfl rfl rfl sz44 rfl rfl ?_)
    refine RA_step rfl (OA_v (v := .pointer (some ⟨b0_, 0, none⟩)) rfl (V_nilCheck rfl) ?_)
    refine RA_step rfl (OA_v (v := .pointer (some ((⟨b0_, 0, none⟩ : Addr).add 4))) rfl (V_fieldAddrN (B := ⟨b0_, 0, none⟩) (m := 0) (o := 4) Try.underlying49 rfl nz44 rfl rfl) ?_)
    refine RA_step rfl (OA_st (b := b0_) (m := 4) (k := 1) (vs := [.int .u64 a1]) (cs' := [.string p0.f0, .slice A2800 t2799.length c2801, .bool true, .int .u64 a1, .int .u64 a1]) rfl rfl rfl rfl rfl rfl sz44 rfl rfl ?_)
    refine RA_nil ?_
    refine at_normal ?_
    refine SA.of_St (l := [(0, .pointer (some ⟨b0_, 0, none⟩)), (1, .int .u64 a1), (8, .pointer (some ⟨b3, 0, none⟩)), (15, .slice A2800 t2799.length c2801), (16, .string r4485.1)]) (B := [Blk b0_ 49 [.string p0.f0, .slice A2800 t2799.length c2801, .bool true, .int .u64 a1, .int .u64 a1], Buf k63 63 A2800 c2801 t2799, Blk b3 54 [.int .u64 0, .int .u64 0, .int .u64 0, .int .u64 0, .slice none 0 0]]) (St.mk1 (aeq rfl (aeq rfl (aeq rfl (aeq rfl (aeq rfl aeq0))))) (Gh.sel [1, 0, 3] (by kernel_rfl) (by kernel_rfl))) fun junk => ?_
    refine SA_seq ?_
    refine SA_drawHq (0 :: 1 :: 2 :: 3 :: 4 :: 5 :: 6 :: 7 :: 8 :: 9 :: 10 :: 11 :: 12 :: []) (List.toArray ([] :: [0] :: [0, 1] :: [0, 1, 2] :: [] :: [4] :: [4, 5] :: [4, 5, 6] :: [4, 5, 6, 7] :: [4, 5, 6, 7, 8] :: [] :: [0, 1, 2, 3, 4, 5, 6, 7, 8, 9, 10] :: [0, 1, 2, 3, 4, 5, 6, 7, 8, 9, 10, 11] :: (0 :: 1 :: 2 :: 3 :: 4 :: 5 :: 6 :: 7 :: 8 :: 9 :: 10 :: 11 :: 12 :: []) :: [])) [0, 1] [2] mixed rfl rfl rfl (PanOk.thn PanOk.body) fun I0 hS h0 hh0 w0 sH dd pk => ?_
    refine DH_take (v := .pointer (some ⟨b0_, 0, none⟩)) 0 (by kernel_rfl) rfl rfl (.no rfl) pk sH rfl (VR.ofV (V_move rfl)) ?_
    refine DH_take (v := .pointer (some ⟨b0_, 0, none⟩)) 1 (by kernel_rfl) rfl rfl (.no rfl) pk sH rfl (VR.ofV (V_nilCheck rfl)) ?_
    refine DH_take (v := .pointer (some ((⟨b0_, 0, none⟩ : Addr).add 1))) 2 (by kernel_rfl) rfl rfl (.no rfl) pk sH rfl (VR.ofV (V_fieldAddrN (B := ⟨b0_, 0, none⟩) (m := 0) (o := 1) Try.underlying49 rfl nz47 rfl rfl)) ?_
    refine DH_take 3 (by kernel_rfl) rfl rfl (.no rfl) pk sH rfl (VR_load_blk (b := b0_) (m := 1) (k := 0) Try.underlying47 rfl rfl rfl rfl) ?_
    refine DH_take (v := .pointer (some ⟨b0_, 0, none⟩)) 4 (by kernel_rfl) rfl rfl (.no rfl) pk sH rfl (VR.ofV (V_move rfl)) ?_
    refine DH_take (v := .pointer (some ⟨b0_, 0, none⟩)) 5 (by kernel_rfl) rfl rfl (.no rfl) pk sH rfl (VR.ofV (V_nilCheck rfl)) ?_
    refine DH_take (v := .pointer (some ((⟨b0_, 0, none⟩ : Addr).add 1))) 6 (by kernel_rfl) rfl rfl (.no rfl) pk sH rfl (VR.ofV (V_fieldAddrN (B := ⟨b0_, 0, none⟩) (m := 0) (o := 1) Try.underlying49 rfl nz47 rfl rfl)) ?_
    refine DH_take 7 (by kernel_rfl) rfl rfl (.no rfl) pk sH rfl (VR_load_blk (b := b0_) (m := 1) (k := 0) Try.underlying47 rfl rfl rfl rfl) ?_
    refine DH_take (v := .int .i64 (t2799.length : Int)) 8 (by kernel_rfl) rfl rfl (.no rfl) pk sH rfl (VR.ofV (V_len Try.underlying47 rfl)) ?_
    refine DH_take (v := .int .i64 (IntKind.i64.wrap ((t2799.length : Int) - 1))) 9 (by kernel_rfl) rfl rfl (.no rfl) pk sH rfl (VR.ofV (V_sub rfl rfl)) ?_
    refine DH_take (v := .int .u64 a1) 10 (by kernel_rfl) rfl rfl (.no rfl) pk sH rfl (VR.ofV (V_move rfl)) ?_
    obtain ⟨⟨g5508, g5509⟩, H⟩ := g_pos H
    refine DH_take 11 (by kernel_rfl) rfl rfl (.no rfl) pk sH rfl (VR_index (i := IntKind.i64.wrap ((t2799.length : Int) - 1)) Try.underlying47 sz63 rfl rfl (Src.buf (k := 1) rfl) g5508 g5509) ?_
    refine DH_take (v := .pointer (some ((el A2800 ((IntKind.i64.wrap ((t2799.length : Int) - 1)).toNat * 3)).add 2))) 12 (by kernel_rfl) rfl rfl (.no rfl) pk sH rfl (VR.ofV (V_fieldAddrN (B := el A2800 ((IntKind.i64.wrap ((t2799.length : Int) - 1)).toNat * 3)) (m := 0) (o := 2) Try.underlying63 rfl nz44 rfl rfl)) ?_
    refine DH_open dd sH ?_
    obtain ⟨n5628, hn5628, H⟩ := g_lt H
    have hl_n5628 : n5628.length = t2799.length := by rw [hn5628]; exact List.length_set
    refine DN_one 13 (by kernel_rfl) rfl rfl (.no rfl) (OA_stEl (k := 1) (i := IntKind.i64.wrap ((t2799.length : Int) - 1)) (j := (IntKind.i64.wrap ((t2799.length : Int) - 1)).toNat * 3) (m := 2) (sz := 3) (xs := t2799) (vs := [.int .u64 a1]) (S63.mk ((rd t2799 (IntKind.i64.wrap ((t2799.length : Int) - 1))).f0) ((rd t2799 (IntKind.i64.wrap ((t2799.length : Int) - 1))).f1) a1) rfl rfl rfl rfl rfl rfl rfl rfl sz44 g5508 g5509 rfl (fun _ _ h_ => by subst h_; rfl) ?_)
    rewrite [← hn5628]
    try rewrite [← hl_n5628]
    refine DN_done (by kernel_rfl) ?_
    refine at_normal ?_
    refine SA_seq ?_
    refine SA_drawHq (0 :: 1 :: 2 :: 3 :: 4 :: 5 :: 6 :: 7 :: 8 :: 9 :: 10 :: 11 :: 12 :: 13 :: 14 :: 15 :: 17 :: 19 :: 20 :: []) (List.toArray ([] :: [0] :: [0, 1] :: [0, 1, 2] :: [] :: [] :: [5] :: [5, 6] :: [4, 5, 6, 7] :: [4, 5, 6, 7, 8] :: [4, 5, 6, 7, 8, 9] :: [] :: [11] :: [11, 12] :: [11, 12, 13] :: [] :: [15] :: (0 :: 1 :: 2 :: 3 :: 4 :: 5 :: 6 :: 7 :: 8 :: 9 :: 10 :: 11 :: 12 :: 13 :: 14 :: 15 :: []) :: (0 :: 1 :: 2 :: 3 :: 4 :: 5 :: 6 :: 7 :: 8 :: 9 :: 10 :: 11 :: 12 :: 13 :: 14 :: 15 :: 17 :: []) :: (0 :: 1 :: 2 :: 3 :: 4 :: 5 :: 6 :: 7 :: 8 :: 9 :: 10 :: 11 :: 12 :: 13 :: 14 :: 15 :: 17 :: []) :: (0 :: 1 :: 2 :: 3 :: 4 :: 5 :: 6 :: 7 :: 8 :: 9 :: 10 :: 11 :: 12 :: 13 :: 14 :: 15 :: 17 :: 19 :: []) :: [])) [1] [0, 2] mixed rfl rfl rfl (PanOk.thn PanOk.body) fun I0 hS h0 hh0 w0 sH dd pk => ?_
    refine DH_take (v := .slice A2800 n5628.length c2801) 0 (by kernel_rfl) rfl rfl (.no rfl) pk sH rfl (VR.ofV (V_move rfl)) ?_
    obtain ⟨⟨g5749, g5750⟩, H⟩ := g_pos H
    refine DH_take 1 (by kernel_rfl) rfl rfl (.no rfl) pk sH rfl (VR_index (i := (0 : Int)) Try.underlying47 sz63 rfl rfl (Src.buf (k := 0) rfl) g5749 g5750) ?_
    refine DH_take (v := .pointer (some ((el A2800 ((0 : Int).toNat * 3)).add 0))) 2 (by kernel_rfl) rfl rfl (.no rfl) pk sH rfl (VR.ofV (V_fieldAddrN (B := el A2800 ((0 : Int).toNat * 3)) (m := 0) (o := 0) Try.underlying63 rfl nz44 rfl rfl)) ?_
    refine DH_take 3 (by kernel_rfl) rfl rfl (.no rfl) pk sH rfl (VR_load_el (enc := enc63) (i := (0 : Int)) (j := (0 : Int).toNat * 3) (m := 0) (sz := 3) Try.underlying44 rfl rfl rfl rfl (Src.buf (k := 0) rfl) g5749 g5750 (fun _ _ h => h) rfl) ?_
    refine DH_take (v := .slice A2800 n5628.length c2801) 4 (by kernel_rfl) rfl rfl (.no rfl) pk sH rfl (VR.ofV (V_move rfl)) ?_
    refine DH_take (v := .slice A2800 n5628.length c2801) 5 (by kernel_rfl) rfl rfl (.no rfl) pk sH rfl (VR.ofV (V_move rfl)) ?_
    refine DH_take (v := .int .i64 (n5628.length : Int)) 6 (by kernel_rfl) rfl rfl (.no rfl) pk sH rfl (VR.ofV (V_len Try.underlying47 rfl)) ?_
    refine DH_take (v := .int .i64 (IntKind.i64.wrap ((n5628.length : Int) - 1))) 7 (by kernel_rfl) rfl rfl (.no rfl) pk sH rfl (VR.ofV (V_sub rfl rfl)) ?_
    obtain ⟨⟨g6169, g6170⟩, H⟩ := g_pos H
    refine DH_take 8 (by kernel_rfl) rfl rfl (.no rfl) pk sH rfl (VR_index (i := IntKind.i64.wrap ((n5628.length : Int) - 1)) Try.underlying47 sz63 rfl rfl (Src.buf (k := 0) rfl) g6169 g6170) ?_
    refine DH_take (v := .pointer (some ((el A2800 ((IntKind.i64.wrap ((n5628.length : Int) - 1)).toNat * 3)).add 0))) 9 (by kernel_rfl) rfl rfl (.no rfl) pk sH rfl (VR.ofV (V_fieldAddrN (B := el A2800 ((IntKind.i64.wrap ((n5628.length : Int) - 1)).toNat * 3)) (m := 0) (o := 0) Try.underlying63 rfl nz44 rfl rfl)) ?_
    refine DH_take 10 (by kernel_rfl) rfl rfl (.no rfl) pk sH rfl (VR_load_el (enc := enc63) (i := IntKind.i64.wrap ((n5628.length : Int) - 1)) (j := (IntKind.i64.wrap ((n5628.length : Int) - 1)).toNat * 3) (m := 0) (sz := 3) Try.underlying44 rfl rfl rfl rfl (Src.buf (k := 0) rfl) g6169 g6170 (fun _ _ h => h) rfl) ?_
    refine DH_take (v := .slice A2800 n5628.length c2801) 11 (by kernel_rfl) rfl rfl (.no rfl) pk sH rfl (VR.ofV (V_move rfl)) ?_
    obtain ⟨⟨g6409, g6410⟩, H⟩ := g_pos H
    refine DH_take 12 (by kernel_rfl) rfl rfl (.no rfl) pk sH rfl (VR_index (i := (0 : Int)) Try.underlying47 sz63 rfl rfl (Src.buf (k := 0) rfl) g6409 g6410) ?_
    refine DH_take (v := .pointer (some ((el A2800 ((0 : Int).toNat * 3)).add 0))) 13 (by kernel_rfl) rfl rfl (.no rfl) pk sH rfl (VR.ofV (V_fieldAddrN (B := el A2800 ((0 : Int).toNat * 3)) (m := 0) (o := 0) Try.underlying63 rfl nz44 rfl rfl)) ?_
    refine DH_take 14 (by kernel_rfl) rfl rfl (.no rfl) pk sH rfl (VR_load_el (enc := enc63) (i := (0 : Int)) (j := (0 : Int).toNat * 3) (m := 0) (sz := 3) Try.underlying44 rfl rfl rfl rfl (Src.buf (k := 0) rfl) g6409 g6410 (fun _ _ h => h) rfl) ?_
    refine DH_take (v := .string r4485.1) 15 (by kernel_rfl) rfl rfl (.no rfl) pk sH rfl (VR.ofV (V_move rfl)) ?_
    obtain ⟨g6653, H⟩ := g_pos H
    obtain ⟨n6652, hn6652, H⟩ := g_lt H
    refine DH_one 16 dd (by kernel_rfl) rfl (.no rfl) (OA_bytesS (s := r4485.1) n6652 hn6652 rfl Try.underlying9 Try.underlying23 Try.underlying5 rfl g6653 fun b6649 c6650 => ?_)
    refine DH_take (v := .agg #[.int .u64 ((rd n5628 (0 : Int)).f0), .int .u64 ((rd n5628 (IntKind.i64.wrap ((n5628.length : Int) - 1))).f0), .int .u64 0, .int .u64 ((rd n5628 (0 : Int)).f0), .slice (some ⟨b6649, 0, none⟩) n6652.length c6650]) 17 (by kernel_rfl) rfl rfl (.no rfl) pk sH rfl (VR.ofV (V_build (cells := [.int .u64 ((rd n5628 (0 : Int)).f0), .int .u64 ((rd n5628 (IntKind.i64.wrap ((n5628.length : Int) - 1))).f0), .int .u64 0, .int .u64 ((rd n5628 (0 : Int)).f0), .slice (some ⟨b6649, 0, none⟩) n6652.length c6650]) zero54 Try.underlying54 plc54 (by kernel_rfl))) ?_
    refine DH_one 18 dd (by kernel_rfl) rfl (.no rfl) (OA_st (b := b3) (m := 0) (k := 1) (vs := [.int .u64 ((rd n5628 (0 : Int)).f0), .int .u64 ((rd n5628 (IntKind.i64.wrap ((n5628.length : Int) - 1))).f0), .int .u64 0, .int .u64 ((rd n5628 (0 : Int)).f0), .slice (some ⟨b6649, 0, none⟩) n6652.length c6650]) (cs' := [.int .u64 ((rd n5628 (0 : Int)).f0), .int .u64 ((rd n5628 (IntKind.i64.wrap ((n5628.length : Int) - 1))).f0), .int .u64 0, .int .u64 ((rd n5628 (0 : Int)).f0), .slice (some ⟨b6649, 0, none⟩) n6652.length c6650]) rfl rfl rfl rfl rfl rfl sz54 rfl rfl ?_)
    refine DH_take (v := .bool true) 19 (by kernel_rfl) rfl rfl (.no rfl) pk sH rfl (VR.ofV (V_assign rfl)) ?_
    refine DH_take (v := .int .i64 0) 20 (by kernel_rfl) rfl rfl (.no rfl) pk sH rfl (VR.ofV (V_assign rfl)) ?_
    refine DH_open dd sH ?_
    refine DN_done (by kernel_rfl) ?_
    refine at_normal ?_
    refine SA_ret ?_
    have hr_ := Option.some.inj H
    subst hr_
    exact BQ_RL (rs := [.cell 8 54, .tmp 9, .tmp 10]) (vs := [.agg #[.int .u64 ((rd n5628 (0 : Int)).f0), .int .u64 ((rd n5628 (IntKind.i64.wrap ((n5628.length : Int) - 1))).f0), .int .u64 0, .int .u64 ((rd n5628 (0 : Int)).f0), .slice (some ⟨b6649, 0, none⟩) n6652.length c6650], .bool true, .int .i64 0]) [Buf (Kd.int .u8) 5 (some ⟨b6649, 0, none⟩) c6650 n6652, Blk b0_ 49 [.string p0.f0, .slice A2800 n5628.length c2801, .bool true, .int .u64 a1, .int .u64 a1], Buf k63 63 A2800 c2801 n5628] rfl ⟨RV.cell (k := 2) rfl rfl Try.underlying54 rfl sz54, RV.tmp rfl, RV.tmp rfl, trivial⟩ rfl (Gh.sel [3, 1, 0] rfl rfl) ⟨some ⟨b6649, 0, none⟩, c6650, A2800, c2801, rfl, rfl⟩
  replace H := g_iff h2798 H
  refine SA_condFb rfl h2798 ?_
  refine SA_skip ?_
  refine at_normal ?_
  refine SA_seq ?_
  refine SA_drawHq (0 :: 1 :: 2 :: 3 :: 4 :: 5 :: 6 :: 7 :: 8 :: 9 :: 10 :: 12 :: 13 :: 14 :: 15 :: 16 :: []) (List.toArray ([] :: [0] :: [0, 1] :: [0, 1, 2] :: [] :: [] :: [5] :: [5, 6] :: [4, 5, 6, 7] :: [4, 5, 6, 7, 8] :: [4, 5, 6, 7, 8, 9] :: [0, 1, 2, 3, 4, 5, 6, 7, 8, 9, 10] :: [0, 1, 2, 3, 4, 5, 6, 7, 8, 9, 10] :: [0, 1, 2, 3, 4, 5, 6, 7, 8, 9, 10, 12] :: [0, 1, 2, 3, 4, 5, 6, 7, 8, 9, 10, 12] :: (0 :: 1 :: 2 :: 3 :: 4 :: 5 :: 6 :: 7 :: 8 :: 9 :: 10 :: 12 :: 13 :: []) :: (0 :: 1 :: 2 :: 3 :: 4 :: 5 :: 6 :: 7 :: 8 :: 9 :: 10 :: 12 :: 13 :: 14 :: 15 :: []) :: [])) [1] [0, 2, 3] mixed rfl rfl rfl (PanOk.thn PanOk.body) fun I0 hS h0 hh0 w0 sH dd pk => ?_
  refine DH_take (v := .slice A0_0 p0.f1.length c0_0) 0 (by kernel_rfl) rfl rfl (.no rfl) pk sH rfl (VR.ofV (V_move rfl)) ?_
  obtain ⟨⟨g7010, g7011⟩, H⟩ := g_pos H
  refine DH_take 1 (by kernel_rfl) rfl rfl (.no rfl) pk sH rfl (VR_index (i := (0 : Int)) Try.underlying47 sz63 rfl rfl (Src.buf (k := 0) rfl) g7010 g7011) ?_
  refine DH_take (v := .pointer (some ((el A0_0 ((0 : Int).toNat * 3)).add 1))) 2 (by kernel_rfl) rfl rfl (.no rfl) pk sH rfl (VR.ofV (V_fieldAddrN (B := el A0_0 ((0 : Int).toNat * 3)) (m := 0) (o := 1) Try.underlying63 rfl nz9 rfl rfl)) ?_
  refine DH_take 3 (by kernel_rfl) rfl rfl (.no rfl) pk sH rfl (VR_load_el (enc := enc63) (i := (0 : Int)) (j := (0 : Int).toNat * 3) (m := 1) (sz := 3) Try.underlying9 rfl rfl rfl rfl (Src.buf (k := 0) rfl) g7010 g7011 (fun _ _ h => h) rfl) ?_
  refine DH_take (v := .slice A0_0 p0.f1.length c0_0) 4 (by kernel_rfl) rfl rfl (.no rfl) pk sH rfl (VR.ofV (V_move rfl)) ?_
  refine DH_take (v := .slice A0_0 p0.f1.length c0_0) 5 (by kernel_rfl) rfl rfl (.no rfl) pk sH rfl (VR.ofV (V_move rfl)) ?_
  refine DH_take (v := .int .i64 (p0.f1.length : Int)) 6 (by kernel_rfl) rfl rfl (.no rfl) pk sH rfl (VR.ofV (V_len Try.underlying47 rfl)) ?_
  refine DH_take (v := .int .i64 (IntKind.i64.wrap ((p0.f1.length : Int) - 1))) 7 (by kernel_rfl) rfl rfl (.no rfl) pk sH rfl (VR.ofV (V_sub rfl rfl)) ?_
  obtain ⟨⟨g7430, g7431⟩, H⟩ := g_pos H
  refine DH_take 8 (by kernel_rfl) rfl rfl (.no rfl) pk sH rfl (VR_index (i := IntKind.i64.wrap ((p0.f1.length : Int) - 1)) Try.underlying47 sz63 rfl rfl (Src.buf (k := 0) rfl) g7430 g7431) ?_
  refine DH_take (v := .pointer (some ((el A0_0 ((IntKind.i64.wrap ((p0.f1.length : Int) - 1)).toNat * 3)).add 1))) 9 (by kernel_rfl) rfl rfl (.no rfl) pk sH rfl (VR.ofV (V_fieldAddrN (B := el A0_0 ((IntKind.i64.wrap ((p0.f1.length : Int) - 1)).toNat * 3)) (m := 0) (o := 1) Try.underlying63 rfl nz9 rfl rfl)) ?_
  refine DH_take 10 (by kernel_rfl) rfl rfl (.no rfl) pk sH rfl (VR_load_el (enc := enc63) (i := IntKind.i64.wrap ((p0.f1.length : Int) - 1)) (j := (IntKind.i64.wrap ((p0.f1.length : Int) - 1)).toNat * 3) (m := 1) (sz := 3) Try.underlying9 rfl rfl rfl rfl (Src.buf (k := 0) rfl) g7430 g7431 (fun _ _ h => h) rfl) ?_
  obtain ⟨r7610, C7611, H⟩ := g_bind H
  refine DH_one 11 dd (by kernel_rfl) rfl (.no rfl) (OA_callA [] [0, 1, 2] rfl (X_fn (vs := [.string ((rd p0.f1 (0 : Int)).f1), .string ((rd p0.f1 (IntKind.i64.wrap ((p0.f1.length : Int) - 1))).f1)]) Try.func66 nm66 rfl rfl) rfl (F66.ok (a0 := (rd p0.f1 (0 : Int)).f1) (a1 := (rd p0.f1 (IntKind.i64.wrap ((p0.f1.length : Int) - 1))).f1) C7611) rfl ?_)
  rintro _ _ ⟨rfl, rfl⟩
  refine DH_take (v := .tuple #[.string r7610.1, .bool r7610.2]) 12 (by kernel_rfl) rfl rfl (.no rfl) pk sH rfl (VR.ofV (V_move rfl)) ?_
  refine DH_take (v := .string r7610.1) 13 (by kernel_rfl) rfl rfl (.no rfl) pk sH rfl (VR.ofV (V_extract rfl rfl)) ?_
  refine DH_take (v := .bool r7610.2) 14 (by kernel_rfl) rfl rfl (.no rfl) pk sH rfl (VR.ofV (V_extract rfl rfl)) ?_
  refine DH_take (v := .string r7610.1) 15 (by kernel_rfl) rfl rfl (.no rfl) pk sH rfl (VR.ofV (V_assign rfl)) ?_
  refine DH_take (v := .bool r7610.2) 16 (by kernel_rfl) rfl rfl (.no rfl) pk sH rfl (VR.ofV (V_assign rfl)) ?_
  refine DH_open dd sH ?_
  refine DN_done (by kernel_rfl) ?_
  refine at_normal ?_
  refine SA_seq ?_
  refine SA_seq ?_
  refine SA_region ?_
  refine RA_step rfl (OA_v (v := .bool r7610.2) rfl (V_move rfl) ?_)
  refine RA_step rfl (OA_v (v := .bool (!r7610.2)) rfl (V_not rfl) ?_)
  refine RA_nil ?_
  refine at_normal ?_
  refine SA.of_St (l := [(0, .pointer (some ⟨b0_, 0, none⟩)), (1, .int .u64 a1), (8, .pointer (some ⟨b3, 0, none⟩)), (15, .slice A0_0 p0.f1.length c0_0), (16, .string r7610.1), (154, .bool (!r7610.2))]) (B := [Blk b0_ 49 [.string p0.f0, .slice A0_0 p0.f1.length c0_0, .bool p0.f2, .int .u64 p0.f3, .int .u64 p0.f4], Buf k63 63 A0_0 c0_0 p0.f1, Blk b3 54 [.int .u64 0, .int .u64 0, .int .u64 0, .int .u64 0, .slice none 0 0]]) (St.mk1 (aeq rfl (aeq rfl (aeq rfl (aeq rfl (aeq rfl (aeq rfl aeq0)))))) (Gh.sel [1, 0, 2] (by kernel_rfl) (by kernel_rfl))) fun junk => ?_
  by_cases h7971 : (!r7610.2) = true
  · replace H := g_ift h7971 H
    refine SA_condTb rfl h7971 ?_
    refine SA_seq ?_
    refine SA_region ?_
    refine RA_step rfl (OA_v (v := .agg #[.int .u64 0, .int .u64 0, .int .u64 0, .int .u64 0, .slice none 0 0]) rfl (V_build (cells := [.int .u64 0, .int .u64 0, .int .u64 0, .int .u64 0, .slice none 0 0]) zero54 Try.underlying54 plc54 (by kernel_rfl)) ?_)
    refine RA_step rfl (OA_st (b := b3) (m := 0) (k := 2) (vs := [.int .u64 0, .int .u64 0, .int .u64 0, .int .u64 0, .slice none 0 0]) (cs' := [.int .u64 0, .int .u64 0, .int .u64 0, .int .u64 0, .slice none 0 0]) rfl rfl rfl rfl rfl rfl sz54 rfl rfl ?_)
    refine RA_step rfl (OA_v (v := .bool false) rfl (V_assign rfl) ?_)
    refine RA_step rfl (OA_v (v := .int .i64 99) rfl (V_assign rfl) ?_)
    refine RA_nil ?_
    refine at_normal ?_
    refine SA_ret ?_
    refine thn_ret ?_
    have hr_ := Option.some.inj H
    subst hr_
    exact BQ_RL (rs := [.cell 8 54, .tmp 9, .tmp 10]) (vs := [.agg #[.int .u64 0, .int .u64 0, .int .u64 0, .int .u64 0, .slice none 0 0], .bool false, .int .i64 99]) [Buf (Kd.int .u8) 5 none 0 ([] : (List Int)), Blk b0_ 49 [.string p0.f0, .slice A0_0 p0.f1.length c0_0, .bool p0.f2, .int .u64 p0.f3, .int .u64 p0.f4], Buf k63 63 A0_0 c0_0 p0.f1] rfl ⟨RV.cell (k := 2) rfl rfl Try.underlying54 rfl sz54, RV.tmp rfl, RV.tmp rfl, trivial⟩ rfl ((Gh.nilBuf (Kd.int .u8) 5).trans (Gh.sel [3, 0, 1] rfl rfl)) ⟨none, 0, A0_0, c0_0, rfl, rfl⟩
  replace H := g_iff h7971 H
  refine SA_condFb rfl h7971 ?_
  refine SA_skip ?_
  refine at_normal ?_
  refine SA_seq ?_
  refine SA_region ?_
  refine RA_step rfl (OA_v (v := .pointer (some ⟨b0_, 0, none⟩)) rfl (V_move rfl) ?_)
  refine RA_step rfl (OA_v (v := .pointer (some ⟨b0_, 0, none⟩)) rfl (V_move rfl) ?_)
  refine RA_step rfl (OA_v (v := .pointer (some ⟨b0_, 0, none⟩)) rfl (V_move rfl) ?_)
  refine RA_step rfl (OA_v (v := .pointer (some ⟨b0_, 0, none⟩)) rfl (V_move rfl) ?_)
  refine RA_step rfl (OA_v (v := .slice A0_0 p0.f1.length c0_0) rfl (V_move rfl) ?_)
  refine RA_step rfl (OA_v (v := .int .u64 a1) rfl (V_move rfl) ?_)
  refine RA_step rfl (OA_v (v := .int .u64 a1) rfl (V_move rfl) ?_)
  refine RA_step rfl (OA_v (v := .pointer (some ⟨b0_, 0, none⟩)) rfl (V_nilCheck rfl) ?_)
  refine RA_step rfl (OA_v (v := .pointer (some ((⟨b0_, 0, none⟩ : Addr).add 1))) rfl (V_fieldAddrN (B := ⟨b0_, 0, none⟩) (m := 0) (o := 1) Try.underlying49 rfl nz47 rfl rfl) ?_)
  refine RA_step rfl (OA_st (b := b0_) (m := 1) (k := 0) (vs := [.slice A0_0 p0.f1.length c0_0]) (cs' := [.string p0.f0, .slice A0_0 p0.f1.length c0_0, .bool p0.f2, .int .u64 p0.f3, .int .u64 p0.f4]) rfl rfl rfl rfl rfl rfl sz47 rfl rfl ?_)
  refine RA_step rfl (OA_v (v := .pointer (some ⟨b0_, 0, none⟩)) rfl (V_nilCheck rfl) ?_)
  refine RA_step rfl (OA_v (v := .pointer (some ((⟨b0_, 0, none⟩ : Addr).add 2))) rfl (V_fieldAddrN (B := ⟨b0_, 0, none⟩) (m := 0) (o := 2) Try.underlying49 rfl nz4 rfl rfl) ?_)
  refine RA_step rfl (OA_st (b := b0_) (m := 2) (k := 0) (vs := [.bool true]) (cs' := [.string p0.f0, .slice A0_0 p0.f1.length c0_0, .bool true, .int .u64 p0.f3, .int .u64 p0.f4]) rfl rfl rfl rfl rfl rfl sz4 rfl rfl ?_)
  refine RA_step rfl (OA_v (v := .pointer (some ⟨b0_, 0, none⟩)) rfl (V_nilCheck rfl) ?_)
  refine RA_step rfl (OA_v (v := .pointer (some ((⟨b0_, 0, none⟩ : Addr).add 3))) rfl (V_fieldAddrN (B := ⟨b0_, 0, none⟩) (m := 0) (o := 3) Try.underlying49 rfl nz44 rfl rfl) ?_)
  refine RA_step rfl (OA_st (b := b0_) (m := 3) (k := 0) (vs := [.int .u64 a1]) (cs' := [.string p0.f0, .slice A0_0 p0.f1.length c0_0, .bool true, .int .u64 a1, .int .u64 p0.f4]) rfl rfl rfl rfl rfl rfl sz44 rfl rfl ?_)
  refine RA_step rfl (OA_v (v := .pointer (some ⟨b0_, 0, none⟩)) rfl (V_nilCheck rfl) ?_)
  refine RA_step rfl (OA_v (v := .pointer (some ((⟨b0_, 0, none⟩ : Addr).add 4))) rfl (V_fieldAddrN (B := ⟨b0_, 0, none⟩) (m := 0) (o := 4) Try.underlying49 rfl nz44 rfl rfl) ?_)
  refine RA_step rfl (OA_st (b := b0_) (m := 4) (k := 0) (vs := [.int .u64 a1]) (cs' := [.string p0.f0, .slice A0_0 p0.f1.length c0_0, .bool true, .int .u64 a1, .int .u64 a1]) rfl rfl rfl rfl rfl rfl sz44 rfl rfl ?_)
  refine RA_nil ?_
  refine at_normal ?_
  refine SA_seq ?_
  refine SA_drawHq (0 :: 1 :: 2 :: 3 :: 4 :: 5 :: 6 :: 7 :: 8 :: 9 :: 10 :: 11 :: 12 :: []) (List.toArray ([] :: [0] :: [0, 1] :: [0, 1, 2] :: [] :: [4] :: [4, 5] :: [4, 5, 6] :: [4, 5, 6, 7] :: [4, 5, 6, 7, 8] :: [] :: [0, 1, 2, 3, 4, 5, 6, 7, 8, 9, 10] :: [0, 1, 2, 3, 4, 5, 6, 7, 8, 9, 10, 11] :: (0 :: 1 :: 2 :: 3 :: 4 :: 5 :: 6 :: 7 :: 8 :: 9 :: 10 :: 11 :: 12 :: []) :: [])) [0, 1] [2] mixed rfl rfl rfl (PanOk.thn PanOk.body) fun I0 hS h0 hh0 w0 sH dd pk => ?_
  refine DH_take (v := .pointer (some ⟨b0_, 0, none⟩)) 0 (by kernel_rfl) rfl rfl (.no rfl) pk sH rfl (VR.ofV (V_move rfl)) ?_
  refine DH_take (v := .pointer (some ⟨b0_, 0, none⟩)) 1 (by kernel_rfl) rfl rfl (.no rfl) pk sH rfl (VR.ofV (V_nilCheck rfl)) ?_
  refine DH_take (v := .pointer (some ((⟨b0_, 0, none⟩ : Addr).add 1))) 2 (by kernel_rfl) rfl rfl (.no rfl) pk sH rfl (VR.ofV (V_fieldAddrN (B := ⟨b0_, 0, none⟩) (m := 0) (o := 1) Try.underlying49 rfl nz47 rfl rfl)) ?_
  refine DH_take 3 (by kernel_rfl) rfl rfl (.no rfl) pk sH rfl (VR_load_blk (b := b0_) (m := 1) (k := 0) Try.underlying47 rfl rfl rfl rfl) ?_
  refine DH_take (v := .pointer (some ⟨b0_, 0, none⟩)) 4 (by kernel_rfl) rfl rfl (.no rfl) pk sH rfl (VR.ofV (V_move rfl)) ?_
  refine DH_take (v := .pointer (some ⟨b0_, 0, none⟩)) 5 (by kernel_rfl) rfl rfl (.no rfl) pk sH rfl (VR.ofV (V_nilCheck rfl)) ?_
  refine DH_take (v := .pointer (some ((⟨b0_, 0, none⟩ : Addr).add 1))) 6 (by kernel_rfl) rfl rfl (.no rfl) pk sH rfl (VR.ofV (V_fieldAddrN (B := ⟨b0_, 0, none⟩) (m := 0) (o := 1) Try.underlying49 rfl nz47 rfl rfl)) ?_
  refine DH_take 7 (by kernel_rfl) rfl rfl (.no rfl) pk sH rfl (VR_load_blk (b := b0_) (m := 1) (k := 0) Try.underlying47 rfl rfl rfl rfl) ?_
  refine DH_take (v := .int .i64 (p0.f1.length : Int)) 8 (by kernel_rfl) rfl rfl (.no rfl) pk sH rfl (VR.ofV (V_len Try.underlying47 rfl)) ?_
  refine DH_take (v := .int .i64 (IntKind.i64.wrap ((p0.f1.length : Int) - 1))) 9 (by kernel_rfl) rfl rfl (.no rfl) pk sH rfl (VR.ofV (V_sub rfl rfl)) ?_
  refine DH_take (v := .int .u64 a1) 10 (by kernel_rfl) rfl rfl (.no rfl) pk sH rfl (VR.ofV (V_move rfl)) ?_
  obtain ⟨⟨g8633, g8634⟩, H⟩ := g_pos H
  refine DH_take 11 (by kernel_rfl) rfl rfl (.no rfl) pk sH rfl (VR_index (i := IntKind.i64.wrap ((p0.f1.length : Int) - 1)) Try.underlying47 sz63 rfl rfl (Src.buf (k := 1) rfl) g8633 g8634) ?_
  refine DH_take (v := .pointer (some ((el A0_0 ((IntKind.i64.wrap ((p0.f1.length : Int) - 1)).toNat * 3)).add 2))) 12 (by kernel_rfl) rfl rfl (.no rfl) pk sH rfl (VR.ofV (V_fieldAddrN (B := el A0_0 ((IntKind.i64.wrap ((p0.f1.length : Int) - 1)).toNat * 3)) (m := 0) (o := 2) Try.underlying63 rfl nz44 rfl rfl)) ?_
  refine DH_open dd sH ?_
  obtain ⟨n8753, hn8753, H⟩ := g_lt H
  have hl_n8753 : n8753.length = p0.f1.length := by rw [hn8753]; exact List.length_set
  refine DN_one 13 (by kernel_rfl) rfl rfl (.no rfl) (OA_stEl (k := 1) (i := IntKind.i64.wrap ((p0.f1.length : Int) - 1)) (j := (IntKind.i64.wrap ((p0.f1.length : Int) - 1)).toNat * 3) (m := 2) (sz := 3) (xs := p0.f1) (vs := [.int .u64 a1]) (S63.mk ((rd p0.f1 (IntKind.i64.wrap ((p0.f1.length : Int) - 1))).f0) ((rd p0.f1 (IntKind.i64.wrap ((p0.f1.length : Int) - 1))).f1) a1) rfl rfl rfl rfl rfl rfl rfl rfl sz44 g8633 g8634 rfl (fun _ _ h_ => by subst h_; rfl) ?_)
  rewrite [← hn8753]
  try rewrite [← hl_n8753]
  refine DN_done (by kernel_rfl) ?_
  refine at_normal ?_
  refine SA.of_St (l := [(8, .pointer (some ⟨b3, 0, none⟩)), (15, .slice A0_0 n8753.length c0_0), (16, .string r7610.1)]) (B := [Blk b0_ 49 [.string p0.f0, .slice A0_0 n8753.length c0_0, .bool true, .int .u64 a1, .int .u64 a1], Buf k63 63 A0_0 c0_0 n8753, Blk b3 54 [.int .u64 0, .int .u64 0, .int .u64 0, .int .u64 0, .slice none 0 0]]) (St.mk1 (aeq rfl (aeq rfl (aeq rfl aeq0))) (Gh.sel [0, 1, 2] (by kernel_rfl) (by kernel_rfl))) fun junk => ?_
  refine SA_seq ?_
  refine SA_drawHq (0 :: 1 :: 2 :: 3 :: 4 :: 5 :: 6 :: 7 :: 8 :: 9 :: 10 :: 11 :: 12 :: 13 :: 14 :: 15 :: 17 :: 19 :: 20 :: []) (List.toArray ([] :: [0] :: [0, 1] :: [0, 1, 2] :: [] :: [] :: [5] :: [5, 6] :: [4, 5, 6, 7] :: [4, 5, 6, 7, 8] :: [4, 5, 6, 7, 8, 9] :: [] :: [11] :: [11, 12] :: [11, 12, 13] :: [] :: [15] :: (0 :: 1 :: 2 :: 3 :: 4 :: 5 :: 6 :: 7 :: 8 :: 9 :: 10 :: 11 :: 12 :: 13 :: 14 :: 15 :: []) :: (0 :: 1 :: 2 :: 3 :: 4 :: 5 :: 6 :: 7 :: 8 :: 9 :: 10 :: 11 :: 12 :: 13 :: 14 :: 15 :: 17 :: []) :: (0 :: 1 :: 2 :: 3 :: 4 :: 5 :: 6 :: 7 :: 8 :: 9 :: 10 :: 11 :: 12 :: 13 :: 14 :: 15 :: 17 :: []) :: (0 :: 1 :: 2 :: 3 :: 4 :: 5 :: 6 :: 7 :: 8 :: 9 :: 10 :: 11 :: 12 :: 13 :: 14 :: 15 :: 17 :: 19 :: []) :: [])) [1] [0, 2] mixed rfl rfl rfl (PanOk.thn PanOk.body) fun I0 hS h0 hh0 w0 sH dd pk => ?_
  refine DH_take (v := .slice A0_0 n8753.length c0_0) 0 (by kernel_rfl) rfl rfl (.no rfl) pk sH rfl (VR.ofV (V_move rfl)) ?_
  obtain ⟨⟨g8874, g8875⟩, H⟩ := g_pos H
  refine DH_take 1 (by kernel_rfl) rfl rfl (.no rfl) pk sH rfl (VR_index (i := (0 : Int)) Try.underlying47 sz63 rfl rfl (Src.buf (k := 0) rfl) g8874 g8875) ?_
  refine DH_take (v := .pointer (some ((el A0_0 ((0 : Int).toNat * 3)).add 0))) 2 (by kernel_rfl) rfl rfl (.no rfl) pk sH rfl (VR.ofV (V_fieldAddrN (B := el A0_0 ((0 : Int).toNat * 3)) (m := 0) (o := 0) Try.underlying63 rfl nz44 rfl rfl)) ?_
  refine DH_take 3 (by kernel_rfl) rfl rfl (.no rfl) pk sH rfl (VR_load_el (enc := enc63) (i := (0 : Int)) (j := (0 : Int).toNat * 3) (m := 0) (sz := 3) Try.underlying44 rfl rfl rfl rfl (Src.buf (k := 0) rfl) g8874 g8875 (fun _ _ h => h) rfl) ?_
  refine DH_take (v := .slice A0_0 n8753.length c0_0) 4 (by kernel_rfl) rfl rfl (.no rfl) pk sH rfl (VR.ofV (V_move rfl)) ?_
  refine DH_take (v := .slice A0_0 n8753.length c0_0) 5 (by kernel_rfl) rfl rfl (.no rfl) pk sH rfl (VR.ofV (V_move rfl)) ?_
  refine DH_take (v := .int .i64 (n8753.length : Int)) 6 (by kernel_rfl) rfl rfl (.no rfl) pk sH rfl (VR.ofV (V_len Try.underlying47 rfl)) ?_
  refine DH_take (v := .int .i64 (IntKind.i64.wrap ((n8753.length : Int) - 1))) 7 (by kernel_rfl) rfl rfl (.no rfl) pk sH rfl (VR.ofV (V_sub rfl rfl)) ?_
  obtain ⟨⟨g9294, g9295⟩, H⟩ := g_pos H
  refine DH_take 8 (by kernel_rfl) rfl rfl (.no rfl) pk sH rfl (VR_index (i := IntKind.i64.wrap ((n8753.length : Int) - 1)) Try.underlying47 sz63 rfl rfl (Src.buf (k := 0) rfl) g9294 g9295) ?_
  refine DH_take (v := .pointer (some ((el A0_0 ((IntKind.i64.wrap ((n8753.length : Int) - 1)).toNat * 3)).add 0))) 9 (by kernel_rfl) rfl rfl (.no rfl) pk sH rfl (VR.ofV (V_fieldAddrN (B := el A0_0 ((IntKind.i64.wrap ((n8753.length : Int) - 1)).toNat * 3)) (m := 0) (o := 0) Try.underlying63 rfl nz44 rfl rfl)) ?_
  refine DH_take 10 (by kernel_rfl) rfl rfl (.no rfl) pk sH rfl (VR_load_el (enc := enc63) (i := IntKind.i64.wrap ((n8753.length : Int) - 1)) (j := (IntKind.i64.wrap ((n8753.length : Int) - 1)).toNat * 3) (m := 0) (sz := 3) Try.underlying44 rfl rfl rfl rfl (Src.buf (k := 0) rfl) g9294 g9295 (fun _ _ h => h) rfl) ?_
  refine DH_take (v := .slice A0_0 n8753.length c0_0) 11 (by kernel_rfl) rfl rfl (.no rfl) pk sH rfl (VR.ofV (V_move rfl)) ?_
  obtain ⟨⟨g9534, g9535⟩, H⟩ := g_pos H
  refine DH_take 12 (by kernel_rfl) rfl rfl (.no rfl) pk sH rfl (VR_index (i := (0 : Int)) Try.underlying47 sz63 rfl rfl (Src.buf (k := 0) rfl) g9534 g9535) ?_
  refine DH_take (v := .pointer (some ((el A0_0 ((0 : Int).toNat * 3)).add 0))) 13 (by kernel_rfl) rfl rfl (.no rfl) pk sH rfl (VR.ofV (V_fieldAddrN (B := el A0_0 ((0 : Int).toNat * 3)) (m := 0) (o := 0) Try.underlying63 rfl nz44 rfl rfl)) ?_
  refine DH_take 14 (by kernel_rfl) rfl rfl (.no rfl) pk sH rfl (VR_load_el (enc := enc63) (i := (0 : Int)) (j := (0 : Int).toNat * 3) (m := 0) (sz := 3) Try.underlying44 rfl rfl rfl rfl (Src.buf (k := 0) rfl) g9534 g9535 (fun _ _ h => h) rfl) ?_
  refine DH_take (v := .string r7610.1) 15 (by kernel_rfl) rfl rfl (.no rfl) pk sH rfl (VR.ofV (V_move rfl)) ?_
  obtain ⟨g9778, H⟩ := g_pos H
  obtain ⟨n9777, hn9777, H⟩ := g_lt H
  refine DH_one 16 dd (by kernel_rfl) rfl (.no rfl) (OA_bytesS (s := r7610.1) n9777 hn9777 rfl Try.underlying9 Try.underlying23 Try.underlying5 rfl g9778 fun b9774 c9775 => ?_)
  refine DH_take (v := .agg #[.int .u64 ((rd n8753 (0 : Int)).f0), .int .u64 ((rd n8753 (IntKind.i64.wrap ((n8753.length : Int) - 1))).f0), .int .u64 0, .int .u64 ((rd n8753 (0 : Int)).f0), .slice (some ⟨b9774, 0, none⟩) n9777.length c9775]) 17 (by kernel_rfl) rfl rfl (.no rfl) pk sH rfl (VR.ofV (V_build (cells := [.int .u64 ((rd n8753 (0 : Int)).f0), .int .u64 ((rd n8753 (IntKind.i64.wrap ((n8753.length : Int) - 1))).f0), .int .u64 0, .int .u64 ((rd n8753 (0 : Int)).f0), .slice (some ⟨b9774, 0, none⟩) n9777.length c9775]) zero54 Try.underlying54 plc54 (by kernel_rfl))) ?_
  refine DH_one 18 dd (by kernel_rfl) rfl (.no rfl) (OA_st (b := b3) (m := 0) (k := 1) (vs := [.int .u64 ((rd n8753 (0 : Int)).f0), .int .u64 ((rd n8753 (IntKind.i64.wrap ((n8753.length : Int) - 1))).f0), .int .u64 0, .int .u64 ((rd n8753 (0 : Int)).f0), .slice (some ⟨b9774, 0, none⟩) n9777.length c9775]) (cs' := [.int .u64 ((rd n8753 (0 : Int)).f0), .int .u64 ((rd n8753 (IntKind.i64.wrap ((n8753.length : Int) - 1))).f0), .int .u64 0, .int .u64 ((rd n8753 (0 : Int)).f0), .slice (some ⟨b9774, 0, none⟩) n9777.length c9775]) rfl rfl rfl rfl rfl rfl sz54 rfl rfl ?_)
  refine DH_take (v := .bool true) 19 (by kernel_rfl) rfl rfl (.no rfl) pk sH rfl (VR.ofV (V_assign rfl)) ?_
  refine DH_take (v := .int .i64 0) 20 (by kernel_rfl) rfl rfl (.no rfl) pk sH rfl (VR.ofV (V_assign rfl)) ?_
  refine DH_open dd sH ?_
  refine DN_done (by kernel_rfl) ?_
  refine at_normal ?_
  refine SA_ret ?_
  have hr_ := Option.some.inj H
  subst hr_
  exact BQ_RL (rs := [.cell 8 54, .tmp 9, .tmp 10]) (vs := [.agg #[.int .u64 ((rd n8753 (0 : Int)).f0), .int .u64 ((rd n8753 (IntKind.i64.wrap ((n8753.length : Int) - 1))).f0), .int .u64 0, .int .u64 ((rd n8753 (0 : Int)).f0), .slice (some ⟨b9774, 0, none⟩) n9777.length c9775], .bool true, .int .i64 0]) [Buf (Kd.int .u8) 5 (some ⟨b9774, 0, none⟩) c9775 n9777, Blk b0_ 49 [.string p0.f0, .slice A0_0 n8753.length c0_0, .bool true, .int .u64 a1, .int .u64 a1], Buf k63 63 A0_0 c0_0 n8753] rfl ⟨RV.cell (k := 2) rfl rfl Try.underlying54 rfl sz54, RV.tmp rfl, RV.tmp rfl, trivial⟩ rfl (Gh.sel [3, 1, 0] rfl rfl) ⟨some ⟨b9774, 0, none⟩, c9775, A0_0, c0_0, rfl, rfl⟩

/-! ### function 16: wayfarer/wayfarerref02.Same -/
def F16b0b1.f (l0 : (List Int)) (l1 : (List Int)) : Option (Bool) := some (decide ((strOf l0) = (strOf l1)))
set_option maxHeartbeats 2000000 in
set_option maxRecDepth 100000 in
theorem F16b0b1.ok {l0 : (List Int)} {l1 : (List Int)} {A0 : Option Addr} {c0 : Nat} {A1 : Option Addr} {c1 : Nat} {r : Bool} (H : F16b0b1.f l0 l1 = some r) : SCA Try.prog 16 #[.slice A0 l0.length c0, .slice A1 l1.length c1] [Buf (Kd.int .u8) 5 A0 c0 l0, Buf (Kd.int .u8) 5 A1 c1 l1] (fun v B => v = .bool r ∧ B = [Buf (Kd.int .u8) 5 A0 c0 l0, Buf (Kd.int .u8) 5 A1 c1 l1]) := by
  refine SCA_of_body Try.func16 rfl rfl ?_
  unfold F16b0b1.f at H
  refine SA_seq ?_
  refine SA_region ?_
  refine RA_step rfl (OA_v (v := .bool false) rfl (V_assign rfl) ?_)
  refine RA_nil ?_
  refine at_normal ?_
  refine SA_seq ?_
  refine SA_region ?_
  refine RA_step rfl (OA_v (v := .slice A0 l0.length c0) rfl (V_move rfl) ?_)
  refine RA_step rfl (OA_r rfl (VR_str Try.underlying23 Try.underlying5 Try.underlying9 rfl (Src.buf (k := 0) rfl)) ?_)
  refine RA_step rfl (OA_v (v := .slice A1 l1.length c1) rfl (V_move rfl) ?_)
  refine RA_step rfl (OA_r rfl (VR_str Try.underlying23 Try.underlying5 Try.underlying9 rfl (Src.buf (k := 1) rfl)) ?_)
  refine RA_step rfl (OA_v (v := .bool (decide ((strOf l0) = (strOf l1)))) rfl (V_eqlS rfl rfl) ?_)
  refine RA_step rfl (OA_v (v := .bool (decide ((strOf l0) = (strOf l1)))) rfl (V_assign rfl) ?_)
  refine RA_nil ?_
  refine at_normal ?_
  refine SA_ret ?_
  have hr_ := Option.some.inj H
  subst hr_
  exact BQ_R1 [Buf (Kd.int .u8) 5 A0 c0 l0, Buf (Kd.int .u8) 5 A1 c1 l1] rfl rfl (Gh.sel [0, 1] rfl rfl) ⟨rfl, rfl⟩
end Go.Proofs.Ytodkeoibebimgaa.Sq

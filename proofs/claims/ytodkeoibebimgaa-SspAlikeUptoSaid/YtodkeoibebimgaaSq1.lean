/- What functions compute, and that they do: 100, 101, 143, 145, 20, 21, 22b0, 23b0, 24b0, 60b0, 61b0, 62, 63b0, 99b0. -/
import Derived.Test.YtodkeoibebimgaaSq0
namespace Go.Proofs.Ytodkeoibebimgaa.Sq
open Go Go.RowKit Go.Proofs.Ytodkeoibebimgaa.SL
set_option linter.unusedVariables false
set_option linter.unusedSimpArgs false
attribute [local irreducible] IntKind.wrap minI maxI shrI shlI andI orI xorI andNotI cplI rd sub bytesOf strOf slA
/-! ### function 143: (wayfarer/wayfarerlaw23.text).Copy -/
def F143.f (a0 : S41) : Option (S41) := some (a0)
set_option maxHeartbeats 2000000 in
set_option maxRecDepth 100000 in
theorem F143.ok {a0 : S41} {r : S41} (H : F143.f a0 = some r) : SCA Try.prog 143 #[.agg #[.string a0.f0]] [] (fun v B => v = .agg #[.string r.f0] ∧ B = []) := by
  refine SCA_of_body Try.func143 rfl rfl ?_
  unfold F143.f at H
  refine SA_seq ?_
  refine SA_region ?_
  refine RA_step rfl (OA_box rfl rfl fun b1 => ?_)
  refine RA_step rfl (OA_alloc rfl zero41 fun b3 => ?_)
  refine RA_nil ?_
  refine at_normal ?_
  refine SA_seq ?_
  refine SA_region ?_
  refine RA_step rfl (OA_r rfl (VR_loadA_blk (b := b1) (m := 0) (k := 0) (vs := [.string a0.f0]) Try.underlying41 rfl sz41 rfl rfl rfl) ?_)
  refine RA_step rfl (OA_st (b := b3) (m := 0) (k := 1) (vs := [.string a0.f0]) (cs' := [.string a0.f0]) rfl rfl rfl rfl rfl rfl sz41 rfl rfl ?_)
  refine RA_nil ?_
  refine at_normal ?_
  refine SA_ret ?_
  have hr_ := Option.some.inj H
  subst hr_
  exact BQ_RL (rs := [.cell 2 41]) (vs := [.agg #[.string a0.f0]]) [] rfl ⟨RV.cell (k := 1) rfl rfl Try.underlying41 rfl sz41, trivial⟩ rfl (Gh.sel [] rfl rfl) ⟨rfl, rfl⟩

/-! ### function 20: wayfarer/ssp.NewSender[wayfarer/wayfarerlaw23.text] -/
def F20.f (a0 : S41) : Option (S131) := (F143.f a0).bind (fun r123 => (F143.f a0).bind (fun r423 => some ((S131.mk ([(S128.mk 0 r123 0)] : (List S128)) r423 0 false 0))))
set_option maxHeartbeats 2000000 in
set_option maxRecDepth 100000 in
theorem F20.ok {a0 : S41} {r : S131} (H : F20.f a0 = some r) : SCA Try.prog 20 #[.agg #[.string a0.f0]] [] (fun v B => ∃ (c0_ : Nat), ∃ (A0_0_ : Option Addr) (c0_0_ : Nat), v = .pointer (some ⟨c0_, 0, none⟩) ∧ B = [Blk c0_ 131 [.slice A0_0_ r.f0.length c0_0_, .string r.f1.f0, .int .u64 r.f2, .bool r.f3, .int .u64 r.f4], Buf k128 128 A0_0_ c0_0_ r.f0]) := by
  refine SCA_of_body Try.func20 rfl rfl ?_
  unfold F20.f at H
  refine SA_seq ?_
  refine SA_region ?_
  refine RA_step rfl (OA_box rfl rfl fun b1 => ?_)
  refine RA_step rfl (OA_v (v := .pointer none) rfl (V_assign rfl) ?_)
  refine RA_nil ?_
  refine at_normal ?_
  refine SA_seq ?_
  refine SA_drawHq [0, 1, 3, 5, 6, 8, 10] #[[], [0], [0, 1], [0, 1], [0, 1, 3], [], [5], [0, 1, 5, 6], [0, 1, 3, 5, 6], [0, 1, 3, 5, 6, 8], [0, 1, 3, 5, 6, 8]] [0] [] mixed rfl rfl rfl (PanOk.thn PanOk.body) fun I0 hS h0 hh0 w0 sH dd pk => ?_
  refine DH_take 0 (by kernel_rfl) rfl rfl (.no rfl) pk sH rfl (VR_loadA_blk (b := b1) (m := 0) (k := 0) (vs := [.string a0.f0]) Try.underlying41 rfl sz41 rfl rfl rfl) ?_
  refine DH_take (v := .iface 41 (.agg #[.string a0.f0])) 1 (by kernel_rfl) rfl rfl (.no rfl) pk sH rfl (VR.ofV (V_iface con41 rfl)) ?_
  refine DH_take 5 (by kernel_rfl) rfl rfl (.no rfl) pk sH rfl (VR_loadA_blk (b := b1) (m := 0) (k := 0) (vs := [.string a0.f0]) Try.underlying41 rfl sz41 rfl rfl rfl) ?_
  refine DH_take (v := .iface 41 (.agg #[.string a0.f0])) 6 (by kernel_rfl) rfl rfl (.no rfl) pk sH rfl (VR.ofV (V_iface con41 rfl)) ?_
  obtain ⟨r123, C124, H⟩ := g_bind H
  refine DH_one 2 dd (by kernel_rfl) rfl (.no rfl) (OA_callA [] [] rfl (X_inv (vs := []) rfl met41_143 Try.func143 nm143 rfl rfl) rfl (F143.ok (a0 := a0) C124) rfl ?_)
  rintro _ _ ⟨rfl, rfl⟩
  refine DH_take (v := .agg #[.int .u64 0, .string r123.f0, .int .u64 0]) 3 (by kernel_rfl) rfl rfl (.no rfl) pk sH rfl (VR.ofV (V_build (cells := [.int .u64 0, .string r123.f0, .int .u64 0]) zero128 Try.underlying128 plc128 (by kernel_rfl))) ?_
  obtain ⟨r423, C424, H⟩ := g_bind H
  refine DH_many (rs := [4, 7]) dd (by kernel_rfl) (by decide) (fal_cons ⟨_, rfl, (.no rfl), ?_⟩ (fal_cons ⟨_, rfl, (.no rfl), ?_⟩ fal_nil))
  · refine id (OA_bs (kd := k128) (zv := (.agg #[.int .u64 0, .string ByteArray.empty, .int .u64 0])) (sz := 3) (cells := [.int .u64 0, .string r123.f0, .int .u64 0]) (xs := ([(S128.mk 0 r123 0)] : (List S128))) rfl Try.underlying129 zero128 sz128 rfl rfl rfl (by kernel_rfl) rfl rfl (RL_enc enc128 (fun _ _ => rfl) (by kernel_rfl)) fun b243 => ?_)
    refine DH_one 7 dd (by kernel_rfl) rfl (.no rfl) (OA_callA [] [0] rfl (X_inv (vs := []) rfl met41_143 Try.func143 nm143 rfl rfl) rfl (F143.ok (a0 := a0) C424) rfl ?_)
    rintro _ _ ⟨rfl, rfl⟩
    refine DH_take (v := .agg #[.slice (some ⟨b243, 0, none⟩) ([(S128.mk 0 r123 0)] : (List S128)).length 1, .string r423.f0, .int .u64 0, .bool false, .int .u64 0]) 8 (by kernel_rfl) rfl rfl (.no rfl) pk sH rfl (VR.ofV (V_build (cells := [.slice (some ⟨b243, 0, none⟩) ([(S128.mk 0 r123 0)] : (List S128)).length 1, .string r423.f0, .int .u64 0, .bool false, .int .u64 0]) zero131 Try.underlying131 plc131 (by kernel_rfl))) ?_
    refine DH_one 9 dd (by kernel_rfl) rfl (.no rfl) (OA_box rfl rfl fun b543 => ?_)
    refine DH_take (v := .pointer (some ⟨b543, 0, none⟩)) 10 (by kernel_rfl) rfl rfl (.no rfl) pk sH rfl (VR.ofV (V_assign rfl)) ?_
    refine DH_open dd sH ?_
    refine DN_done (by kernel_rfl) ?_
    refine at_normal ?_
    refine SA_ret ?_
    have hr_ := Option.some.inj H
    subst hr_
    exact BQ_R1 [Blk b543 131 [.slice (some ⟨b243, 0, none⟩) ([(S128.mk 0 r123 0)] : (List S128)).length 1, .string r423.f0, .int .u64 0, .bool false, .int .u64 0], Buf k128 128 (some ⟨b243, 0, none⟩) 1 ([(S128.mk 0 r123 0)] : (List S128))] rfl rfl (Gh.sel [2, 1] rfl rfl) ⟨b543, some ⟨b243, 0, none⟩, 1, rfl, rfl⟩
  refine id (OA_callA [] [] rfl (X_inv (vs := []) rfl met41_143 Try.func143 nm143 rfl rfl) rfl (F143.ok (a0 := a0) C424) rfl ?_)
  rintro _ _ ⟨rfl, rfl⟩
  refine DH_one 4 dd (by kernel_rfl) rfl (.no rfl) (OA_bs (kd := k128) (zv := (.agg #[.int .u64 0, .string ByteArray.empty, .int .u64 0])) (sz := 3) (cells := [.int .u64 0, .string r123.f0, .int .u64 0]) (xs := ([(S128.mk 0 r123 0)] : (List S128))) rfl Try.underlying129 zero128 sz128 rfl rfl rfl (by kernel_rfl) rfl rfl (RL_enc enc128 (fun _ _ => rfl) (by kernel_rfl)) fun b243 => ?_)
  refine DH_take (v := .agg #[.slice (some ⟨b243, 0, none⟩) ([(S128.mk 0 r123 0)] : (List S128)).length 1, .string r423.f0, .int .u64 0, .bool false, .int .u64 0]) 8 (by kernel_rfl) rfl rfl (.no rfl) pk sH rfl (VR.ofV (V_build (cells := [.slice (some ⟨b243, 0, none⟩) ([(S128.mk 0 r123 0)] : (List S128)).length 1, .string r423.f0, .int .u64 0, .bool false, .int .u64 0]) zero131 Try.underlying131 plc131 (by kernel_rfl))) ?_
  refine DH_one 9 dd (by kernel_rfl) rfl (.no rfl) (OA_box rfl rfl fun b543 => ?_)
  refine DH_take (v := .pointer (some ⟨b543, 0, none⟩)) 10 (by kernel_rfl) rfl rfl (.no rfl) pk sH rfl (VR.ofV (V_assign rfl)) ?_
  refine DH_open dd sH ?_
  refine DN_done (by kernel_rfl) ?_
  refine at_normal ?_
  refine SA_ret ?_
  have hr_ := Option.some.inj H
  subst hr_
  exact BQ_R1 [Blk b543 131 [.slice (some ⟨b243, 0, none⟩) ([(S128.mk 0 r123 0)] : (List S128)).length 1, .string r423.f0, .int .u64 0, .bool false, .int .u64 0], Buf k128 128 (some ⟨b243, 0, none⟩) 1 ([(S128.mk 0 r123 0)] : (List S128))] rfl rfl (Gh.sel [2, 1] rfl rfl) ⟨b543, some ⟨b243, 0, none⟩, 1, rfl, rfl⟩

/-! ### function 21: wayfarer/wayfarerref23.NewSender -/
def F21.f (a0 : ByteArray) : Option (S49) := some ((S49.mk a0 ([(S63.mk 0 a0 0)] : (List S63)) false 0 0))
set_option maxHeartbeats 2000000 in
set_option maxRecDepth 100000 in
theorem F21.ok {a0 : ByteArray} {r : S49} (H : F21.f a0 = some r) : SCA Try.prog 21 #[.string a0] [] (fun v B => ∃ (c0_ : Nat), ∃ (A0_0_ : Option Addr) (c0_0_ : Nat), v = .pointer (some ⟨c0_, 0, none⟩) ∧ B = [Blk c0_ 49 [.string r.f0, .slice A0_0_ r.f1.length c0_0_, .bool r.f2, .int .u64 r.f3, .int .u64 r.f4], Buf k63 63 A0_0_ c0_0_ r.f1]) := by
  refine SCA_of_body Try.func21 rfl rfl ?_
  unfold F21.f at H
  refine SA_seq ?_
  refine SA_region ?_
  refine RA_step rfl (OA_v (v := .pointer none) rfl (V_assign rfl) ?_)
  refine RA_nil ?_
  refine at_normal ?_
  refine SA_seq ?_
  refine SA_region ?_
  refine RA_step rfl (OA_v (v := .string a0) rfl (V_move rfl) ?_)
  refine RA_step rfl (OA_v (v := .string a0) rfl (V_move rfl) ?_)
  refine RA_step rfl (OA_v (v := .agg #[.int .u64 0, .string a0, .int .u64 0]) rfl (V_build (cells := [.int .u64 0, .string a0, .int .u64 0]) zero63 Try.underlying63 plc63 (by kernel_rfl)) ?_)
  refine RA_step rfl (OA_bs (kd := k63) (zv := (.agg #[.int .u64 0, .string ByteArray.empty, .int .u64 0])) (sz := 3) (cells := [.int .u64 0, .string a0, .int .u64 0]) (xs := ([(S63.mk 0 a0 0)] : (List S63))) rfl Try.underlying47 zero63 sz63 rfl rfl rfl (by kernel_rfl) rfl rfl (RL_enc enc63 (fun _ _ => rfl) (by kernel_rfl)) fun b1 => ?_)
  refine RA_step rfl (OA_v (v := .agg #[.string a0, .slice (some ⟨b1, 0, none⟩) ([(S63.mk 0 a0 0)] : (List S63)).length 1, .bool false, .int .u64 0, .int .u64 0]) rfl (V_build (cells := [.string a0, .slice (some ⟨b1, 0, none⟩) ([(S63.mk 0 a0 0)] : (List S63)).length 1, .bool false, .int .u64 0, .int .u64 0]) zero49 Try.underlying49 plc49 (by kernel_rfl)) ?_)
  refine RA_step rfl (OA_box rfl rfl fun b3 => ?_)
  refine RA_step rfl (OA_v (v := .pointer (some ⟨b3, 0, none⟩)) rfl (V_assign rfl) ?_)
  refine RA_nil ?_
  refine at_normal ?_
  refine SA_ret ?_
  have hr_ := Option.some.inj H
  subst hr_
  exact BQ_R1 [Blk b3 49 [.string a0, .slice (some ⟨b1, 0, none⟩) ([(S63.mk 0 a0 0)] : (List S63)).length 1, .bool false, .int .u64 0, .int .u64 0], Buf k63 63 (some ⟨b1, 0, none⟩) 1 ([(S63.mk 0 a0 0)] : (List S63))] rfl rfl (Gh.sel [1, 0] rfl rfl) ⟨b3, some ⟨b1, 0, none⟩, 1, rfl, rfl⟩

/-! ### function 60: (*wayfarer/ssp.Sender[wayfarer/wayfarerlaw23.text]).there -/
def F60b0.f (p0 : S131) : Option (Bool) := some (decide ((p0.f0.length : Int) > 0))
set_option maxHeartbeats 2000000 in
set_option maxRecDepth 100000 in
theorem F60b0.ok {p0 : S131} {b0_ : Nat} {A0_0 : Option Addr} {c0_0 : Nat} {r : Bool} (H : F60b0.f p0 = some r) : SCA Try.prog 60 #[.pointer (some ⟨b0_, 0, none⟩)] [Blk b0_ 131 [.slice A0_0 p0.f0.length c0_0, .string p0.f1.f0, .int .u64 p0.f2, .bool p0.f3, .int .u64 p0.f4], Buf k128 128 A0_0 c0_0 p0.f0] (fun v B => v = .bool r ∧ B = [Blk b0_ 131 [.slice A0_0 p0.f0.length c0_0, .string p0.f1.f0, .int .u64 p0.f2, .bool p0.f3, .int .u64 p0.f4], Buf k128 128 A0_0 c0_0 p0.f0]) := by
  refine SCA_of_body Try.func60 rfl rfl ?_
  unfold F60b0.f at H
  refine SA_seq ?_
  refine SA_region ?_
  refine RA_step rfl (OA_v (v := .bool false) rfl (V_assign rfl) ?_)
  refine RA_nil ?_
  refine at_normal ?_
  refine SA_seq ?_
  refine SA_region ?_
  refine RA_step rfl (OA_v (v := .pointer (some ⟨b0_, 0, none⟩)) rfl (V_move rfl) ?_)
  refine RA_step rfl (OA_v (v := .bool true) rfl (V_neqPN Try.underlying38 rfl rfl) ?_)
  refine RA_step rfl (OA_v (v := .bool true) rfl (V_move rfl) ?_)
  refine RA_yesB rfl rfl rfl rfl (rfl) (OA_v (v := .pointer (some ⟨b0_, 0, none⟩)) rfl (V_move rfl) ?_)
  refine RA_yesB rfl rfl rfl rfl (rfl) (OA_v (v := .pointer (some ⟨b0_, 0, none⟩)) rfl (V_nilCheck rfl) ?_)
  refine RA_yesB rfl rfl rfl rfl (rfl) (OA_v (v := .pointer (some ⟨b0_, 0, none⟩)) rfl (V_fieldAddrN (B := ⟨b0_, 0, none⟩) (m := 0) (o := 0) Try.underlying131 rfl nz129 rfl rfl) ?_)
  refine RA_yesB rfl rfl rfl rfl (rfl) (OA_r rfl (VR_load_blk (b := b0_) (m := 0) (k := 0) Try.underlying129 rfl rfl rfl rfl) ?_)
  refine RA_yesB rfl rfl rfl rfl (rfl) (OA_v (v := .int .i64 (p0.f0.length : Int)) rfl (V_len Try.underlying129 rfl) ?_)
  refine RA_yesB rfl rfl rfl rfl (rfl) (OA_v (v := .bool (decide ((p0.f0.length : Int) > 0))) rfl (V_gtr rfl rfl) ?_)
  refine RA_step rfl (OA_v rfl (V_pickT rfl (rfl) rfl) ?_)
  refine RA_step rfl (OA_v (v := .bool (decide ((p0.f0.length : Int) > 0))) rfl (V_assign rfl) ?_)
  refine RA_nil ?_
  refine at_normal ?_
  refine SA_ret ?_
  have hr_ := Option.some.inj H
  subst hr_
  exact BQ_R1 [Blk b0_ 131 [.slice A0_0 p0.f0.length c0_0, .string p0.f1.f0, .int .u64 p0.f2, .bool p0.f3, .int .u64 p0.f4], Buf k128 128 A0_0 c0_0 p0.f0] rfl rfl (Gh.sel [0, 1] rfl rfl) ⟨rfl, rfl⟩

/-! ### function 22: (*wayfarer/ssp.Sender[wayfarer/wayfarerlaw23.text]).Set -/
def F22b0.f (p0 : S131) (a1 : S41) : Option (Int × S131) := (F60b0.f p0).bind (fun r6 => if (!r6) = true then (some ((1, p0))) else ((F143.f a1).bind (fun r8 => some ((0, (S131.mk p0.f0 r8 p0.f2 p0.f3 p0.f4))))))
set_option maxHeartbeats 2000000 in
set_option maxRecDepth 100000 in
theorem F22b0.ok {p0 : S131} {a1 : S41} {b0_ : Nat} {A0_0 : Option Addr} {c0_0 : Nat} {r : Int × S131} (H : F22b0.f p0 a1 = some r) : SCA Try.prog 22 #[.pointer (some ⟨b0_, 0, none⟩), .agg #[.string a1.f0]] [Blk b0_ 131 [.slice A0_0 p0.f0.length c0_0, .string p0.f1.f0, .int .u64 p0.f2, .bool p0.f3, .int .u64 p0.f4], Buf k128 128 A0_0 c0_0 p0.f0] (fun v B => ∃ (P0_0_ : Option Addr) (q0_0_ : Nat), v = .int .i64 r.1 ∧ B = [Blk b0_ 131 [.slice P0_0_ r.2.f0.length q0_0_, .string r.2.f1.f0, .int .u64 r.2.f2, .bool r.2.f3, .int .u64 r.2.f4], Buf k128 128 P0_0_ q0_0_ r.2.f0]) := by
  refine SCA_of_body Try.func22 rfl rfl ?_
  unfold F22b0.f at H
  refine SA_seq ?_
  refine SA_region ?_
  refine RA_step rfl (OA_box rfl rfl fun b3 => ?_)
  refine RA_step rfl (OA_v (v := .int .i64 0) rfl (V_assign rfl) ?_)
  refine RA_nil ?_
  refine at_normal ?_
  refine SA_seq ?_
  refine SA_seq ?_
  refine SA.fact (cap_of (k := 1) rfl) fun hc5 => ?_
  refine SA_region ?_
  refine RA_step rfl (OA_v (v := .pointer (some ⟨b0_, 0, none⟩)) rfl (V_move rfl) ?_)
  obtain ⟨r6, C10, H⟩ := g_bind H
  refine RA_step rfl (OA_callA [0, 1] [2] rfl (X_fn (vs := [.pointer (some ⟨b0_, 0, none⟩)]) Try.func60 nm60 rfl rfl) rfl (F60b0.ok (b0_ := b0_) (A0_0 := A0_0) (c0_0 := c0_0) (p0 := p0) C10) rfl ?_)
  rintro _ _ ⟨rfl, rfl⟩
  refine RA_step rfl (OA_v (v := .bool (!r6)) rfl (V_not rfl) ?_)
  refine RA_nil ?_
  refine at_normal ?_
  by_cases h7 : (!r6) = true
  · replace H := g_ift h7 H
    refine SA_condTb rfl h7 ?_
    refine SA_seq ?_
    refine SA_region ?_
    refine RA_step rfl (OA_v (v := .int .i64 1) rfl (V_assign rfl) ?_)
    refine RA_nil ?_
    refine at_normal ?_
    refine SA_ret ?_
    refine thn_ret ?_
    have hr_ := Option.some.inj H
    subst hr_
    exact BQ_R1 [Blk b0_ 131 [.slice A0_0 p0.f0.length c0_0, .string p0.f1.f0, .int .u64 p0.f2, .bool p0.f3, .int .u64 p0.f4], Buf k128 128 A0_0 c0_0 p0.f0] rfl rfl (Gh.sel [0, 1] rfl rfl) ⟨A0_0, c0_0, rfl, rfl⟩
  replace H := g_iff h7 H
  refine SA_condFb rfl h7 ?_
  refine SA_skip ?_
  refine at_normal ?_
  refine SA_seq ?_
  refine SA_region ?_
  refine RA_step rfl (OA_v (v := .pointer (some ⟨b0_, 0, none⟩)) rfl (V_move rfl) ?_)
  refine RA_step rfl (OA_r rfl (VR_loadA_blk (b := b3) (m := 0) (k := 2) (vs := [.string a1.f0]) Try.underlying41 rfl sz41 rfl rfl rfl) ?_)
  refine RA_step rfl (OA_v (v := .iface 41 (.agg #[.string a1.f0])) rfl (V_iface con41 rfl) ?_)
  obtain ⟨r8, C9, H⟩ := g_bind H
  refine RA_step rfl (OA_callA [] [0, 1, 2] rfl (X_inv (vs := []) rfl met41_143 Try.func143 nm143 rfl rfl) rfl (F143.ok (a0 := a1) C9) rfl ?_)
  rintro _ _ ⟨rfl, rfl⟩
  refine RA_step rfl (OA_v (v := .pointer (some ⟨b0_, 0, none⟩)) rfl (V_nilCheck rfl) ?_)
  refine RA_step rfl (OA_v (v := .pointer (some ((⟨b0_, 0, none⟩ : Addr).add 1))) rfl (V_fieldAddrN (B := ⟨b0_, 0, none⟩) (m := 0) (o := 1) Try.underlying131 rfl nz41 rfl rfl) ?_)
  refine RA_step rfl (OA_st (b := b0_) (m := 1) (k := 0) (vs := [.string r8.f0]) (cs' := [.slice A0_0 p0.f0.length c0_0, .string r8.f0, .int .u64 p0.f2, .bool p0.f3, .int .u64 p0.f4]) rfl rfl rfl rfl rfl rfl sz41 rfl rfl ?_)
  refine RA_nil ?_
  refine at_normal ?_
  refine SA_seq ?_
  refine SA_region ?_
  refine RA_step rfl (OA_v (v := .int .i64 0) rfl (V_assign rfl) ?_)
  refine RA_nil ?_
  refine at_normal ?_
  refine SA_ret ?_
  have hr_ := Option.some.inj H
  subst hr_
  exact BQ_R1 [Blk b0_ 131 [.slice A0_0 p0.f0.length c0_0, .string r8.f0, .int .u64 p0.f2, .bool p0.f3, .int .u64 p0.f4], Buf k128 128 A0_0 c0_0 p0.f0] rfl rfl (Gh.sel [0, 1] rfl rfl) ⟨A0_0, c0_0, rfl, rfl⟩

/-! ### function 99: slices.IndexFunc[[]wayfarer/ssp.sent[wayfarer/wayfarerlaw23.text],wayfarer/ssp.sent[wayfarer/wayfarerlaw23.text]] -/
def F99b0.l0 (l0 : (List S128)) (g1 : S128 → Option (Bool)) : Nat → Int → Option (Out (Int) (Unit))
  | 0, _ => none
  | k + 1, x8_4 => if x8_4 < (l0.length : Int) then (if 0 ≤ x8_4 ∧ x8_4 < (l0.length : Int) then ((g1 (rd l0 x8_4)).bind (fun r10 => if r10 = true then (some (Out.ret (x8_4))) else (F99b0.l0 l0 g1 k (IntKind.i64.wrap (x8_4 + 1))))) else none) else (some (Out.go ()))
def F99b0.f (k : Nat) (l0 : (List S128)) (g1 : S128 → Option (Bool)) : Option (Int) := (F99b0.l0 l0 g1 k 0 : Option (Out (Int) (Unit))).bind (fun t3 => Out.el t3 (fun r_ => some r_) (fun s4 => some ((-1))))
set_option maxHeartbeats 2000000 in
set_option maxRecDepth 100000 in
theorem F99b0.ok {k : Nat} {l0 : (List S128)} {g1 : S128 → Option (Bool)} {A0 : Option Addr} {c0 : Nat} {fv1 : Value} {Fr1 : Asrt} (hg1 : ∀ {x0_ : S128} {r_ : Bool}, g1 x0_ = some r_ → FC Try.prog fv1 [.agg #[.int .u64 x0_.f0, .string x0_.f1.f0, .int .u64 x0_.f2]] [Fr1] (fun v B => ∃ B0, (v = .bool r_ ∧ B0 = []) ∧ B = B0 ++ [Fr1])) {r : Int} (H : F99b0.f k l0 g1 = some r) : SCA Try.prog 99 #[.slice A0 l0.length c0, fv1] [Buf k128 128 A0 c0 l0, Fr1] (fun v B => v = .int .i64 r ∧ B = [Buf k128 128 A0 c0 l0, Fr1]) := by
  refine SCA_of_body Try.func99 rfl rfl ?_
  unfold F99b0.f at H
  refine SA_seq ?_
  refine SA_region ?_
  refine RA_step rfl (OA_v (v := .int .i64 0) rfl (V_assign rfl) ?_)
  refine RA_nil ?_
  refine at_normal ?_
  refine SA_seq ?_
  refine SA_seq ?_
  refine SA_region ?_
  refine RA_step rfl (OA_v (v := .slice A0 l0.length c0) rfl (V_move rfl) ?_)
  refine RA_step rfl (OA_v (v := .int .i64 (l0.length : Int)) rfl (V_len Try.underlying129 rfl) ?_)
  refine RA_step rfl (OA_v (v := .int .i64 0) rfl (V_move rfl) ?_)
  refine RA_nil ?_
  refine at_normal ?_
  obtain ⟨t3, H, Bt3⟩ := g_bind H
  refine SA_mid (fun e ds As => ∃ (s4 : Unit), t3 = Out.go s4 ∧ St [] [Fr1, Buf k128 128 A0 c0 l0] e ds As) ?_ ?_
  · refine SA_block ?_
    refine SA_loop (fun k_ e ds As => ∃ (x8_4 : Int), F99b0.l0 l0 g1 k_ x8_4 = some t3 ∧ St [(0, .slice A0 l0.length c0), (1, fv1), (7, .int .i64 (l0.length : Int)), (8, .int .i64 x8_4)] [Fr1, Buf k128 128 A0 c0 l0] e ds As) (k := k) ⟨_, H, St.mk1 (aeq rfl (aeq rfl (aeq rfl (aeq rfl aeq0)))) (Gh.sel [1, 0] rfl rfl)⟩ ?_
    clear H
    rintro k5 e ds As ⟨x8_4, H, hst6⟩
    obtain _ | k5 := k5
    · cases H
    rw [F99b0.l0] at H
    refine SA.of_St hst6 fun junk => ?_
    refine SA_seq ?_
    refine SA_region ?_
    refine RA_step rfl (OA_v (v := .bool (decide (x8_4 < (l0.length : Int)))) rfl (V_lss rfl rfl) ?_)
    refine RA_nil ?_
    refine at_normal ?_
    refine SA_seq ?_
    by_cases h7 : x8_4 < (l0.length : Int)
    · replace H := g_ift h7 H
      refine SA_condT rfl h7 ?_
      refine SA_skip ?_
      refine at_normal ?_
      refine SA_seq ?_
      refine SA_block ?_
      refine SA_seq ?_
      refine SA_region ?_
      refine RA_step rfl (OA_v (v := .int .i64 x8_4) rfl (V_move rfl) ?_)
      refine RA_step rfl (OA_v (v := .int .i64 x8_4) rfl (V_assign rfl) ?_)
      refine RA_nil ?_
      refine at_normal ?_
      refine SA_seq ?_
      refine SA_region ?_
      refine RA_step rfl (OA_v (v := fv1) rfl (V_move rfl) ?_)
      refine RA_step rfl (OA_v (v := .slice A0 l0.length c0) rfl (V_move rfl) ?_)
      refine RA_step rfl (OA_v (v := .int .i64 x8_4) rfl (V_move rfl) ?_)
      obtain ⟨⟨g8, g9⟩, H⟩ := g_pos H
      refine RA_step rfl (OA_r rfl (VR_index (i := x8_4) Try.underlying129 sz128 rfl rfl (Src.buf (k := 1) rfl) g8 g9) ?_)
      refine RA_step rfl (OA_r rfl (VR_loadA_el (enc := enc128) (i := x8_4) (j := x8_4.toNat * 3) (m := 0) (sz := 3) (vs := [.int .u64 ((rd l0 x8_4).f0), .string (((rd l0 x8_4).f1).f0), .int .u64 ((rd l0 x8_4).f2)]) Try.underlying128 rfl sz128 rfl rfl rfl (Src.buf (k := 1) rfl) g8 g9 (fun _ _ h => h) rfl) ?_)
      obtain ⟨r10, C12, H⟩ := g_bind H
      refine RA_step rfl (OA_callF (vs := [.agg #[.int .u64 ((rd l0 x8_4).f0), .string (((rd l0 x8_4).f1).f0), .int .u64 ((rd l0 x8_4).f2)]]) [0] [1] rfl rfl rfl rfl (hg1 (x0_ := rd l0 x8_4) C12) rfl ?_)
      rintro _ _ ⟨_, ⟨rfl, rfl⟩, rfl⟩
      refine RA_nil ?_
      refine at_normal ?_
      by_cases h11 : r10 = true
      · replace H := g_ift h11 H
        refine SA_condTb rfl h11 ?_
        refine SA_seq ?_
        refine SA_region ?_
        refine RA_step rfl (OA_v (v := .int .i64 x8_4) rfl (V_move rfl) ?_)
        refine RA_step rfl (OA_v (v := .int .i64 x8_4) rfl (V_assign rfl) ?_)
        refine RA_nil ?_
        refine at_normal ?_
        refine SA_ret ?_
        refine inb_ret ?_
        refine thn_ret ?_
        refine thn_ret ?_
        refine inb_ret ?_
        refine thn_ret ?_
        refine thn_ret ?_
        have hr_ := Option.some.inj H
        subst hr_
        have hb_ := el_ret Bt3
        have hr_ := Option.some.inj hb_
        clear hb_
        subst hr_
        exact BQ_R1 [Buf k128 128 A0 c0 l0, Fr1] rfl rfl (Gh.sel [1, 0] rfl rfl) ⟨rfl, rfl⟩
      replace H := g_iff h11 H
      refine SA_condFb rfl h11 ?_
      refine SA_skip ?_
      refine inb_normal ?_
      refine at_normal ?_
      refine SA_region ?_
      refine RA_step rfl (OA_v (v := .int .i64 (IntKind.i64.wrap (x8_4 + 1))) rfl (V_add rfl rfl) ?_)
      refine RA_step rfl (OA_v (v := .int .i64 (IntKind.i64.wrap (x8_4 + 1))) rfl (V_move rfl) ?_)
      refine RA_nil ?_
      exact at_normal ⟨k5, Nat.lt_succ_self _, _, H, St.mk1 (aeq rfl (aeq rfl (aeq rfl (aeq rfl aeq0)))) (Gh.sel [0, 1] rfl rfl)⟩
    replace H := g_iff h7 H
    refine SA_condF rfl h7 ?_
    refine SA_exit ?_
    refine thn_exit ?_
    refine thn_exit ?_
    refine inb_hit ?_
    have hr_ := Option.some.inj H
    subst hr_
    exact at_normal ⟨(), rfl, St.mk1 aeq0 (Gh.sel [0, 1] rfl rfl)⟩
  rintro e ds As ⟨s4, ht, hst13⟩
  clear H
  subst ht
  replace Bt3 := el_go Bt3
  have H := Bt3
  clear Bt3
  refine at_normal ?_
  refine SA.of_St hst13 fun junk => ?_
  refine SA_seq ?_
  refine SA_region ?_
  refine RA_step rfl (OA_v (v := .int .i64 (-1)) rfl (V_assign rfl) ?_)
  refine RA_nil ?_
  refine at_normal ?_
  refine SA_ret ?_
  have hr_ := Option.some.inj H
  subst hr_
  exact BQ_R1 [Buf k128 128 A0 c0 l0, Fr1] rfl rfl (Gh.sel [1, 0] rfl rfl) ⟨rfl, rfl⟩

/-! ### function 100: wayfarer/ssp.find[wayfarer/wayfarerlaw23.text]$1 -/
def F100.f (a0 : S128) (p1 : Int) : Option (Bool) := some (decide (a0.f0 = p1))
set_option maxHeartbeats 2000000 in
set_option maxRecDepth 100000 in
theorem F100.ok {a0 : S128} {p1 : Int} {b1_ : Nat} {r : Bool} (H : F100.f a0 p1 = some r) : SCA Try.prog 100 #[.agg #[.int .u64 a0.f0, .string a0.f1.f0, .int .u64 a0.f2], .pointer (some ⟨b1_, 0, none⟩)] [Blk b1_ 44 [.int .u64 p1]] (fun v B => v = .bool r ∧ B = [Blk b1_ 44 [.int .u64 p1]]) := by
  refine SCA_of_body Try.func100 rfl rfl ?_
  unfold F100.f at H
  refine SA_seq ?_
  refine SA_region ?_
  refine RA_step rfl (OA_box rfl rfl fun b2 => ?_)
  refine RA_step rfl (OA_v (v := .bool false) rfl (V_assign rfl) ?_)
  refine RA_nil ?_
  refine at_normal ?_
  refine SA_seq ?_
  refine SA_region ?_
  refine RA_step rfl (OA_v (v := .pointer (some ⟨b2, 0, none⟩)) rfl (V_fieldAddrN (B := ⟨b2, 0, none⟩) (m := 0) (o := 0) Try.underlying128 rfl nz44 rfl rfl) ?_)
  refine RA_step rfl (OA_r rfl (VR_load_blk (b := b2) (m := 0) (k := 1) Try.underlying44 rfl rfl rfl rfl) ?_)
  refine RA_step rfl (OA_r rfl (VR_load_blk (b := b1_) (m := 0) (k := 0) Try.underlying44 rfl rfl rfl rfl) ?_)
  refine RA_step rfl (OA_v (v := .bool (decide (a0.f0 = p1))) rfl (V_eql rfl rfl) ?_)
  refine RA_step rfl (OA_v (v := .bool (decide (a0.f0 = p1))) rfl (V_assign rfl) ?_)
  refine RA_nil ?_
  refine at_normal ?_
  refine SA_ret ?_
  have hr_ := Option.some.inj H
  subst hr_
  exact BQ_R1 [Blk b1_ 44 [.int .u64 p1]] rfl rfl (Gh.sel [0] rfl rfl) ⟨rfl, rfl⟩

/-! ### function 61: wayfarer/ssp.find[wayfarer/wayfarerlaw23.text] -/
def F61b0.f (k : Nat) (l0 : (List S128)) (a1 : Int) : Option (Int) := (F99b0.f k l0 (fun (x0_ : S128) => F100.f x0_ a1)).bind (fun r5 => some (r5))
set_option maxHeartbeats 2000000 in
set_option maxRecDepth 100000 in
theorem F61b0.ok {k : Nat} {l0 : (List S128)} {a1 : Int} {A0 : Option Addr} {c0 : Nat} {r : Int} (H : F61b0.f k l0 a1 = some r) : SCA Try.prog 61 #[.slice A0 l0.length c0, .int .u64 a1] [Buf k128 128 A0 c0 l0] (fun v B => v = .int .i64 r ∧ B = [Buf k128 128 A0 c0 l0]) := by
  refine SCA_of_body Try.func61 rfl rfl ?_
  unfold F61b0.f at H
  refine SA_seq ?_
  refine SA_region ?_
  refine RA_step rfl (OA_box rfl rfl fun b2 => ?_)
  refine RA_step rfl (OA_v (v := .int .i64 0) rfl (V_assign rfl) ?_)
  refine RA_nil ?_
  refine at_normal ?_
  refine SA_seq ?_
  refine SA.fact (cap_of (k := 0) rfl) fun hc4 => ?_
  refine SA_region ?_
  refine RA_step rfl (OA_v (v := .slice A0 l0.length c0) rfl (V_move rfl) ?_)
  refine RA_step rfl (OA_v (v := .func (.func 100) #[] #[.pointer (some ⟨b2, 0, none⟩)]) rfl (V_makeFuncL (us := [.pointer (some ⟨b2, 0, none⟩)]) rfl) ?_)
  obtain ⟨r5, C6, H⟩ := g_bind H
  refine RA_step rfl (OA_callA [0, 1] [] rfl (X_fn (vs := [.slice A0 l0.length c0, .func (.func 100) #[] #[.pointer (some ⟨b2, 0, none⟩)]]) Try.func99 nm99 rfl rfl) rfl (SCA.unpk (pre0 := [Buf k128 128 A0 c0 l0]) (Bs := [Blk b2 44 [.int .u64 a1]]) ((F99b0.ok (l0 := l0) (A0 := A0) (c0 := c0) (g1 := (fun (x0_ : S128) => F100.f x0_ a1)) (fv1 := .func (.func 100) #[] #[.pointer (some ⟨b2, 0, none⟩)]) (Fr1 := Pk [Blk b2 44 [.int .u64 a1]]) (hg1 := (fun {x0_} {r_} C_ => FC.of (pre0 := []) (Bs := [Blk b2 44 [.int .u64 a1]]) (cap := [.pointer (some ⟨b2, 0, none⟩)]) Try.func100 nm100 rfl ((F100.ok (a0 := x0_) (b1_ := b2) (p1 := a1) C_).mono (fun _ _ ⟨hv_, hB_⟩ => ⟨_, ⟨hv_, rfl⟩, hB_⟩)))) C6).mono (fun (v_ : Value) (B_ : List Asrt) ⟨hv_, hB_⟩ => (⟨[Buf k128 128 A0 c0 l0], ⟨hv_, rfl⟩, hB_⟩ : ∃ B0_ : List Asrt, (v_ = (.int .i64 r5 : Value) ∧ B0_ = [Buf k128 128 A0 c0 l0]) ∧ B_ = B0_ ++ [Pk [Blk b2 44 [.int .u64 a1]]])))) rfl ?_)
  rintro _ _ ⟨_, ⟨rfl, rfl⟩, rfl⟩
  refine RA_step rfl (OA_v (v := .int .i64 r5) rfl (V_assign rfl) ?_)
  refine RA_nil ?_
  refine at_normal ?_
  refine SA_ret ?_
  have hr_ := Option.some.inj H
  subst hr_
  exact BQ_R1 [Buf k128 128 A0 c0 l0] rfl rfl (Gh.sel [0] rfl rfl) ⟨rfl, rfl⟩

/-! ### function 62: slices.Clone[[]wayfarer/ssp.sent[wayfarer/wayfarerlaw23.text],wayfarer/ssp.sent[wayfarer/wayfarerlaw23.text]] -/
def F62.f (l0 : (List S128)) : Option ((List S128)) := if ([] : (List S128)).length + l0.length ≤ 4398046511104 then lt (([] : (List S128)) ++ l0) fun n9 => (some (n9)) else none
set_option maxHeartbeats 2000000 in
set_option maxRecDepth 100000 in
theorem F62.ok {l0 : (List S128)} {A0 : Option Addr} {c0 : Nat} {r : (List S128)} (H : F62.f l0 = some r) : SCA Try.prog 62 #[.slice A0 l0.length c0] [Ro k128 A0 c0 l0] (fun v B => ∃ (A0_0_ : Option Addr) (c0_0_ : Nat), v = .slice A0_0_ r.length c0_0_ ∧ B = [Buf k128 128 A0_0_ c0_0_ r]) := by
  refine SCA_of_body Try.func62 rfl rfl ?_
  unfold F62.f at H
  refine SA_seq ?_
  refine SA_region ?_
  refine RA_step rfl (OA_v (v := .slice none 0 0) rfl (V_assign rfl) ?_)
  refine RA_nil ?_
  refine at_normal ?_
  refine SA_seq ?_
  refine SA_seq ?_
  refine SA_region ?_
  refine RA_step rfl (OA_v (v := .slice A0 l0.length c0) rfl (V_move rfl) ?_)
  refine RA_step rfl (OA_v (v := .bool A0.isNone) rfl (V_eqlNil Try.underlying129 rfl rfl) ?_)
  refine RA_nil ?_
  refine at_normal ?_
  by_cases h2 : A0 = none
  · subst h2
    refine SA_nilRo (k := 0) rfl fun e_ => ?_
    subst e_
    replace H := g_nil (x := some (([] : (List S128)))) H (by simp [lt])
    refine SA_condTb rfl rfl ?_
    refine SA_seq ?_
    refine SA_region ?_
    refine RA_step rfl (OA_v (v := .slice none 0 0) rfl (V_assign rfl) ?_)
    refine RA_nil ?_
    refine at_normal ?_
    refine SA_ret ?_
    refine thn_ret ?_
    have hr_ := Option.some.inj H
    subst hr_
    exact BQ_R1 [Buf k128 128 none 0 ([] : (List S128))] rfl rfl ((Gh.nilBuf k128 128).trans (Gh.sel [1] rfl rfl)) ⟨none, 0, rfl, rfl⟩
  obtain ⟨a_, rfl⟩ := Option.ne_none_iff_exists'.1 h2
  refine SA_condFb rfl (by first | decide | simp) ?_
  refine SA_skip ?_
  refine at_normal ?_
  refine SA_seq ?_
  refine SA_region ?_
  refine RA_step rfl (OA_bs (kd := k128) (zv := (.agg #[.int .u64 0, .string ByteArray.empty, .int .u64 0])) (sz := 3) (cells := []) (xs := ([] : (List S128))) rfl Try.underlying129 zero128 sz128 rfl rfl rfl (by kernel_rfl) rfl rfl (RL_enc enc128 (fun _ _ => rfl) (by kernel_rfl)) fun b3 => ?_)
  refine RA_step rfl (OA_v (v := .slice (some a_) l0.length c0) rfl (V_move rfl) ?_)
  obtain ⟨g6, H⟩ := g_pos H
  obtain ⟨n9, hn9, H⟩ := g_lt H
  refine RA_step rfl (OA_app (k := 1) (A := some ⟨b3, 0, none⟩) (c := 0) (xs := ([] : (List S128))) (ys := l0) n9 hn9 rfl Try.underlying129 inf128 rfl rfl rfl rfl rfl (Yld.slice Try.underlying129 (Src.ro (k := 0) rfl)) (by omega) (by omega) fun A7 c8 => ?_)
  refine RA_step rfl (OA_v (v := .slice A7 n9.length c8) rfl (V_assign rfl) ?_)
  refine RA_nil ?_
  refine at_normal ?_
  refine SA_ret ?_
  have hr_ := Option.some.inj H
  subst hr_
  exact BQ_R1 [Buf k128 128 A7 c8 n9] rfl rfl (Gh.sel [1] rfl rfl) ⟨A7, c8, rfl, rfl⟩

/-! ### function 23: (*wayfarer/ssp.Sender[wayfarer/wayfarerlaw23.text]).Ack -/
def F23b0.f (k : Nat) (p0 : S131) (a1 : Int) : Option (Int × S131) := (F60b0.f p0).bind (fun r4 => if (!r4) = true then (some ((1, p0))) else ((F61b0.f k p0.f0 a1).bind (fun r6 => if r6 < 0 then (some ((230, p0))) else (if 0 ≤ r6 ∧ r6 ≤ (p0.f0.length : Int) ∧ (p0.f0.length : Int) ≤ (p0.f0.length : Int) ∧ (p0.f0.length : Int) ≤ (p0.f0.length : Int) ∧ (p0.f0.length : Int) ≤ (p0.f0.length : Int) then lt (sub p0.f0 r6 (p0.f0.length : Int)) fun n974 => ((F62.f n974).bind (fun r1028 => some ((0, (S131.mk r1028 p0.f1 p0.f2 p0.f3 p0.f4))))) else none))))
set_option maxHeartbeats 2000000 in
set_option maxRecDepth 100000 in
theorem F23b0.ok {k : Nat} {p0 : S131} {a1 : Int} {b0_ : Nat} {A0_0 : Option Addr} {c0_0 : Nat} {r : Int × S131} (H : F23b0.f k p0 a1 = some r) : SCA Try.prog 23 #[.pointer (some ⟨b0_, 0, none⟩), .int .u64 a1] [Blk b0_ 131 [.slice A0_0 p0.f0.length c0_0, .string p0.f1.f0, .int .u64 p0.f2, .bool p0.f3, .int .u64 p0.f4], Buf k128 128 A0_0 c0_0 p0.f0] (fun v B => ∃ (P0_0_ : Option Addr) (q0_0_ : Nat), v = .int .i64 r.1 ∧ B = [Blk b0_ 131 [.slice P0_0_ r.2.f0.length q0_0_, .string r.2.f1.f0, .int .u64 r.2.f2, .bool r.2.f3, .int .u64 r.2.f4], Buf k128 128 P0_0_ q0_0_ r.2.f0]) := by
  refine SCA_of_body Try.func23 rfl rfl ?_
  unfold F23b0.f at H
  refine SA_seq ?_
  refine SA_region ?_
  refine RA_step rfl (OA_v (v := .int .i64 0) rfl (V_assign rfl) ?_)
  refine RA_nil ?_
  refine at_normal ?_
  refine SA_seq ?_
  refine SA_seq ?_
  refine SA.fact (cap_of (k := 1) rfl) fun hc3 => ?_
  refine SA_region ?_
  refine RA_step rfl (OA_v (v := .pointer (some ⟨b0_, 0, none⟩)) rfl (V_move rfl) ?_)
  obtain ⟨r4, C1270, H⟩ := g_bind H
  refine RA_step rfl (OA_callA [0, 1] [] rfl (X_fn (vs := [.pointer (some ⟨b0_, 0, none⟩)]) Try.func60 nm60 rfl rfl) rfl (F60b0.ok (b0_ := b0_) (A0_0 := A0_0) (c0_0 := c0_0) (p0 := p0) C1270) rfl ?_)
  rintro _ _ ⟨rfl, rfl⟩
  refine RA_step rfl (OA_v (v := .bool (!r4)) rfl (V_not rfl) ?_)
  refine RA_nil ?_
  refine at_normal ?_
  by_cases h5 : (!r4) = true
  · replace H := g_ift h5 H
    refine SA_condTb rfl h5 ?_
    refine SA_seq ?_
    refine SA_region ?_
    refine RA_step rfl (OA_v (v := .int .i64 1) rfl (V_assign rfl) ?_)
    refine RA_nil ?_
    refine at_normal ?_
    refine SA_ret ?_
    refine thn_ret ?_
    have hr_ := Option.some.inj H
    subst hr_
    exact BQ_R1 [Blk b0_ 131 [.slice A0_0 p0.f0.length c0_0, .string p0.f1.f0, .int .u64 p0.f2, .bool p0.f3, .int .u64 p0.f4], Buf k128 128 A0_0 c0_0 p0.f0] rfl rfl (Gh.sel [0, 1] rfl rfl) ⟨A0_0, c0_0, rfl, rfl⟩
  replace H := g_iff h5 H
  refine SA_condFb rfl h5 ?_
  refine SA_skip ?_
  refine at_normal ?_
  refine SA_seq ?_
  refine SA_region ?_
  refine RA_step rfl (OA_v (v := .pointer (some ⟨b0_, 0, none⟩)) rfl (V_move rfl) ?_)
  refine RA_step rfl (OA_v (v := .pointer (some ⟨b0_, 0, none⟩)) rfl (V_nilCheck rfl) ?_)
  refine RA_step rfl (OA_v (v := .pointer (some ⟨b0_, 0, none⟩)) rfl (V_fieldAddrN (B := ⟨b0_, 0, none⟩) (m := 0) (o := 0) Try.underlying131 rfl nz129 rfl rfl) ?_)
  refine RA_step rfl (OA_r rfl (VR_load_blk (b := b0_) (m := 0) (k := 0) Try.underlying129 rfl rfl rfl rfl) ?_)
  refine RA_step rfl (OA_v (v := .int .u64 a1) rfl (V_move rfl) ?_)
  obtain ⟨r6, C1269, H⟩ := g_bind H
  refine RA_step rfl (OA_callA [1] [0] rfl (X_fn (vs := [.slice A0_0 p0.f0.length c0_0, .int .u64 a1]) Try.func61 nm61 rfl rfl) rfl (F61b0.ok (l0 := p0.f0) (A0 := A0_0) (c0 := c0_0) (a1 := a1) C1269) rfl ?_)
  rintro _ _ ⟨rfl, rfl⟩
  refine RA_step rfl (OA_v (v := .int .i64 r6) rfl (V_assign rfl) ?_)
  refine RA_nil ?_
  refine at_normal ?_
  refine SA_seq ?_
  refine SA_seq ?_
  refine SA_region ?_
  refine RA_step rfl (OA_v (v := .int .i64 r6) rfl (V_move rfl) ?_)
  refine RA_step rfl (OA_v (v := .bool (decide (r6 < 0))) rfl (V_lss rfl rfl) ?_)
  refine RA_nil ?_
  refine at_normal ?_
  by_cases h7 : r6 < 0
  · replace H := g_ift h7 H
    refine SA_condT rfl h7 ?_
    refine SA_seq ?_
    refine SA_region ?_
    refine RA_step rfl (OA_v (v := .int .i64 230) rfl (V_assign rfl) ?_)
    refine RA_nil ?_
    refine at_normal ?_
    refine SA_ret ?_
    refine thn_ret ?_
    have hr_ := Option.some.inj H
    subst hr_
    exact BQ_R1 [Blk b0_ 131 [.slice A0_0 p0.f0.length c0_0, .string p0.f1.f0, .int .u64 p0.f2, .bool p0.f3, .int .u64 p0.f4], Buf k128 128 A0_0 c0_0 p0.f0] rfl rfl (Gh.sel [1, 0] rfl rfl) ⟨A0_0, c0_0, rfl, rfl⟩
  replace H := g_iff h7 H
  refine SA_condF rfl h7 ?_
  refine SA_skip ?_
  refine at_normal ?_
  refine SA_seq ?_
  refine SA_drawHq (0 :: 1 :: 2 :: 3 :: 4 :: 5 :: 6 :: 7 :: 8 :: 9 :: 10 :: 11 :: 12 :: 13 :: 14 :: 15 :: 18 :: 19 :: []) (List.toArray ([] :: [] :: [1] :: [1, 2] :: [1, 2, 3] :: [] :: [] :: [6] :: [6, 7] :: [6, 7, 8] :: [6, 7, 8, 9] :: [] :: [11] :: [11, 12] :: [11, 12, 13] :: [11, 12, 13, 14] :: (1 :: 2 :: 3 :: 4 :: 5 :: 6 :: 7 :: 8 :: 9 :: 10 :: 11 :: 12 :: 13 :: 14 :: 15 :: []) :: (1 :: 2 :: 3 :: 4 :: 5 :: 6 :: 7 :: 8 :: 9 :: 10 :: 11 :: 12 :: 13 :: 14 :: 15 :: []) :: (0 :: 1 :: 2 :: 3 :: 4 :: 5 :: 6 :: 7 :: 8 :: 9 :: 10 :: 11 :: 12 :: 13 :: 14 :: 15 :: []) :: (0 :: 1 :: 2 :: 3 :: 4 :: 5 :: 6 :: 7 :: 8 :: 9 :: 10 :: 11 :: 12 :: 13 :: 14 :: 15 :: 18 :: []) :: (0 :: 1 :: 2 :: 3 :: 4 :: 5 :: 6 :: 7 :: 8 :: 9 :: 10 :: 11 :: 12 :: 13 :: 14 :: 15 :: 18 :: 19 :: []) :: [])) [1] [0] mixed rfl rfl rfl (PanOk.thn PanOk.body) fun I0 hS h0 hh0 w0 sH dd pk => ?_
  refine DH_take (v := .pointer (some ⟨b0_, 0, none⟩)) 0 (by kernel_rfl) rfl rfl (.no rfl) pk sH rfl (VR.ofV (V_move rfl)) ?_
  refine DH_take (v := .pointer (some ⟨b0_, 0, none⟩)) 1 (by kernel_rfl) rfl rfl (.no rfl) pk sH rfl (VR.ofV (V_move rfl)) ?_
  refine DH_take (v := .pointer (some ⟨b0_, 0, none⟩)) 2 (by kernel_rfl) rfl rfl (.no rfl) pk sH rfl (VR.ofV (V_nilCheck rfl)) ?_
  refine DH_take (v := .pointer (some ⟨b0_, 0, none⟩)) 3 (by kernel_rfl) rfl rfl (.no rfl) pk sH rfl (VR.ofV (V_fieldAddrN (B := ⟨b0_, 0, none⟩) (m := 0) (o := 0) Try.underlying131 rfl nz129 rfl rfl)) ?_
  refine DH_take 4 (by kernel_rfl) rfl rfl (.no rfl) pk sH rfl (VR_load_blk (b := b0_) (m := 0) (k := 0) Try.underlying129 rfl rfl rfl rfl) ?_
  refine DH_take (v := .int .i64 r6) 5 (by kernel_rfl) rfl rfl (.no rfl) pk sH rfl (VR.ofV (V_move rfl)) ?_
  refine DH_take (v := .pointer (some ⟨b0_, 0, none⟩)) 6 (by kernel_rfl) rfl rfl (.no rfl) pk sH rfl (VR.ofV (V_move rfl)) ?_
  refine DH_take (v := .pointer (some ⟨b0_, 0, none⟩)) 7 (by kernel_rfl) rfl rfl (.no rfl) pk sH rfl (VR.ofV (V_nilCheck rfl)) ?_
  refine DH_take (v := .pointer (some ⟨b0_, 0, none⟩)) 8 (by kernel_rfl) rfl rfl (.no rfl) pk sH rfl (VR.ofV (V_fieldAddrN (B := ⟨b0_, 0, none⟩) (m := 0) (o := 0) Try.underlying131 rfl nz129 rfl rfl)) ?_
  refine DH_take 9 (by kernel_rfl) rfl rfl (.no rfl) pk sH rfl (VR_load_blk (b := b0_) (m := 0) (k := 0) Try.underlying129 rfl rfl rfl rfl) ?_
  refine DH_take (v := .int .i64 (p0.f0.length : Int)) 10 (by kernel_rfl) rfl rfl (.no rfl) pk sH rfl (VR.ofV (V_len Try.underlying129 rfl)) ?_
  refine DH_take (v := .pointer (some ⟨b0_, 0, none⟩)) 11 (by kernel_rfl) rfl rfl (.no rfl) pk sH rfl (VR.ofV (V_move rfl)) ?_
  refine DH_take (v := .pointer (some ⟨b0_, 0, none⟩)) 12 (by kernel_rfl) rfl rfl (.no rfl) pk sH rfl (VR.ofV (V_nilCheck rfl)) ?_
  refine DH_take (v := .pointer (some ⟨b0_, 0, none⟩)) 13 (by kernel_rfl) rfl rfl (.no rfl) pk sH rfl (VR.ofV (V_fieldAddrN (B := ⟨b0_, 0, none⟩) (m := 0) (o := 0) Try.underlying131 rfl nz129 rfl rfl)) ?_
  refine DH_take 14 (by kernel_rfl) rfl rfl (.no rfl) pk sH rfl (VR_load_blk (b := b0_) (m := 0) (k := 0) Try.underlying129 rfl rfl rfl rfl) ?_
  refine DH_take (v := .int .i64 (p0.f0.length : Int)) 15 (by kernel_rfl) rfl rfl (.no rfl) pk sH rfl (VR.ofV (V_len Try.underlying129 rfl)) ?_
  obtain ⟨⟨g968, g969, g970, g971, g972⟩, H⟩ := g_pos H
  obtain ⟨n974, hn974, H⟩ := g_lt H
  refine DH_one 16 dd (by kernel_rfl) rfl (.no rfl) (OA.ghost (Gh.freeze (k := 0) rfl) (OA.ghost (Gh.subN (k := 0) (l := r6) (h := (p0.f0.length : Int)) (m := (p0.f0.length : Int)) (sz := 3) hn974 rfl rfl g968 g969 g970 (.inr g971)) (OA_r rfl (VR_sub (k := 0) (l := r6) (h := (p0.f0.length : Int)) (m := (p0.f0.length : Int)) hn974 rfl Try.underlying129 sz128 rfl rfl rfl rfl (.inr ⟨_, rfl⟩) (.inr ⟨_, rfl⟩) (.inr ⟨⟨_, rfl⟩, ⟨_, rfl⟩, g971, g972⟩) g968 g969 g970) ?_)))
  obtain ⟨r1028, C1032, H⟩ := g_bind H
  refine DH_one 17 dd (by kernel_rfl) rfl (.no rfl) (OA_callA [1] [0, 1] rfl (X_fn (vs := [.slice (slA A0_0 r6 (p0.f0.length : Int) 3) n974.length ((p0.f0.length : Int).toNat - r6.toNat)]) Try.func62 nm62 rfl rfl) rfl (F62.ok (l0 := n974) (A0 := slA A0_0 r6 (p0.f0.length : Int) 3) (c0 := (p0.f0.length : Int).toNat - r6.toNat) C1032) rfl ?_)
  rintro _ _ ⟨A1029, c1030, rfl, rfl⟩
  refine DH_take (v := .pointer (some ⟨b0_, 0, none⟩)) 18 (by kernel_rfl) rfl rfl (.no rfl) pk sH rfl (VR.ofV (V_nilCheck rfl)) ?_
  refine DH_take (v := .pointer (some ⟨b0_, 0, none⟩)) 19 (by kernel_rfl) rfl rfl (.no rfl) pk sH rfl (VR.ofV (V_fieldAddrN (B := ⟨b0_, 0, none⟩) (m := 0) (o := 0) Try.underlying131 rfl nz129 rfl rfl)) ?_
  refine DH_open dd sH ?_
  refine DN_one 20 (by kernel_rfl) rfl rfl (.no rfl) (OA_st (b := b0_) (m := 0) (k := 0) (vs := [.slice A1029 r1028.length c1030]) (cs' := [.slice A1029 r1028.length c1030, .string p0.f1.f0, .int .u64 p0.f2, .bool p0.f3, .int .u64 p0.f4]) rfl rfl rfl rfl rfl rfl sz129 rfl rfl ?_)
  refine DN_done (by kernel_rfl) ?_
  refine at_normal ?_
  refine SA.of_St (l := []) (B := [Blk b0_ 131 [.slice A1029 r1028.length c1030, .string p0.f1.f0, .int .u64 p0.f2, .bool p0.f3, .int .u64 p0.f4], Buf k128 128 A1029 c1030 r1028]) (St.mk1 aeq0 (Gh.sel [0, 1] (by kernel_rfl) (by kernel_rfl))) fun junk => ?_
  refine SA_seq ?_
  refine SA_region ?_
  refine RA_step rfl (OA_v (v := .int .i64 0) rfl (V_assign rfl) ?_)
  refine RA_nil ?_
  refine at_normal ?_
  refine SA_ret ?_
  have hr_ := Option.some.inj H
  subst hr_
  exact BQ_R1 [Blk b0_ 131 [.slice A1029 r1028.length c1030, .string p0.f1.f0, .int .u64 p0.f2, .bool p0.f3, .int .u64 p0.f4], Buf k128 128 A1029 c1030 r1028] rfl rfl (Gh.sel [0, 1] rfl rfl) ⟨A1029, c1030, rfl, rfl⟩

/-! ### function 24: (*wayfarer/wayfarerref23.Sender).Ack -/
def F24b0.l0 (a1 : Int) : Nat → S49 → Int → Option (Out (Int × S49) (S49))
  | 0, _, _ => none
  | k + 1, y1_7, x5_7 => if x5_7 < (y1_7.f1.length : Int) then (if 0 ≤ x5_7 ∧ x5_7 < (y1_7.f1.length : Int) then (if ((rd y1_7.f1 x5_7).f0) = a1 then (if 0 ≤ x5_7 ∧ x5_7 ≤ (y1_7.f1.length : Int) ∧ (y1_7.f1.length : Int) ≤ (y1_7.f1.length : Int) then lt (sub y1_7.f1 x5_7 (y1_7.f1.length : Int)) fun n25 => (if ([] : (List S63)).length + n25.length ≤ 4398046511104 then lt (([] : (List S63)) ++ n25) fun n30 => (some (Out.ret ((0, (S49.mk y1_7.f0 n30 y1_7.f2 y1_7.f3 y1_7.f4))))) else none) else none) else (lt (IntKind.i64.wrap (x5_7 + 1)) fun n31 => F24b0.l0 a1 k y1_7 n31)) else none) else (some (Out.go y1_7))
def F24b0.f (k : Nat) (p0 : S49) (a1 : Int) : Option (Int × S49) := (F24b0.l0 a1 k p0 0 : Option (Out (Int × S49) (S49))).bind (fun t3 => Out.el t3 (fun r_ => some r_) (fun s4 => some ((230, s4))))
set_option maxHeartbeats 2000000 in
set_option maxRecDepth 100000 in
theorem F24b0.ok {k : Nat} {p0 : S49} {a1 : Int} {b0_ : Nat} {A0_0 : Option Addr} {c0_0 : Nat} {r : Int × S49} (H : F24b0.f k p0 a1 = some r) : SCA Try.prog 24 #[.pointer (some ⟨b0_, 0, none⟩), .int .u64 a1] [Blk b0_ 49 [.string p0.f0, .slice A0_0 p0.f1.length c0_0, .bool p0.f2, .int .u64 p0.f3, .int .u64 p0.f4], Buf k63 63 A0_0 c0_0 p0.f1] (fun v B => ∃ (P0_0_ : Option Addr) (q0_0_ : Nat), v = .int .i64 r.1 ∧ B = [Blk b0_ 49 [.string r.2.f0, .slice P0_0_ r.2.f1.length q0_0_, .bool r.2.f2, .int .u64 r.2.f3, .int .u64 r.2.f4], Buf k63 63 P0_0_ q0_0_ r.2.f1]) := by
  refine SCA_of_body Try.func24 rfl rfl ?_
  unfold F24b0.f at H
  refine SA_seq ?_
  refine SA_region ?_
  refine RA_step rfl (OA_v (v := .int .i64 0) rfl (V_assign rfl) ?_)
  refine RA_nil ?_
  refine at_normal ?_
  refine SA_seq ?_
  refine SA_seq ?_
  refine SA_region ?_
  refine RA_step rfl (OA_v (v := .int .i64 0) rfl (V_assign rfl) ?_)
  refine RA_nil ?_
  refine at_normal ?_
  obtain ⟨t3, H, Bt3⟩ := g_bind H
  refine SA_mid (fun e ds As => ∃ (s4 : S49), t3 = Out.go s4 ∧ ∃ (A5 : Option Addr) (c6 : Nat), St [] [Blk b0_ 49 [.string s4.f0, .slice A5 s4.f1.length c6, .bool s4.f2, .int .u64 s4.f3, .int .u64 s4.f4], Buf k63 63 A5 c6 s4.f1] e ds As) ?_ ?_
  · refine SA_block ?_
    refine SA_loop (fun k_ e ds As => ∃ (y1_7 : S49) (x5_7 : Int), ∃ (A8 : Option Addr) (c9 : Nat), F24b0.l0 a1 k_ y1_7 x5_7 = some t3 ∧ St [(0, .pointer (some ⟨b0_, 0, none⟩)), (1, .int .u64 a1), (5, .int .i64 x5_7)] [Blk b0_ 49 [.string y1_7.f0, .slice A8 y1_7.f1.length c9, .bool y1_7.f2, .int .u64 y1_7.f3, .int .u64 y1_7.f4], Buf k63 63 A8 c9 y1_7.f1] e ds As) (k := k) ⟨_, _, A0_0, c0_0, H, St.mk1 (aeq rfl (aeq rfl (aeq rfl aeq0))) (Gh.sel [0, 1] rfl rfl)⟩ ?_
    clear H
    rintro k11 e ds As ⟨y1_7, x5_7, A8, c9, H, hst12⟩
    obtain _ | k11 := k11
    · cases H
    rw [F24b0.l0] at H
    refine SA.of_St hst12 fun junk => ?_
    refine SA_seq ?_
    refine SA_seq ?_
    refine SA_region ?_
    refine RA_step rfl (OA_v (v := .int .i64 x5_7) rfl (V_move rfl) ?_)
    refine RA_step rfl (OA_v (v := .pointer (some ⟨b0_, 0, none⟩)) rfl (V_move rfl) ?_)
    refine RA_step rfl (OA_v (v := .pointer (some ⟨b0_, 0, none⟩)) rfl (V_nilCheck rfl) ?_)
    refine RA_step rfl (OA_v (v := .pointer (some ((⟨b0_, 0, none⟩ : Addr).add 1))) rfl (V_fieldAddrN (B := ⟨b0_, 0, none⟩) (m := 0) (o := 1) Try.underlying49 rfl nz47 rfl rfl) ?_)
    refine RA_step rfl (OA_r rfl (VR_load_blk (b := b0_) (m := 1) (k := 0) Try.underlying47 rfl rfl rfl rfl) ?_)
    refine RA_step rfl (OA_v (v := .int .i64 (y1_7.f1.length : Int)) rfl (V_len Try.underlying47 rfl) ?_)
    refine RA_step rfl (OA_v (v := .bool (decide (x5_7 < (y1_7.f1.length : Int)))) rfl (V_lss rfl rfl) ?_)
    refine RA_nil ?_
    refine at_normal ?_
    by_cases h13 : x5_7 < (y1_7.f1.length : Int)
    · replace H := g_ift h13 H
      refine SA_condT rfl h13 ?_
      refine SA_skip ?_
      refine at_normal ?_
      refine SA_seq ?_
      refine SA_block ?_
      refine SA_seq ?_
      refine SA_region ?_
      refine RA_step rfl (OA_v (v := .pointer (some ⟨b0_, 0, none⟩)) rfl (V_move rfl) ?_)
      refine RA_step rfl (OA_v (v := .pointer (some ⟨b0_, 0, none⟩)) rfl (V_nilCheck rfl) ?_)
      refine RA_step rfl (OA_v (v := .pointer (some ((⟨b0_, 0, none⟩ : Addr).add 1))) rfl (V_fieldAddrN (B := ⟨b0_, 0, none⟩) (m := 0) (o := 1) Try.underlying49 rfl nz47 rfl rfl) ?_)
      refine RA_step rfl (OA_r rfl (VR_load_blk (b := b0_) (m := 1) (k := 0) Try.underlying47 rfl rfl rfl rfl) ?_)
      refine RA_step rfl (OA_v (v := .int .i64 x5_7) rfl (V_move rfl) ?_)
      obtain ⟨⟨g14, g15⟩, H⟩ := g_pos H
      refine RA_step rfl (OA_r rfl (VR_index (i := x5_7) Try.underlying47 sz63 rfl rfl (Src.buf (k := 1) rfl) g14 g15) ?_)
      refine RA_step rfl (OA_v (v := .pointer (some ((el A8 (x5_7.toNat * 3)).add 0))) rfl (V_fieldAddrN (B := el A8 (x5_7.toNat * 3)) (m := 0) (o := 0) Try.underlying63 rfl nz44 rfl rfl) ?_)
      refine RA_step rfl (OA_r rfl (VR_load_el (enc := enc63) (i := x5_7) (j := x5_7.toNat * 3) (m := 0) (sz := 3) Try.underlying44 rfl rfl rfl rfl (Src.buf (k := 1) rfl) g14 g15 (fun _ _ h => h) rfl) ?_)
      refine RA_step rfl (OA_v (v := .int .u64 a1) rfl (V_move rfl) ?_)
      refine RA_step rfl (OA_v (v := .bool (decide (((rd y1_7.f1 x5_7).f0) = a1))) rfl (V_eql rfl rfl) ?_)
      refine RA_nil ?_
      refine at_normal ?_
      by_cases h16 : ((rd y1_7.f1 x5_7).f0) = a1
      · replace H := g_ift h16 H
        refine SA_condT rfl h16 ?_
        refine SA_seq ?_
        refine SA_region ?_
        refine RA_step rfl (OA_v (v := .pointer (some ⟨b0_, 0, none⟩)) rfl (V_move rfl) ?_)
        refine RA_step rfl (OA_bs (kd := k63) (zv := (.agg #[.int .u64 0, .string ByteArray.empty, .int .u64 0])) (sz := 3) (cells := []) (xs := ([] : (List S63))) rfl Try.underlying47 zero63 sz63 rfl rfl rfl (by kernel_rfl) rfl rfl (RL_enc enc63 (fun _ _ => rfl) (by kernel_rfl)) fun b17 => ?_)
        refine RA_step rfl (OA_v (v := .pointer (some ⟨b0_, 0, none⟩)) rfl (V_move rfl) ?_)
        refine RA_step rfl (OA_v (v := .pointer (some ⟨b0_, 0, none⟩)) rfl (V_nilCheck rfl) ?_)
        refine RA_step rfl (OA_v (v := .pointer (some ((⟨b0_, 0, none⟩ : Addr).add 1))) rfl (V_fieldAddrN (B := ⟨b0_, 0, none⟩) (m := 0) (o := 1) Try.underlying49 rfl nz47 rfl rfl) ?_)
        refine RA_step rfl (OA_r rfl (VR_load_blk (b := b0_) (m := 1) (k := 0) Try.underlying47 rfl rfl rfl rfl) ?_)
        refine RA_step rfl (OA_v (v := .int .i64 x5_7) rfl (V_move rfl) ?_)
        obtain ⟨⟨g19, g20, g21⟩, H⟩ := g_pos H
        obtain ⟨n25, hn25, H⟩ := g_lt H
        refine RA_step rfl (OA.ghost (Gh.freeze (k := 1) rfl) (OA.ghost (Gh.subN (k := 1) (l := x5_7) (h := (y1_7.f1.length : Int)) (m := (c9 : Int)) (sz := 3) hn25 rfl rfl g19 g20 g21 (.inl rfl)) (OA_r rfl (VR_sub (k := 1) (l := x5_7) (h := (y1_7.f1.length : Int)) (m := (c9 : Int)) hn25 rfl Try.underlying47 sz63 rfl rfl rfl rfl (.inr ⟨_, rfl⟩) (.inl ⟨rfl, rfl, rfl⟩) (.inl ⟨rfl, rfl⟩) g19 g20 g21) ?_)))
        obtain ⟨g27, H⟩ := g_pos H
        obtain ⟨n30, hn30, H⟩ := g_lt H
        refine RA_step rfl (OA_app (k := 2) (A := some ⟨b17, 0, none⟩) (c := 0) (xs := ([] : (List S63))) (ys := n25) n30 hn30 rfl Try.underlying47 inf63 rfl rfl rfl rfl rfl (Yld.slice Try.underlying47 (Src.ro (k := 3) rfl)) (by omega) (by omega) fun A28 c29 => ?_)
        refine RA_step rfl (OA_v (v := .pointer (some ⟨b0_, 0, none⟩)) rfl (V_nilCheck rfl) ?_)
        refine RA_step rfl (OA_v (v := .pointer (some ((⟨b0_, 0, none⟩ : Addr).add 1))) rfl (V_fieldAddrN (B := ⟨b0_, 0, none⟩) (m := 0) (o := 1) Try.underlying49 rfl nz47 rfl rfl) ?_)
        refine RA_step rfl (OA_st (b := b0_) (m := 1) (k := 0) (vs := [.slice A28 n30.length c29]) (cs' := [.string y1_7.f0, .slice A28 n30.length c29, .bool y1_7.f2, .int .u64 y1_7.f3, .int .u64 y1_7.f4]) rfl rfl rfl rfl rfl rfl sz47 rfl rfl ?_)
        refine RA_nil ?_
        refine at_normal ?_
        refine SA.of_St (l := []) (B := [Blk b0_ 49 [.string y1_7.f0, .slice A28 n30.length c29, .bool y1_7.f2, .int .u64 y1_7.f3, .int .u64 y1_7.f4], Buf k63 63 A28 c29 n30]) (St.mk1 aeq0 (Gh.sel [0, 2] (by kernel_rfl) (by kernel_rfl))) fun junk => ?_
        refine SA_seq ?_
        refine SA_region ?_
        refine RA_step rfl (OA_v (v := .int .i64 0) rfl (V_assign rfl) ?_)
        refine RA_nil ?_
        refine at_normal ?_
        refine SA_ret ?_
        refine inb_ret ?_
        refine thn_ret ?_
        refine thn_ret ?_
        refine inb_ret ?_
        refine thn_ret ?_
        refine thn_ret ?_
        have hr_ := Option.some.inj H
        subst hr_
        have hb_ := el_ret Bt3
        have hr_ := Option.some.inj hb_
        clear hb_
        subst hr_
        exact BQ_R1 [Blk b0_ 49 [.string y1_7.f0, .slice A28 n30.length c29, .bool y1_7.f2, .int .u64 y1_7.f3, .int .u64 y1_7.f4], Buf k63 63 A28 c29 n30] rfl rfl (Gh.sel [0, 1] rfl rfl) ⟨A28, c29, rfl, rfl⟩
      replace H := g_iff h16 H
      refine SA_condF rfl h16 ?_
      refine SA_skip ?_
      refine inb_normal ?_
      refine at_normal ?_
      refine SA_region ?_
      refine RA_step rfl (OA_v (v := .int .i64 x5_7) rfl (V_move rfl) ?_)
      refine RA_step rfl (OA_v (v := .int .i64 (IntKind.i64.wrap (x5_7 + 1))) rfl (V_add rfl rfl) ?_)
      obtain ⟨n31, hn31, H⟩ := g_lt H
      refine RA_step rfl (OA_v (v := .int .i64 n31) rfl (V_assign (v := .int .i64 n31) (congrArg (Value.int .i64) hn31.symm)) ?_)
      refine RA_nil ?_
      exact at_normal ⟨k11, Nat.lt_succ_self _, _, _, A8, c9, H, St.mk1 (aeq rfl (aeq rfl (aeq rfl aeq0))) (Gh.sel [0, 1] rfl rfl)⟩
    replace H := g_iff h13 H
    refine SA_condF rfl h13 ?_
    refine SA_exit ?_
    refine thn_exit ?_
    refine thn_exit ?_
    refine inb_hit ?_
    have hr_ := Option.some.inj H
    subst hr_
    exact at_normal ⟨y1_7, rfl, A8, c9, St.mk1 aeq0 (Gh.sel [0, 1] rfl rfl)⟩
  rintro e ds As ⟨s4, ht, A5, c6, hst32⟩
  clear H
  subst ht
  replace Bt3 := el_go Bt3
  have H := Bt3
  clear Bt3
  refine at_normal ?_
  refine SA.of_St hst32 fun junk => ?_
  refine SA_seq ?_
  refine SA_region ?_
  refine RA_step rfl (OA_v (v := .int .i64 230) rfl (V_assign rfl) ?_)
  refine RA_nil ?_
  refine at_normal ?_
  refine SA_ret ?_
  have hr_ := Option.some.inj H
  subst hr_
  exact BQ_R1 [Blk b0_ 49 [.string s4.f0, .slice A5 s4.f1.length c6, .bool s4.f2, .int .u64 s4.f3, .int .u64 s4.f4], Buf k63 63 A5 c6 s4.f1] rfl rfl (Gh.sel [0, 1] rfl rfl) ⟨A5, c6, rfl, rfl⟩

/-! ### function 145: (wayfarer/wayfarerlaw23.text).Same -/
def F145.f (a0 : S41) (a1 : S41) : Option (Bool) := some (decide (a0.f0 = a1.f0))
set_option maxHeartbeats 2000000 in
set_option maxRecDepth 100000 in
theorem F145.ok {a0 : S41} {a1 : S41} {r : Bool} (H : F145.f a0 a1 = some r) : SCA Try.prog 145 #[.agg #[.string a0.f0], .agg #[.string a1.f0]] [] (fun v B => v = .bool r ∧ B = []) := by
  refine SCA_of_body Try.func145 rfl rfl ?_
  unfold F145.f at H
  refine SA_seq ?_
  refine SA_region ?_
  refine RA_step rfl (OA_box rfl rfl fun b1 => ?_)
  refine RA_step rfl (OA_box rfl rfl fun b3 => ?_)
  refine RA_step rfl (OA_v (v := .bool false) rfl (V_assign rfl) ?_)
  refine RA_nil ?_
  refine at_normal ?_
  refine SA_seq ?_
  refine SA_region ?_
  refine RA_step rfl (OA_v (v := .pointer (some ⟨b1, 0, none⟩)) rfl (V_fieldAddrN (B := ⟨b1, 0, none⟩) (m := 0) (o := 0) Try.underlying41 rfl nz9 rfl rfl) ?_)
  refine RA_step rfl (OA_r rfl (VR_load_blk (b := b1) (m := 0) (k := 0) Try.underlying9 rfl rfl rfl rfl) ?_)
  refine RA_step rfl (OA_v (v := .pointer (some ⟨b3, 0, none⟩)) rfl (V_fieldAddrN (B := ⟨b3, 0, none⟩) (m := 0) (o := 0) Try.underlying41 rfl nz9 rfl rfl) ?_)
  refine RA_step rfl (OA_r rfl (VR_load_blk (b := b3) (m := 0) (k := 1) Try.underlying9 rfl rfl rfl rfl) ?_)
  refine RA_step rfl (OA_v (v := .bool (decide (a0.f0 = a1.f0))) rfl (V_eqlS rfl rfl) ?_)
  refine RA_step rfl (OA_v (v := .bool (decide (a0.f0 = a1.f0))) rfl (V_assign rfl) ?_)
  refine RA_nil ?_
  refine at_normal ?_
  refine SA_ret ?_
  have hr_ := Option.some.inj H
  subst hr_
  exact BQ_R1 [] rfl rfl (Gh.sel [] rfl rfl) ⟨rfl, rfl⟩

/-! ### function 101: wayfarer/ssp.past -/
def F101.f (a0 : Int) (a1 : Int) (a2 : Int) : Option (Bool) := some (decide ((IntKind.u64.wrap (a0 - a1)) ≥ (IntKind.u64.wrap (a2))))
set_option maxHeartbeats 2000000 in
set_option maxRecDepth 100000 in
theorem F101.ok {a0 : Int} {a1 : Int} {a2 : Int} {r : Bool} (H : F101.f a0 a1 a2 = some r) : SCA Try.prog 101 #[.int .u64 a0, .int .u64 a1, .int .i64 a2] [] (fun v B => v = .bool r ∧ B = []) := by
  refine SCA_of_body Try.func101 rfl rfl ?_
  unfold F101.f at H
  refine SA_seq ?_
  refine SA_region ?_
  refine RA_step rfl (OA_v (v := .bool false) rfl (V_assign rfl) ?_)
  refine RA_nil ?_
  refine at_normal ?_
  refine SA_seq ?_
  refine SA_region ?_
  refine RA_step rfl (OA_v (v := .int .u64 a0) rfl (V_move rfl) ?_)
  refine RA_step rfl (OA_v (v := .int .u64 a1) rfl (V_move rfl) ?_)
  refine RA_step rfl (OA_v (v := .int .u64 (IntKind.u64.wrap (a0 - a1))) rfl (V_sub rfl rfl) ?_)
  refine RA_step rfl (OA_v (v := .int .i64 a2) rfl (V_move rfl) ?_)
  refine RA_step rfl (OA_v (v := .int .u64 (IntKind.u64.wrap (a2))) rfl (V_conv (T := 3) (by kernel_rfl) Try.underlying44 rfl) ?_)
  refine RA_step rfl (OA_v (v := .bool (decide ((IntKind.u64.wrap (a0 - a1)) ≥ (IntKind.u64.wrap (a2))))) rfl (V_geq rfl rfl) ?_)
  refine RA_step rfl (OA_v (v := .bool (decide ((IntKind.u64.wrap (a0 - a1)) ≥ (IntKind.u64.wrap (a2))))) rfl (V_assign rfl) ?_)
  refine RA_nil ?_
  refine at_normal ?_
  refine SA_ret ?_
  have hr_ := Option.some.inj H
  subst hr_
  exact BQ_R1 [] rfl rfl (Gh.sel [] rfl rfl) ⟨rfl, rfl⟩

/-! ### function 63: (*wayfarer/ssp.Sender[wayfarer/wayfarerlaw23.text]).due -/
def F63b0.f (p0 : S131) (a1 : Int) (a2 : Int) (a3 : Int) : Option (Nat × Int × (List S128)) := if 0 ≤ (IntKind.i64.wrap ((p0.f0.length : Int) - 1)) ∧ (IntKind.i64.wrap ((p0.f0.length : Int) - 1)) < (p0.f0.length : Int) then ((if (p0.f0.length : Int) < 32 then (if (!p0.f3) = true then ((F145.f p0.f1 ((rd p0.f0 (IntKind.i64.wrap ((p0.f0.length : Int) - 1))).f1)).bind (fun r2645 => some (!r2645))) else ((F101.f a1 p0.f2 a2).bind (fun r1985 => if r1985 = true then ((F145.f p0.f1 ((rd p0.f0 (IntKind.i64.wrap ((p0.f0.length : Int) - 1))).f1)).bind (fun r2645 => some (!r2645))) else (some false)))) else (some false) : Option (Bool)).bind (fun t844 => if t844 = true then (if 0 ≤ (0 : Int) ∧ (0 : Int) ≤ (p0.f0.length : Int) ∧ (p0.f0.length : Int) ≤ (p0.f0.length : Int) ∧ (p0.f0.length : Int) ≤ (p0.f0.length : Int) ∧ (p0.f0.length : Int) ≤ (p0.f0.length : Int) then ((F143.f p0.f1).bind (fun r4272 => if (sub p0.f0 (0 + (0 : Int)) ((0 + (0 : Int)) + ((p0.f0.length : Int) - (0 : Int)))).length + ([(S128.mk (IntKind.u64.wrap (((rd p0.f0 (IntKind.i64.wrap ((p0.f0.length : Int) - 1))).f0) + 1)) r4272 0)] : (List S128)).length ≤ 4398046511104 then lt ((sub p0.f0 (0 + (0 : Int)) ((0 + (0 : Int)) + ((p0.f0.length : Int) - (0 : Int)))) ++ ([(S128.mk (IntKind.u64.wrap (((rd p0.f0 (IntKind.i64.wrap ((p0.f0.length : Int) - 1))).f0) + 1)) r4272 0)] : (List S128))) fun n4456 => (lt (IntKind.i64.wrap ((n4456.length : Int) - 1)) fun n4573 => some ((0, n4573, n4456))) else none)) else none) else ((if (p0.f0.length : Int) > 1 then ((F101.f a1 ((rd p0.f0 (IntKind.i64.wrap ((p0.f0.length : Int) - 1))).f2) a3).bind (fun r4576 => some r4576)) else (some false) : Option Bool).bind (fun q4574 => (if q4574 = true then (some q4574) else ((if (!p0.f3) = true then (some true) else ((F101.f a1 p0.f2 3000).bind (fun r4583 => some r4583)) : Option Bool).bind (fun q4581 => some q4581)) : Option (Bool)).bind (fun t4579 => if t4579 = true then (lt (IntKind.i64.wrap ((p0.f0.length : Int) - 1)) fun n5188 => some ((1, n5188, p0.f0))) else (some ((0, (-1), ([] : (List S128)))))))))) else none
set_option maxHeartbeats 2000000 in
set_option maxRecDepth 100000 in
theorem F63b0.ok {p0 : S131} {a1 : Int} {a2 : Int} {a3 : Int} {b0_ : Nat} {A0_0 : Option Addr} {c0_0 : Nat} {r : Nat × Int × (List S128)} (H : F63b0.f p0 a1 a2 a3 = some r) : SCA Try.prog 63 #[.pointer (some ⟨b0_, 0, none⟩), .int .u64 a1, .int .i64 a2, .int .i64 a3] [Blk b0_ 131 [.slice A0_0 p0.f0.length c0_0, .string p0.f1.f0, .int .u64 p0.f2, .bool p0.f3, .int .u64 p0.f4], Buf k128 128 A0_0 c0_0 p0.f0] (fun v B => (r.1 = 0 ∧ ∃ (A1_0_ : Option Addr) (c1_0_ : Nat), v = .tuple #[.int .i64 r.2.1, .slice A1_0_ r.2.2.length c1_0_] ∧ B = [Buf k128 128 A1_0_ c1_0_ r.2.2, Blk b0_ 131 [.slice A0_0 p0.f0.length c0_0, .string p0.f1.f0, .int .u64 p0.f2, .bool p0.f3, .int .u64 p0.f4], Buf k128 128 A0_0 c0_0 p0.f0]) ∨ (r.1 = 1 ∧ v = .tuple #[.int .i64 r.2.1, .slice A0_0 p0.f0.length c0_0] ∧ B = [Blk b0_ 131 [.slice A0_0 p0.f0.length c0_0, .string p0.f1.f0, .int .u64 p0.f2, .bool p0.f3, .int .u64 p0.f4], Buf k128 128 A0_0 c0_0 p0.f0])) := by
  refine SCA_of_body Try.func63 rfl rfl ?_
  unfold F63b0.f at H
  refine SA_seq ?_
  refine SA_region ?_
  refine RA_step rfl (OA_v (v := .int .i64 0) rfl (V_assign rfl) ?_)
  refine RA_step rfl (OA_v (v := .slice none 0 0) rfl (V_assign rfl) ?_)
  refine RA_nil ?_
  refine at_normal ?_
  refine SA_seq ?_
  refine SA_drawHq [0, 1, 2, 3, 4, 5, 6, 7, 8, 9, 10, 11] (List.toArray ([] :: [0] :: [0, 1] :: [0, 1, 2] :: [] :: [4] :: [4, 5] :: [4, 5, 6] :: [4, 5, 6, 7] :: [4, 5, 6, 7, 8] :: [0, 1, 2, 3, 4, 5, 6, 7, 8, 9] :: [0, 1, 2, 3, 4, 5, 6, 7, 8, 9, 10] :: [] :: [0, 1, 2, 3, 4, 5, 6, 7, 8, 9, 10, 11] :: [])) [0, 1] [] mixed rfl rfl rfl (PanOk.thn PanOk.body) fun I0 hS h0 hh0 w0 sH dd pk => ?_
  refine DH_take (v := .pointer (some ⟨b0_, 0, none⟩)) 0 (by kernel_rfl) rfl rfl (.no rfl) pk sH rfl (VR.ofV (V_move rfl)) ?_
  refine DH_take (v := .pointer (some ⟨b0_, 0, none⟩)) 1 (by kernel_rfl) rfl rfl (.no rfl) pk sH rfl (VR.ofV (V_nilCheck rfl)) ?_
  refine DH_take (v := .pointer (some ⟨b0_, 0, none⟩)) 2 (by kernel_rfl) rfl rfl (.no rfl) pk sH rfl (VR.ofV (V_fieldAddrN (B := ⟨b0_, 0, none⟩) (m := 0) (o := 0) Try.underlying131 rfl nz129 rfl rfl)) ?_
  refine DH_take 3 (by kernel_rfl) rfl rfl (.no rfl) pk sH rfl (VR_load_blk (b := b0_) (m := 0) (k := 0) Try.underlying129 rfl rfl rfl rfl) ?_
  refine DH_take (v := .pointer (some ⟨b0_, 0, none⟩)) 4 (by kernel_rfl) rfl rfl (.no rfl) pk sH rfl (VR.ofV (V_move rfl)) ?_
  refine DH_take (v := .pointer (some ⟨b0_, 0, none⟩)) 5 (by kernel_rfl) rfl rfl (.no rfl) pk sH rfl (VR.ofV (V_nilCheck rfl)) ?_
  refine DH_take (v := .pointer (some ⟨b0_, 0, none⟩)) 6 (by kernel_rfl) rfl rfl (.no rfl) pk sH rfl (VR.ofV (V_fieldAddrN (B := ⟨b0_, 0, none⟩) (m := 0) (o := 0) Try.underlying131 rfl nz129 rfl rfl)) ?_
  refine DH_take 7 (by kernel_rfl) rfl rfl (.no rfl) pk sH rfl (VR_load_blk (b := b0_) (m := 0) (k := 0) Try.underlying129 rfl rfl rfl rfl) ?_
  refine DH_take (v := .int .i64 (p0.f0.length : Int)) 8 (by kernel_rfl) rfl rfl (.no rfl) pk sH rfl (VR.ofV (V_len Try.underlying129 rfl)) ?_
  refine DH_take (v := .int .i64 (IntKind.i64.wrap ((p0.f0.length : Int) - 1))) 9 (by kernel_rfl) rfl rfl (.no rfl) pk sH rfl (VR.ofV (V_sub rfl rfl)) ?_
  obtain ⟨⟨g603, g604⟩, H⟩ := g_pos H
  refine DH_take 10 (by kernel_rfl) rfl rfl (.no rfl) pk sH rfl (VR_index (i := IntKind.i64.wrap ((p0.f0.length : Int) - 1)) Try.underlying129 sz128 rfl rfl (Src.buf (k := 1) rfl) g603 g604) ?_
  refine DH_take 11 (by kernel_rfl) rfl rfl (.no rfl) pk sH rfl (VR_loadA_el (enc := enc128) (i := IntKind.i64.wrap ((p0.f0.length : Int) - 1)) (j := (IntKind.i64.wrap ((p0.f0.length : Int) - 1)).toNat * 3) (m := 0) (sz := 3) (vs := [.int .u64 ((rd p0.f0 (IntKind.i64.wrap ((p0.f0.length : Int) - 1))).f0), .string (((rd p0.f0 (IntKind.i64.wrap ((p0.f0.length : Int) - 1))).f1).f0), .int .u64 ((rd p0.f0 (IntKind.i64.wrap ((p0.f0.length : Int) - 1))).f2)]) Try.underlying128 rfl sz128 rfl rfl rfl (Src.buf (k := 1) rfl) g603 g604 (fun _ _ h => h) rfl) ?_
  refine DH_one 12 dd (by kernel_rfl) rfl (.no rfl) (OA_alloc rfl zero128 fun b723 => ?_)
  refine DH_one 13 dd (by kernel_rfl) rfl (.no rfl) (OA_st (b := b723) (m := 0) (k := 0) (vs := [.int .u64 ((rd p0.f0 (IntKind.i64.wrap ((p0.f0.length : Int) - 1))).f0), .string (((rd p0.f0 (IntKind.i64.wrap ((p0.f0.length : Int) - 1))).f1).f0), .int .u64 ((rd p0.f0 (IntKind.i64.wrap ((p0.f0.length : Int) - 1))).f2)]) (cs' := [.int .u64 ((rd p0.f0 (IntKind.i64.wrap ((p0.f0.length : Int) - 1))).f0), .string (((rd p0.f0 (IntKind.i64.wrap ((p0.f0.length : Int) - 1))).f1).f0), .int .u64 ((rd p0.f0 (IntKind.i64.wrap ((p0.f0.length : Int) - 1))).f2)]) rfl rfl rfl rfl rfl rfl sz128 rfl rfl ?_)
  refine DH_open dd sH ?_
  refine DN_done (by kernel_rfl) ?_
  refine at_normal ?_
  refine SA_seq ?_
  refine SA_block ?_
  refine SA_seq ?_
  obtain ⟨t844, H, Bt844⟩ := g_bind H
  refine SA_mid (fun e ds As => St [(0, .pointer (some ⟨b0_, 0, none⟩)), (1, .int .u64 a1), (3, .int .i64 a3), (10, .pointer (some ⟨b723, 0, none⟩)), (24, .bool t844)] [Blk b0_ 131 [.slice A0_0 p0.f0.length c0_0, .string p0.f1.f0, .int .u64 p0.f2, .bool p0.f3, .int .u64 p0.f4], Buf k128 128 A0_0 c0_0 p0.f0, Blk b723 128 [.int .u64 ((rd p0.f0 (IntKind.i64.wrap ((p0.f0.length : Int) - 1))).f0), .string (((rd p0.f0 (IntKind.i64.wrap ((p0.f0.length : Int) - 1))).f1).f0), .int .u64 ((rd p0.f0 (IntKind.i64.wrap ((p0.f0.length : Int) - 1))).f2)]] e ds As) ?_ ?_
  · refine SA_drawHq (0 :: 1 :: 2 :: 3 :: 4 :: 5 :: 6 :: 7 :: 8 :: 9 :: 10 :: 11 :: 12 :: 13 :: 14 :: 15 :: 16 :: 17 :: 18 :: 19 :: 20 :: 21 :: 22 :: 23 :: 24 :: 25 :: 26 :: 27 :: 28 :: 29 :: 30 :: 31 :: 32 :: 33 :: []) (List.toArray ([] :: [0] :: [0, 1] :: [0, 1, 2] :: [0, 1, 2, 3] :: [0, 1, 2, 3, 4] :: [0, 1, 2, 3, 4, 5] :: [0, 1, 2, 3, 4, 5, 6] :: [0, 1, 2, 3, 4, 5, 6, 7] :: [0, 1, 2, 3, 4, 5, 6, 7, 8] :: [0, 1, 2, 3, 4, 5, 6, 7, 8, 9] :: [0, 1, 2, 3, 4, 5, 6, 7, 8, 9, 10] :: [0, 1, 2, 3, 4, 5, 6, 7, 8, 9, 10, 11] :: (0 :: 1 :: 2 :: 3 :: 4 :: 5 :: 6 :: 7 :: 8 :: 9 :: 10 :: 11 :: 12 :: []) :: (0 :: 1 :: 2 :: 3 :: 4 :: 5 :: 6 :: 7 :: 8 :: 9 :: 10 :: 11 :: 12 :: []) :: (0 :: 1 :: 2 :: 3 :: 4 :: 5 :: 6 :: 7 :: 8 :: 9 :: 10 :: 11 :: 12 :: 14 :: []) :: (0 :: 1 :: 2 :: 3 :: 4 :: 5 :: 6 :: 7 :: 8 :: 9 :: 10 :: 11 :: 12 :: 14 :: 15 :: []) :: (0 :: 1 :: 2 :: 3 :: 4 :: 5 :: 6 :: 7 :: 8 :: 9 :: 10 :: 11 :: 12 :: 14 :: 15 :: 16 :: []) :: (0 :: 1 :: 2 :: 3 :: 4 :: 5 :: 6 :: 7 :: 8 :: 9 :: 10 :: 11 :: 12 :: []) :: (0 :: 1 :: 2 :: 3 :: 4 :: 5 :: 6 :: 7 :: 8 :: 9 :: 10 :: 11 :: 12 :: 13 :: 14 :: 15 :: 16 :: 17 :: 18 :: []) :: (0 :: 1 :: 2 :: 3 :: 4 :: 5 :: 6 :: 7 :: 8 :: 9 :: 10 :: 11 :: 12 :: 13 :: 14 :: 15 :: 16 :: 17 :: 18 :: 19 :: []) :: (0 :: 1 :: 2 :: 3 :: 4 :: 5 :: 6 :: 7 :: 8 :: 9 :: 10 :: 11 :: 12 :: 13 :: 14 :: 15 :: 16 :: 17 :: 18 :: 19 :: 20 :: []) :: (0 :: 1 :: 2 :: 3 :: 4 :: 5 :: 6 :: 7 :: 8 :: 9 :: 10 :: 11 :: 12 :: 13 :: 14 :: 15 :: 16 :: 17 :: 18 :: 19 :: 20 :: 21 :: []) :: (0 :: 1 :: 2 :: 3 :: 4 :: 5 :: 6 :: 7 :: 8 :: 9 :: 10 :: 11 :: 12 :: 13 :: 14 :: 15 :: 16 :: 17 :: 18 :: 19 :: 20 :: 21 :: 22 :: []) :: (0 :: 1 :: 2 :: 3 :: 4 :: 5 :: 6 :: 7 :: 8 :: 9 :: 10 :: 11 :: 12 :: 13 :: 14 :: 15 :: 16 :: 17 :: 18 :: 19 :: 20 :: 21 :: 22 :: 23 :: []) :: (0 :: 1 :: 2 :: 3 :: 4 :: 5 :: 6 :: 7 :: 8 :: 9 :: 10 :: 11 :: 12 :: 13 :: 14 :: 15 :: 16 :: 17 :: 18 :: 19 :: 20 :: 21 :: 22 :: 23 :: 24 :: []) :: (0 :: 1 :: 2 :: 3 :: 4 :: 5 :: 6 :: 7 :: 8 :: 9 :: 10 :: 11 :: 12 :: 13 :: 14 :: 15 :: 16 :: 17 :: 18 :: 19 :: 20 :: 21 :: 22 :: 23 :: 24 :: 25 :: []) :: (0 :: 1 :: 2 :: 3 :: 4 :: 5 :: 6 :: 7 :: 8 :: 9 :: 10 :: 11 :: 12 :: 13 :: 14 :: 15 :: 16 :: 17 :: 18 :: 19 :: 20 :: 21 :: 22 :: 23 :: 24 :: 25 :: 26 :: []) :: (0 :: 1 :: 2 :: 3 :: 4 :: 5 :: 6 :: 7 :: 8 :: 9 :: 10 :: 11 :: 12 :: 13 :: 14 :: 15 :: 16 :: 17 :: 18 :: 19 :: 20 :: 21 :: 22 :: []) :: (0 :: 1 :: 2 :: 3 :: 4 :: 5 :: 6 :: 7 :: 8 :: 9 :: 10 :: 11 :: 12 :: 13 :: 14 :: 15 :: 16 :: 17 :: 18 :: 19 :: 20 :: 21 :: 22 :: 28 :: []) :: (0 :: 1 :: 2 :: 3 :: 4 :: 5 :: 6 :: 7 :: 8 :: 9 :: 10 :: 11 :: 12 :: 13 :: 14 :: 15 :: 16 :: 17 :: 18 :: 19 :: 20 :: 21 :: 22 :: 23 :: 24 :: 25 :: 26 :: 27 :: 28 :: 29 :: []) :: (0 :: 1 :: 2 :: 3 :: 4 :: 5 :: 6 :: 7 :: 8 :: 9 :: 10 :: 11 :: 12 :: 13 :: 14 :: 15 :: 16 :: 17 :: 18 :: 19 :: 20 :: 21 :: 22 :: 23 :: 24 :: 25 :: 26 :: 27 :: 28 :: 29 :: 30 :: []) :: (0 :: 1 :: 2 :: 3 :: 4 :: 5 :: 6 :: 7 :: 8 :: 9 :: 10 :: 11 :: 12 :: 13 :: 14 :: 15 :: 16 :: 17 :: 18 :: 19 :: 20 :: 21 :: 22 :: 23 :: 24 :: 25 :: 26 :: 27 :: 28 :: 29 :: 30 :: 31 :: []) :: (0 :: 1 :: 2 :: 3 :: 4 :: 5 :: 6 :: 7 :: 8 :: 9 :: 10 :: 11 :: 12 :: 13 :: 14 :: 15 :: 16 :: 17 :: 18 :: 19 :: 20 :: 21 :: 22 :: 23 :: 24 :: 25 :: 26 :: 27 :: 28 :: 29 :: 30 :: 31 :: 32 :: []) :: [])) [0, 2] [1] mixed rfl rfl rfl (PanOk.thn (PanOk.thn (PanOk.inb (PanOk.thn PanOk.body)))) fun I0 hS h0 hh0 w0 sH dd pk => ?_
    refine DH_take (v := .pointer (some ⟨b0_, 0, none⟩)) 0 (by kernel_rfl) rfl rfl (.no rfl) pk sH rfl (VR.ofV (V_move rfl)) ?_
    refine DH_take (v := .pointer (some ⟨b0_, 0, none⟩)) 1 (by kernel_rfl) rfl rfl (.no rfl) pk sH rfl (VR.ofV (V_nilCheck rfl)) ?_
    refine DH_take (v := .pointer (some ⟨b0_, 0, none⟩)) 2 (by kernel_rfl) rfl rfl (.no rfl) pk sH rfl (VR.ofV (V_fieldAddrN (B := ⟨b0_, 0, none⟩) (m := 0) (o := 0) Try.underlying131 rfl nz129 rfl rfl)) ?_
    refine DH_take 3 (by kernel_rfl) rfl rfl (.no rfl) pk sH rfl (VR_load_blk (b := b0_) (m := 0) (k := 0) Try.underlying129 rfl rfl rfl rfl) ?_
    refine DH_take (v := .int .i64 (p0.f0.length : Int)) 4 (by kernel_rfl) rfl rfl (.no rfl) pk sH rfl (VR.ofV (V_len Try.underlying129 rfl)) ?_
    refine DH_take (v := .bool (decide ((p0.f0.length : Int) < 32))) 5 (by kernel_rfl) rfl rfl (.no rfl) pk sH rfl (VR.ofV (V_lss rfl rfl)) ?_
    refine DH_take (v := .bool (decide ((p0.f0.length : Int) < 32))) 6 (by kernel_rfl) rfl rfl (.no rfl) pk sH rfl (VR.ofV (V_move rfl)) ?_
    by_cases h2886 : (p0.f0.length : Int) < 32
    · replace H := g_ift h2886 H
      refine DH_take (v := .pointer (some ⟨b0_, 0, none⟩)) 7 (by kernel_rfl) rfl rfl (.yes rfl rfl rfl rfl (dec_t h2886)) pk sH rfl (VR.ofV (V_move rfl)) ?_
      refine DH_take (v := .pointer (some ⟨b0_, 0, none⟩)) 8 (by kernel_rfl) rfl rfl (.yes rfl rfl rfl rfl (dec_t h2886)) pk sH rfl (VR.ofV (V_nilCheck rfl)) ?_
      refine DH_take (v := .pointer (some ((⟨b0_, 0, none⟩ : Addr).add 3))) 9 (by kernel_rfl) rfl rfl (.yes rfl rfl rfl rfl (dec_t h2886)) pk sH rfl (VR.ofV (V_fieldAddrN (B := ⟨b0_, 0, none⟩) (m := 0) (o := 3) Try.underlying131 rfl nz4 rfl rfl)) ?_
      refine DH_take 10 (by kernel_rfl) rfl rfl (.yes rfl rfl rfl rfl (dec_t h2886)) pk sH rfl (VR_load_blk (b := b0_) (m := 3) (k := 0) Try.underlying4 rfl rfl rfl rfl) ?_
      refine DH_take (v := .bool (!p0.f3)) 11 (by kernel_rfl) rfl rfl (.yes rfl rfl rfl rfl (dec_t h2886)) pk sH rfl (VR.ofV (V_not rfl)) ?_
      refine DH_take (v := .bool (!p0.f3)) 12 (by kernel_rfl) rfl rfl (.yes rfl rfl rfl rfl (dec_t h2886)) pk sH rfl (VR.ofV (V_move rfl)) ?_
      by_cases h2887 : (!p0.f3) = true
      · replace H := g_ift h2887 H
        refine DH_skip 13 (by kernel_rfl) rfl rfl (.no rfl rfl rfl rfl (h2887)) pk rfl ?_
        refine DH_skip 14 (by kernel_rfl) rfl rfl (.no rfl rfl rfl rfl (h2887)) pk rfl ?_
        refine DH_skip 15 (by kernel_rfl) rfl rfl (.no rfl rfl rfl rfl (h2887)) pk rfl ?_
        refine DH_skip 16 (by kernel_rfl) rfl rfl (.no rfl rfl rfl rfl (h2887)) pk rfl ?_
        refine DH_skip 17 (by kernel_rfl) rfl rfl (.no rfl rfl rfl rfl (h2887)) pk rfl ?_
        refine DH_skip 18 (by kernel_rfl) rfl rfl (.no rfl rfl rfl rfl (h2887)) pk rfl ?_
        refine DH_skip 19 (by kernel_rfl) rfl rfl (.no rfl rfl rfl rfl (h2887)) pk rfl ?_
        refine DH_take 20 (by kernel_rfl) rfl rfl (.yes rfl rfl rfl rfl (dec_t h2886)) pk sH rfl (VR.ofV (V_pickT rfl (h2887) rfl)) ?_
        refine DH_take 21 (by kernel_rfl) rfl rfl (.no rfl) pk sH rfl (VR.ofV (V_pickT rfl (dec_t h2886) rfl)) ?_
        refine DH_take (v := .bool true) 22 (by kernel_rfl) rfl rfl (.no rfl) pk sH rfl (VR.ofV (V_move rfl)) ?_
        refine DH_take (v := .pointer (some ⟨b0_, 0, none⟩)) 23 (by kernel_rfl) rfl rfl (.yes rfl rfl rfl rfl (rfl)) pk sH rfl (VR.ofV (V_move rfl)) ?_
        refine DH_take (v := .pointer (some ⟨b0_, 0, none⟩)) 24 (by kernel_rfl) rfl rfl (.yes rfl rfl rfl rfl (rfl)) pk sH rfl (VR.ofV (V_nilCheck rfl)) ?_
        refine DH_take (v := .pointer (some ((⟨b0_, 0, none⟩ : Addr).add 1))) 25 (by kernel_rfl) rfl rfl (.yes rfl rfl rfl rfl (rfl)) pk sH rfl (VR.ofV (V_fieldAddrN (B := ⟨b0_, 0, none⟩) (m := 0) (o := 1) Try.underlying131 rfl nz41 rfl rfl)) ?_
        refine DH_take 26 (by kernel_rfl) rfl rfl (.yes rfl rfl rfl rfl (rfl)) pk sH rfl (VR_loadA_blk (b := b0_) (m := 1) (k := 0) (vs := [.string p0.f1.f0]) Try.underlying41 rfl sz41 rfl rfl rfl) ?_
        refine DH_take (v := .iface 41 (.agg #[.string p0.f1.f0])) 27 (by kernel_rfl) rfl rfl (.yes rfl rfl rfl rfl (rfl)) pk sH rfl (VR.ofV (V_iface con41 rfl)) ?_
        refine DH_take (v := .pointer (some ((⟨b723, 0, none⟩ : Addr).add 1))) 28 (by kernel_rfl) rfl rfl (.yes rfl rfl rfl rfl (rfl)) pk sH rfl (VR.ofV (V_fieldAddrN (B := ⟨b723, 0, none⟩) (m := 0) (o := 1) Try.underlying128 rfl nz41 rfl rfl)) ?_
        refine DH_take 29 (by kernel_rfl) rfl rfl (.yes rfl rfl rfl rfl (rfl)) pk sH rfl (VR_loadA_blk (b := b723) (m := 1) (k := 1) (vs := [.string (((rd p0.f0 (IntKind.i64.wrap ((p0.f0.length : Int) - 1))).f1).f0)]) Try.underlying41 rfl sz41 rfl rfl rfl) ?_
        obtain ⟨r2645, C2646, H⟩ := g_bind H
        refine DH_one 30 dd (by kernel_rfl) rfl (.yes rfl rfl rfl rfl (rfl)) (OA_callA [] [0] rfl (X_inv (vs := [.agg #[.string (((rd p0.f0 (IntKind.i64.wrap ((p0.f0.length : Int) - 1))).f1).f0)]]) rfl met41_145 Try.func145 nm145 rfl rfl) rfl (F145.ok (a0 := p0.f1) (a1 := ((rd p0.f0 (IntKind.i64.wrap ((p0.f0.length : Int) - 1))).f1)) C2646) rfl ?_)
        rintro _ _ ⟨rfl, rfl⟩
        refine DH_take (v := .bool (!r2645)) 31 (by kernel_rfl) rfl rfl (.yes rfl rfl rfl rfl (rfl)) pk sH rfl (VR.ofV (V_not rfl)) ?_
        refine DH_take 32 (by kernel_rfl) rfl rfl (.no rfl) pk sH rfl (VR.ofV (V_pickT rfl (rfl) rfl)) ?_
        refine DH_take (v := .bool (!r2645)) 33 (by kernel_rfl) rfl rfl (.no rfl) pk sH rfl (VR.ofV (V_assign rfl)) ?_
        refine DH_open dd sH ?_
        refine DN_done (by kernel_rfl) ?_
        have hr_ := Option.some.inj H
        subst hr_
        exact at_normal (St.mk1 (aeq rfl (aeq rfl (aeq rfl (aeq rfl (aeq rfl aeq0))))) (Gh.sel [0, 2, 1] rfl rfl))
      replace H := g_iff h2887 H
      refine DH_take (v := .int .u64 a1) 13 (by kernel_rfl) rfl rfl (.yes rfl rfl rfl rfl (bno h2887)) pk sH rfl (VR.ofV (V_move rfl)) ?_
      refine DH_take (v := .pointer (some ⟨b0_, 0, none⟩)) 14 (by kernel_rfl) rfl rfl (.yes rfl rfl rfl rfl (bno h2887)) pk sH rfl (VR.ofV (V_move rfl)) ?_
      refine DH_take (v := .pointer (some ⟨b0_, 0, none⟩)) 15 (by kernel_rfl) rfl rfl (.yes rfl rfl rfl rfl (bno h2887)) pk sH rfl (VR.ofV (V_nilCheck rfl)) ?_
      refine DH_take (v := .pointer (some ((⟨b0_, 0, none⟩ : Addr).add 2))) 16 (by kernel_rfl) rfl rfl (.yes rfl rfl rfl rfl (bno h2887)) pk sH rfl (VR.ofV (V_fieldAddrN (B := ⟨b0_, 0, none⟩) (m := 0) (o := 2) Try.underlying131 rfl nz44 rfl rfl)) ?_
      refine DH_take 17 (by kernel_rfl) rfl rfl (.yes rfl rfl rfl rfl (bno h2887)) pk sH rfl (VR_load_blk (b := b0_) (m := 2) (k := 0) Try.underlying44 rfl rfl rfl rfl) ?_
      refine DH_take (v := .int .i64 a2) 18 (by kernel_rfl) rfl rfl (.yes rfl rfl rfl rfl (bno h2887)) pk sH rfl (VR.ofV (V_move rfl)) ?_
      obtain ⟨r1985, C1986, H⟩ := g_bind H
      refine DH_one 19 dd (by kernel_rfl) rfl (.yes rfl rfl rfl rfl (bno h2887)) (OA_callA [] [0] rfl (X_fn (vs := [.int .u64 a1, .int .u64 p0.f2, .int .i64 a2]) Try.func101 nm101 rfl rfl) rfl (F101.ok (a0 := a1) (a1 := p0.f2) (a2 := a2) C1986) rfl ?_)
      rintro _ _ ⟨rfl, rfl⟩
      refine DH_take 20 (by kernel_rfl) rfl rfl (.yes rfl rfl rfl rfl (dec_t h2886)) pk sH rfl (VR.ofV (V_pickF rfl (bno h2887) rfl)) ?_
      refine DH_take 21 (by kernel_rfl) rfl rfl (.no rfl) pk sH rfl (VR.ofV (V_pickT rfl (dec_t h2886) rfl)) ?_
      refine DH_take (v := .bool r1985) 22 (by kernel_rfl) rfl rfl (.no rfl) pk sH rfl (VR.ofV (V_move rfl)) ?_
      by_cases h2888 : r1985 = true
      · replace H := g_ift h2888 H
        refine DH_take (v := .pointer (some ⟨b0_, 0, none⟩)) 23 (by kernel_rfl) rfl rfl (.yes rfl rfl rfl rfl (h2888)) pk sH rfl (VR.ofV (V_move rfl)) ?_
        refine DH_take (v := .pointer (some ⟨b0_, 0, none⟩)) 24 (by kernel_rfl) rfl rfl (.yes rfl rfl rfl rfl (h2888)) pk sH rfl (VR.ofV (V_nilCheck rfl)) ?_
        refine DH_take (v := .pointer (some ((⟨b0_, 0, none⟩ : Addr).add 1))) 25 (by kernel_rfl) rfl rfl (.yes rfl rfl rfl rfl (h2888)) pk sH rfl (VR.ofV (V_fieldAddrN (B := ⟨b0_, 0, none⟩) (m := 0) (o := 1) Try.underlying131 rfl nz41 rfl rfl)) ?_
        refine DH_take 26 (by kernel_rfl) rfl rfl (.yes rfl rfl rfl rfl (h2888)) pk sH rfl (VR_loadA_blk (b := b0_) (m := 1) (k := 0) (vs := [.string p0.f1.f0]) Try.underlying41 rfl sz41 rfl rfl rfl) ?_
        refine DH_take (v := .iface 41 (.agg #[.string p0.f1.f0])) 27 (by kernel_rfl) rfl rfl (.yes rfl rfl rfl rfl (h2888)) pk sH rfl (VR.ofV (V_iface con41 rfl)) ?_
        refine DH_take (v := .pointer (some ((⟨b723, 0, none⟩ : Addr).add 1))) 28 (by kernel_rfl) rfl rfl (.yes rfl rfl rfl rfl (h2888)) pk sH rfl (VR.ofV (V_fieldAddrN (B := ⟨b723, 0, none⟩) (m := 0) (o := 1) Try.underlying128 rfl nz41 rfl rfl)) ?_
        refine DH_take 29 (by kernel_rfl) rfl rfl (.yes rfl rfl rfl rfl (h2888)) pk sH rfl (VR_loadA_blk (b := b723) (m := 1) (k := 1) (vs := [.string (((rd p0.f0 (IntKind.i64.wrap ((p0.f0.length : Int) - 1))).f1).f0)]) Try.underlying41 rfl sz41 rfl rfl rfl) ?_
        obtain ⟨r2645, C2646, H⟩ := g_bind H
        refine DH_one 30 dd (by kernel_rfl) rfl (.yes rfl rfl rfl rfl (h2888)) (OA_callA [] [0] rfl (X_inv (vs := [.agg #[.string (((rd p0.f0 (IntKind.i64.wrap ((p0.f0.length : Int) - 1))).f1).f0)]]) rfl met41_145 Try.func145 nm145 rfl rfl) rfl (F145.ok (a0 := p0.f1) (a1 := ((rd p0.f0 (IntKind.i64.wrap ((p0.f0.length : Int) - 1))).f1)) C2646) rfl ?_)
        rintro _ _ ⟨rfl, rfl⟩
        refine DH_take (v := .bool (!r2645)) 31 (by kernel_rfl) rfl rfl (.yes rfl rfl rfl rfl (h2888)) pk sH rfl (VR.ofV (V_not rfl)) ?_
        refine DH_take 32 (by kernel_rfl) rfl rfl (.no rfl) pk sH rfl (VR.ofV (V_pickT rfl (h2888) rfl)) ?_
        refine DH_take (v := .bool (!r2645)) 33 (by kernel_rfl) rfl rfl (.no rfl) pk sH rfl (VR.ofV (V_assign rfl)) ?_
        refine DH_open dd sH ?_
        refine DN_done (by kernel_rfl) ?_
        have hr_ := Option.some.inj H
        subst hr_
        exact at_normal (St.mk1 (aeq rfl (aeq rfl (aeq rfl (aeq rfl (aeq rfl aeq0))))) (Gh.sel [0, 2, 1] rfl rfl))
      replace H := g_iff h2888 H
      refine DH_skip 23 (by kernel_rfl) rfl rfl (.no rfl rfl rfl rfl (bno h2888)) pk rfl ?_
      refine DH_skip 24 (by kernel_rfl) rfl rfl (.no rfl rfl rfl rfl (bno h2888)) pk rfl ?_
      refine DH_skip 25 (by kernel_rfl) rfl rfl (.no rfl rfl rfl rfl (bno h2888)) pk rfl ?_
      refine DH_skip 26 (by kernel_rfl) rfl rfl (.no rfl rfl rfl rfl (bno h2888)) pk rfl ?_
      refine DH_skip 27 (by kernel_rfl) rfl rfl (.no rfl rfl rfl rfl (bno h2888)) pk rfl ?_
      refine DH_skip 28 (by kernel_rfl) rfl rfl (.no rfl rfl rfl rfl (bno h2888)) pk rfl ?_
      refine DH_skip 29 (by kernel_rfl) rfl rfl (.no rfl rfl rfl rfl (bno h2888)) pk rfl ?_
      refine DH_skip 30 (by kernel_rfl) rfl rfl (.no rfl rfl rfl rfl (bno h2888)) pk rfl ?_
      refine DH_skip 31 (by kernel_rfl) rfl rfl (.no rfl rfl rfl rfl (bno h2888)) pk rfl ?_
      refine DH_take 32 (by kernel_rfl) rfl rfl (.no rfl) pk sH rfl (VR.ofV (V_pickF rfl (bno h2888) rfl)) ?_
      refine DH_take (v := .bool false) 33 (by kernel_rfl) rfl rfl (.no rfl) pk sH rfl (VR.ofV (V_assign rfl)) ?_
      refine DH_open dd sH ?_
      refine DN_done (by kernel_rfl) ?_
      have hr_ := Option.some.inj H
      subst hr_
      exact at_normal (St.mk1 (aeq rfl (aeq rfl (aeq rfl (aeq rfl (aeq rfl aeq0))))) (Gh.sel [0, 2, 1] rfl rfl))
    replace H := g_iff h2886 H
    refine DH_skip 7 (by kernel_rfl) rfl rfl (.no rfl rfl rfl rfl (dec_f h2886)) pk rfl ?_
    refine DH_skip 8 (by kernel_rfl) rfl rfl (.no rfl rfl rfl rfl (dec_f h2886)) pk rfl ?_
    refine DH_skip 9 (by kernel_rfl) rfl rfl (.no rfl rfl rfl rfl (dec_f h2886)) pk rfl ?_
    refine DH_skip 10 (by kernel_rfl) rfl rfl (.no rfl rfl rfl rfl (dec_f h2886)) pk rfl ?_
    refine DH_skip 11 (by kernel_rfl) rfl rfl (.no rfl rfl rfl rfl (dec_f h2886)) pk rfl ?_
    refine DH_skip 12 (by kernel_rfl) rfl rfl (.no rfl rfl rfl rfl (dec_f h2886)) pk rfl ?_
    refine DH_skip 13 (by kernel_rfl) rfl rfl (.un rfl rfl rfl rfl) pk rfl ?_
    refine DH_skip 14 (by kernel_rfl) rfl rfl (.un rfl rfl rfl rfl) pk rfl ?_
    refine DH_skip 15 (by kernel_rfl) rfl rfl (.un rfl rfl rfl rfl) pk rfl ?_
    refine DH_skip 16 (by kernel_rfl) rfl rfl (.un rfl rfl rfl rfl) pk rfl ?_
    refine DH_skip 17 (by kernel_rfl) rfl rfl (.un rfl rfl rfl rfl) pk rfl ?_
    refine DH_skip 18 (by kernel_rfl) rfl rfl (.un rfl rfl rfl rfl) pk rfl ?_
    refine DH_skip 19 (by kernel_rfl) rfl rfl (.un rfl rfl rfl rfl) pk rfl ?_
    refine DH_skip 20 (by kernel_rfl) rfl rfl (.no rfl rfl rfl rfl (dec_f h2886)) pk rfl ?_
    refine DH_take 21 (by kernel_rfl) rfl rfl (.no rfl) pk sH rfl (VR.ofV (V_pickF rfl (dec_f h2886) rfl)) ?_
    refine DH_take (v := .bool false) 22 (by kernel_rfl) rfl rfl (.no rfl) pk sH rfl (VR.ofV (V_move rfl)) ?_
    refine DH_skip 23 (by kernel_rfl) rfl rfl (.no rfl rfl rfl rfl (rfl)) pk rfl ?_
    refine DH_skip 24 (by kernel_rfl) rfl rfl (.no rfl rfl rfl rfl (rfl)) pk rfl ?_
    refine DH_skip 25 (by kernel_rfl) rfl rfl (.no rfl rfl rfl rfl (rfl)) pk rfl ?_
    refine DH_skip 26 (by kernel_rfl) rfl rfl (.no rfl rfl rfl rfl (rfl)) pk rfl ?_
    refine DH_skip 27 (by kernel_rfl) rfl rfl (.no rfl rfl rfl rfl (rfl)) pk rfl ?_
    refine DH_skip 28 (by kernel_rfl) rfl rfl (.no rfl rfl rfl rfl (rfl)) pk rfl ?_
    refine DH_skip 29 (by kernel_rfl) rfl rfl (.no rfl rfl rfl rfl (rfl)) pk rfl ?_
    refine DH_skip 30 (by kernel_rfl) rfl rfl (.no rfl rfl rfl rfl (rfl)) pk rfl ?_
    refine DH_skip 31 (by kernel_rfl) rfl rfl (.no rfl rfl rfl rfl (rfl)) pk rfl ?_
    refine DH_take 32 (by kernel_rfl) rfl rfl (.no rfl) pk sH rfl (VR.ofV (V_pickF rfl (rfl) rfl)) ?_
    refine DH_take (v := .bool false) 33 (by kernel_rfl) rfl rfl (.no rfl) pk sH rfl (VR.ofV (V_assign rfl)) ?_
    refine DH_open dd sH ?_
    refine DN_done (by kernel_rfl) ?_
    have hr_ := Option.some.inj H
    subst hr_
    exact at_normal (St.mk1 (aeq rfl (aeq rfl (aeq rfl (aeq rfl (aeq rfl aeq0))))) (Gh.sel [0, 2, 1] rfl rfl))
  rintro e ds As hst2889
  clear H
  have H := Bt844
  clear Bt844
  refine at_normal ?_
  refine SA.of_St hst2889 fun junk => ?_
  by_cases h2890 : t844 = true
  · replace H := g_ift h2890 H
    refine SA_condTb rfl h2890 ?_
    refine SA_seq ?_
    refine SA.fact (cap_of (k := 1) rfl) fun hc2891 => ?_
    refine SA_drawHq (0 :: 1 :: 2 :: 3 :: 4 :: 5 :: 6 :: 7 :: 8 :: 9 :: 10 :: 11 :: 12 :: 13 :: 14 :: 15 :: 16 :: 17 :: 18 :: 19 :: 20 :: 21 :: 22 :: 24 :: 27 :: []) (List.toArray ([] :: [0] :: [0, 1] :: [0, 1, 2] :: [] :: [4] :: [4, 5] :: [4, 5, 6] :: [4, 5, 6, 7] :: [] :: [9] :: [9, 10] :: [9, 10, 11] :: [9, 10, 11, 12] :: (0 :: 1 :: 2 :: 3 :: 4 :: 5 :: 6 :: 7 :: 8 :: 9 :: 10 :: 11 :: 12 :: 13 :: []) :: [] :: [15] :: [15, 16] :: [] :: [18] :: [18, 19] :: [18, 19, 20] :: [18, 19, 20, 21] :: [18, 19, 20, 21, 22] :: [15, 16, 17, 18, 19, 20, 21, 22] :: [15, 16, 17, 18, 19, 20, 21, 22, 24] :: (0 :: 1 :: 2 :: 3 :: 4 :: 5 :: 6 :: 7 :: 8 :: 9 :: 10 :: 11 :: 12 :: 13 :: 14 :: 15 :: 16 :: 17 :: 18 :: 19 :: 20 :: 21 :: 22 :: 24 :: []) :: (0 :: 1 :: 2 :: 3 :: 4 :: 5 :: 6 :: 7 :: 8 :: 9 :: 10 :: 11 :: 12 :: 13 :: 14 :: 15 :: 16 :: 17 :: 18 :: 19 :: 20 :: 21 :: 22 :: 24 :: []) :: [])) [0, 2] [1] mixed rfl rfl rfl (PanOk.thn (PanOk.inb (PanOk.thn PanOk.body))) fun I0 hS h0 hh0 w0 sH dd pk => ?_
    refine DH_take (v := .pointer (some ⟨b0_, 0, none⟩)) 0 (by kernel_rfl) rfl rfl (.no rfl) pk sH rfl (VR.ofV (V_move rfl)) ?_
    refine DH_take (v := .pointer (some ⟨b0_, 0, none⟩)) 1 (by kernel_rfl) rfl rfl (.no rfl) pk sH rfl (VR.ofV (V_nilCheck rfl)) ?_
    refine DH_take (v := .pointer (some ⟨b0_, 0, none⟩)) 2 (by kernel_rfl) rfl rfl (.no rfl) pk sH rfl (VR.ofV (V_fieldAddrN (B := ⟨b0_, 0, none⟩) (m := 0) (o := 0) Try.underlying131 rfl nz129 rfl rfl)) ?_
    refine DH_take 3 (by kernel_rfl) rfl rfl (.no rfl) pk sH rfl (VR_load_blk (b := b0_) (m := 0) (k := 0) Try.underlying129 rfl rfl rfl rfl) ?_
    refine DH_take (v := .pointer (some ⟨b0_, 0, none⟩)) 4 (by kernel_rfl) rfl rfl (.no rfl) pk sH rfl (VR.ofV (V_move rfl)) ?_
    refine DH_take (v := .pointer (some ⟨b0_, 0, none⟩)) 5 (by kernel_rfl) rfl rfl (.no rfl) pk sH rfl (VR.ofV (V_nilCheck rfl)) ?_
    refine DH_take (v := .pointer (some ⟨b0_, 0, none⟩)) 6 (by kernel_rfl) rfl rfl (.no rfl) pk sH rfl (VR.ofV (V_fieldAddrN (B := ⟨b0_, 0, none⟩) (m := 0) (o := 0) Try.underlying131 rfl nz129 rfl rfl)) ?_
    refine DH_take 7 (by kernel_rfl) rfl rfl (.no rfl) pk sH rfl (VR_load_blk (b := b0_) (m := 0) (k := 0) Try.underlying129 rfl rfl rfl rfl) ?_
    refine DH_take (v := .int .i64 (p0.f0.length : Int)) 8 (by kernel_rfl) rfl rfl (.no rfl) pk sH rfl (VR.ofV (V_len Try.underlying129 rfl)) ?_
    refine DH_take (v := .pointer (some ⟨b0_, 0, none⟩)) 9 (by kernel_rfl) rfl rfl (.no rfl) pk sH rfl (VR.ofV (V_move rfl)) ?_
    refine DH_take (v := .pointer (some ⟨b0_, 0, none⟩)) 10 (by kernel_rfl) rfl rfl (.no rfl) pk sH rfl (VR.ofV (V_nilCheck rfl)) ?_
    refine DH_take (v := .pointer (some ⟨b0_, 0, none⟩)) 11 (by kernel_rfl) rfl rfl (.no rfl) pk sH rfl (VR.ofV (V_fieldAddrN (B := ⟨b0_, 0, none⟩) (m := 0) (o := 0) Try.underlying131 rfl nz129 rfl rfl)) ?_
    refine DH_take 12 (by kernel_rfl) rfl rfl (.no rfl) pk sH rfl (VR_load_blk (b := b0_) (m := 0) (k := 0) Try.underlying129 rfl rfl rfl rfl) ?_
    refine DH_take (v := .int .i64 (p0.f0.length : Int)) 13 (by kernel_rfl) rfl rfl (.no rfl) pk sH rfl (VR.ofV (V_len Try.underlying129 rfl)) ?_
    obtain ⟨⟨g3732, g3733, g3734, g3735, g3736⟩, H⟩ := g_pos H
    refine DH_take (v := .slice (slA A0_0 (0 : Int) (p0.f0.length : Int) 3) ((p0.f0.length : Int) - (0 : Int)).toNat ((p0.f0.length : Int).toNat - (0 : Int).toNat)) 14 (by kernel_rfl) rfl rfl (.no rfl) pk sH rfl (VR.ofV (V_sliceW (l := 0) (m := (p0.f0.length : Int)) (a := (0 : Int)) (b := (p0.f0.length : Int)) (q := (p0.f0.length : Int)) (Win.whole (sz := 3) (xs := p0.f0) (c := c0_0) (by omega)) Try.underlying129 sz128 rfl rfl rfl rfl (.inl ⟨rfl, rfl⟩) (.inr ⟨_, rfl⟩) (.inr ⟨⟨_, rfl⟩, ⟨_, rfl⟩, g3735, g3736⟩) g3732 g3733 g3734)) ?_
    have hW3737 : Win A0_0 (slA A0_0 (0 : Int) (p0.f0.length : Int) 3) 3 (0 + (0 : Int)) ((p0.f0.length : Int) - (0 : Int)) ((p0.f0.length : Int).toNat - (0 : Int).toNat) := Win.sub (Win.whole (sz := 3) (xs := p0.f0) (c := c0_0) (by omega)) g3732 g3733 g3734 (.inr g3735)
    refine DH_take (v := .pointer (some ⟨b723, 0, none⟩)) 15 (by kernel_rfl) rfl rfl (.no rfl) pk sH rfl (VR.ofV (V_fieldAddrN (B := ⟨b723, 0, none⟩) (m := 0) (o := 0) Try.underlying128 rfl nz44 rfl rfl)) ?_
    refine DH_take 16 (by kernel_rfl) rfl rfl (.no rfl) pk sH rfl (VR_load_blk (b := b723) (m := 0) (k := 1) Try.underlying44 rfl rfl rfl rfl) ?_
    refine DH_take (v := .int .u64 (IntKind.u64.wrap (((rd p0.f0 (IntKind.i64.wrap ((p0.f0.length : Int) - 1))).f0) + 1))) 17 (by kernel_rfl) rfl rfl (.no rfl) pk sH rfl (VR.ofV (V_add rfl rfl)) ?_
    refine DH_take (v := .pointer (some ⟨b0_, 0, none⟩)) 18 (by kernel_rfl) rfl rfl (.no rfl) pk sH rfl (VR.ofV (V_move rfl)) ?_
    refine DH_take (v := .pointer (some ⟨b0_, 0, none⟩)) 19 (by kernel_rfl) rfl rfl (.no rfl) pk sH rfl (VR.ofV (V_nilCheck rfl)) ?_
    refine DH_take (v := .pointer (some ((⟨b0_, 0, none⟩ : Addr).add 1))) 20 (by kernel_rfl) rfl rfl (.no rfl) pk sH rfl (VR.ofV (V_fieldAddrN (B := ⟨b0_, 0, none⟩) (m := 0) (o := 1) Try.underlying131 rfl nz41 rfl rfl)) ?_
    refine DH_take 21 (by kernel_rfl) rfl rfl (.no rfl) pk sH rfl (VR_loadA_blk (b := b0_) (m := 1) (k := 0) (vs := [.string p0.f1.f0]) Try.underlying41 rfl sz41 rfl rfl rfl) ?_
    refine DH_take (v := .iface 41 (.agg #[.string p0.f1.f0])) 22 (by kernel_rfl) rfl rfl (.no rfl) pk sH rfl (VR.ofV (V_iface con41 rfl)) ?_
    obtain ⟨r4272, C4273, H⟩ := g_bind H
    refine DH_one 23 dd (by kernel_rfl) rfl (.no rfl) (OA_callA [] [0] rfl (X_inv (vs := []) rfl met41_143 Try.func143 nm143 rfl rfl) rfl (F143.ok (a0 := p0.f1) C4273) rfl ?_)
    rintro _ _ ⟨rfl, rfl⟩
    refine DH_take (v := .agg #[.int .u64 (IntKind.u64.wrap (((rd p0.f0 (IntKind.i64.wrap ((p0.f0.length : Int) - 1))).f0) + 1)), .string r4272.f0, .int .u64 0]) 24 (by kernel_rfl) rfl rfl (.no rfl) pk sH rfl (VR.ofV (V_build (cells := [.int .u64 (IntKind.u64.wrap (((rd p0.f0 (IntKind.i64.wrap ((p0.f0.length : Int) - 1))).f0) + 1)), .string r4272.f0, .int .u64 0]) zero128 Try.underlying128 plc128 (by kernel_rfl))) ?_
    refine DH_one 25 dd (by kernel_rfl) rfl (.no rfl) (OA_bs (kd := k128) (zv := (.agg #[.int .u64 0, .string ByteArray.empty, .int .u64 0])) (sz := 3) (cells := [.int .u64 (IntKind.u64.wrap (((rd p0.f0 (IntKind.i64.wrap ((p0.f0.length : Int) - 1))).f0) + 1)), .string r4272.f0, .int .u64 0]) (xs := ([(S128.mk (IntKind.u64.wrap (((rd p0.f0 (IntKind.i64.wrap ((p0.f0.length : Int) - 1))).f0) + 1)) r4272 0)] : (List S128))) rfl Try.underlying129 zero128 sz128 rfl rfl rfl (by kernel_rfl) rfl rfl (RL_enc enc128 (fun _ _ => rfl) (by kernel_rfl)) fun b4392 => ?_)
    obtain ⟨g4453, H⟩ := g_pos H
    obtain ⟨n4456, hn4456, H⟩ := g_lt H
    have hq4457 := win_len (xs := p0.f0) hW3737.lo hW3737.no (by omega)
    refine DH_one 26 dd (by kernel_rfl) rfl (.no rfl) (OA.ghost (Gh.nilBuf k128 128) (OA_appG (k := 2) (V := slA A0_0 (0 : Int) (p0.f0.length : Int) 3) (m := ((p0.f0.length : Int) - (0 : Int)).toNat) (vc := ((p0.f0.length : Int).toNat - (0 : Int).toNat)) (xs := sub p0.f0 (0 + (0 : Int)) ((0 + (0 : Int)) + ((p0.f0.length : Int) - (0 : Int)))) (ys := ([(S128.mk (IntKind.u64.wrap (((rd p0.f0 (IntKind.i64.wrap ((p0.f0.length : Int) - 1))).f0) + 1)) r4272 0)] : (List S128))) n4456 hn4456 rfl Try.underlying129 inf128 rfl rfl rfl rfl (Src.win (Src.buf (k := 0) rfl) hW3737 rfl (by omega)) hq4457.symm rfl (Yld.slice Try.underlying129 (Src.buf (k := 1) rfl)) (by rw [hq4457]; simp only [List.length_cons, List.length_nil]; omega) (by omega) (by omega) fun A4454 c4455 => ?_))
    refine DH_take (v := .slice A4454 n4456.length c4455) 27 (by kernel_rfl) rfl rfl (.no rfl) pk sH rfl (VR.ofV (V_assign rfl)) ?_
    refine DH_open dd sH ?_
    refine DN_done (by kernel_rfl) ?_
    refine at_normal ?_
    refine SA.of_St (l := [(11, .slice A4454 n4456.length c4455)]) (B := [Blk b0_ 131 [.slice A0_0 p0.f0.length c0_0, .string p0.f1.f0, .int .u64 p0.f2, .bool p0.f3, .int .u64 p0.f4], Buf k128 128 A0_0 c0_0 p0.f0, Buf k128 128 A4454 c4455 n4456]) (St.mk1 (aeq rfl aeq0) (Gh.sel [0, 2, 4] (by kernel_rfl) (by kernel_rfl))) fun junk => ?_
    refine SA_seq ?_
    refine SA_region ?_
    refine RA_step rfl (OA_v (v := .slice A4454 n4456.length c4455) rfl (V_move rfl) ?_)
    refine RA_step rfl (OA_v (v := .int .i64 (n4456.length : Int)) rfl (V_len Try.underlying129 rfl) ?_)
    refine RA_step rfl (OA_v (v := .int .i64 (IntKind.i64.wrap ((n4456.length : Int) - 1))) rfl (V_sub rfl rfl) ?_)
    refine RA_step rfl (OA_v (v := .slice A4454 n4456.length c4455) rfl (V_move rfl) ?_)
    obtain ⟨n4573, hn4573, H⟩ := g_lt H
    refine RA_step rfl (OA_v (v := .int .i64 n4573) rfl (V_assign (v := .int .i64 n4573) (congrArg (Value.int .i64) hn4573.symm)) ?_)
    refine RA_step rfl (OA_v (v := .slice A4454 n4456.length c4455) rfl (V_assign rfl) ?_)
    refine RA_nil ?_
    refine at_normal ?_
    refine SA_ret ?_
    refine inb_ret ?_
    refine thn_ret ?_
    have hr_ := Option.some.inj H
    subst hr_
    exact BQ_R2 [Buf k128 128 A4454 c4455 n4456, Blk b0_ 131 [.slice A0_0 p0.f0.length c0_0, .string p0.f1.f0, .int .u64 p0.f2, .bool p0.f3, .int .u64 p0.f4], Buf k128 128 A0_0 c0_0 p0.f0] rfl rfl rfl (Gh.sel [2, 0, 1] rfl rfl) (.inl ⟨rfl, A4454, c4455, rfl, rfl⟩)
  replace H := g_iff h2890 H
  refine SA_condFb rfl h2890 ?_
  refine SA_seq ?_
  refine SA_seq ?_
  refine SA_region ?_
  refine RA_step rfl (OA_v (v := .pointer (some ⟨b0_, 0, none⟩)) rfl (V_move rfl) ?_)
  refine RA_step rfl (OA_v (v := .pointer (some ⟨b0_, 0, none⟩)) rfl (V_nilCheck rfl) ?_)
  refine RA_step rfl (OA_v (v := .pointer (some ⟨b0_, 0, none⟩)) rfl (V_fieldAddrN (B := ⟨b0_, 0, none⟩) (m := 0) (o := 0) Try.underlying131 rfl nz129 rfl rfl) ?_)
  refine RA_step rfl (OA_r rfl (VR_load_blk (b := b0_) (m := 0) (k := 0) Try.underlying129 rfl rfl rfl rfl) ?_)
  refine RA_step rfl (OA_v (v := .int .i64 (p0.f0.length : Int)) rfl (V_len Try.underlying129 rfl) ?_)
  refine RA_step rfl (OA_v (v := .bool (decide ((p0.f0.length : Int) > 1))) rfl (V_gtr rfl rfl) ?_)
  refine RA_step rfl (OA_v (v := .bool (decide ((p0.f0.length : Int) > 1))) rfl (V_move rfl) ?_)
  obtain ⟨q4574, H, Bq4574⟩ := g_bind H
  refine RA_cut 6 (fun e ds As => St [(0, .pointer (some ⟨b0_, 0, none⟩)), (1, .int .u64 a1), (102, .bool q4574)] [Blk b0_ 131 [.slice A0_0 p0.f0.length c0_0, .string p0.f1.f0, .int .u64 p0.f2, .bool p0.f3, .int .u64 p0.f4], Buf k128 128 A0_0 c0_0 p0.f0] e ds As) ?_ ?_
  · by_cases h4575 : (p0.f0.length : Int) > 1
    · replace H := g_ift h4575 H
      refine RA_yesB rfl rfl rfl rfl (dec_t h4575) (OA_v (v := .int .u64 a1) rfl (V_move rfl) ?_)
      refine RA_yesB rfl rfl rfl rfl (dec_t h4575) (OA_v (v := .pointer (some ((⟨b723, 0, none⟩ : Addr).add 2))) rfl (V_fieldAddrN (B := ⟨b723, 0, none⟩) (m := 0) (o := 2) Try.underlying128 rfl nz44 rfl rfl) ?_)
      refine RA_yesB rfl rfl rfl rfl (dec_t h4575) (OA_r rfl (VR_load_blk (b := b723) (m := 2) (k := 2) Try.underlying44 rfl rfl rfl rfl) ?_)
      refine RA_yesB rfl rfl rfl rfl (dec_t h4575) (OA_v (v := .int .i64 a3) rfl (V_move rfl) ?_)
      obtain ⟨r4576, C4577, H⟩ := g_bind H
      refine RA_yesB rfl rfl rfl rfl (dec_t h4575) (OA_callA [] [0, 1, 2] rfl (X_fn (vs := [.int .u64 a1, .int .u64 ((rd p0.f0 (IntKind.i64.wrap ((p0.f0.length : Int) - 1))).f2), .int .i64 a3]) Try.func101 nm101 rfl rfl) rfl (F101.ok (a0 := a1) (a1 := (rd p0.f0 (IntKind.i64.wrap ((p0.f0.length : Int) - 1))).f2) (a2 := a3) C4577) rfl ?_)
      rintro _ _ ⟨rfl, rfl⟩
      refine RA_step rfl (OA_v rfl (V_pickT rfl (dec_t h4575) rfl) ?_)
      have hr_ := Option.some.inj H
      subst hr_
      refine RA_nil ?_
      exact at_normal (St.mk1 (aeq rfl (aeq rfl (aeq rfl aeq0))) (Gh.sel [0, 1] rfl rfl))
    replace H := g_iff h4575 H
    refine RA_noB rfl rfl rfl rfl (dec_f h4575) rfl ?_
    refine RA_noB rfl rfl rfl rfl (dec_f h4575) rfl ?_
    refine RA_noB rfl rfl rfl rfl (dec_f h4575) rfl ?_
    refine RA_noB rfl rfl rfl rfl (dec_f h4575) rfl ?_
    refine RA_noB rfl rfl rfl rfl (dec_f h4575) rfl ?_
    refine RA_step rfl (OA_v rfl (V_pickF rfl (dec_f h4575) rfl) ?_)
    have hr_ := Option.some.inj H
    subst hr_
    refine RA_nil ?_
    exact at_normal (St.mk1 (aeq rfl (aeq rfl (aeq rfl aeq0))) (Gh.sel [0, 1] rfl rfl))
  rintro e ds As hst4578
  clear H
  have H := Bq4574
  clear Bq4574
  refine RA.of_St rfl hst4578 fun junk => ?_
  refine RA_step rfl (OA_v (v := .bool q4574) rfl (V_assign rfl) ?_)
  refine RA_nil ?_
  refine at_normal ?_
  obtain ⟨t4579, H, Bt4579⟩ := g_bind H
  refine SA_mid (fun e ds As => St [(0, .pointer (some ⟨b0_, 0, none⟩)), (89, .bool t4579)] [Blk b0_ 131 [.slice A0_0 p0.f0.length c0_0, .string p0.f1.f0, .int .u64 p0.f2, .bool p0.f3, .int .u64 p0.f4], Buf k128 128 A0_0 c0_0 p0.f0] e ds As) ?_ ?_
  · by_cases h4580 : q4574 = true
    · replace H := g_ift h4580 H
      refine SA_condTb rfl h4580 ?_
      refine SA_skip ?_
      have hr_ := Option.some.inj H
      subst hr_
      exact at_normal (St.mk1 (aeq rfl (aeq rfl aeq0)) (Gh.sel [0, 1] rfl rfl))
    replace H := g_iff h4580 H
    refine SA_condFb rfl h4580 ?_
    refine SA_region ?_
    refine RA_step rfl (OA_v (v := .pointer (some ⟨b0_, 0, none⟩)) rfl (V_move rfl) ?_)
    refine RA_step rfl (OA_v (v := .pointer (some ⟨b0_, 0, none⟩)) rfl (V_nilCheck rfl) ?_)
    refine RA_step rfl (OA_v (v := .pointer (some ((⟨b0_, 0, none⟩ : Addr).add 3))) rfl (V_fieldAddrN (B := ⟨b0_, 0, none⟩) (m := 0) (o := 3) Try.underlying131 rfl nz4 rfl rfl) ?_)
    refine RA_step rfl (OA_r rfl (VR_load_blk (b := b0_) (m := 3) (k := 0) Try.underlying4 rfl rfl rfl rfl) ?_)
    refine RA_step rfl (OA_v (v := .bool (!p0.f3)) rfl (V_not rfl) ?_)
    refine RA_step rfl (OA_v (v := .bool (!p0.f3)) rfl (V_move rfl) ?_)
    obtain ⟨q4581, H, Bq4581⟩ := g_bind H
    refine RA_cut 7 (fun e ds As => St [(0, .pointer (some ⟨b0_, 0, none⟩)), (115, .bool q4581)] [Blk b0_ 131 [.slice A0_0 p0.f0.length c0_0, .string p0.f1.f0, .int .u64 p0.f2, .bool p0.f3, .int .u64 p0.f4], Buf k128 128 A0_0 c0_0 p0.f0] e ds As) ?_ ?_
    · by_cases h4582 : (!p0.f3) = true
      · replace H := g_ift h4582 H
        refine RA_noB rfl rfl rfl rfl (h4582) rfl ?_
        refine RA_noB rfl rfl rfl rfl (h4582) rfl ?_
        refine RA_noB rfl rfl rfl rfl (h4582) rfl ?_
        refine RA_noB rfl rfl rfl rfl (h4582) rfl ?_
        refine RA_noB rfl rfl rfl rfl (h4582) rfl ?_
        refine RA_noB rfl rfl rfl rfl (h4582) rfl ?_
        refine RA_step rfl (OA_v rfl (V_pickT rfl (h4582) rfl) ?_)
        have hr_ := Option.some.inj H
        subst hr_
        refine RA_nil ?_
        exact at_normal (St.mk1 (aeq rfl (aeq rfl aeq0)) (Gh.sel [0, 1] rfl rfl))
      replace H := g_iff h4582 H
      refine RA_yesB rfl rfl rfl rfl (bno h4582) (OA_v (v := .int .u64 a1) rfl (V_move rfl) ?_)
      refine RA_yesB rfl rfl rfl rfl (bno h4582) (OA_v (v := .pointer (some ⟨b0_, 0, none⟩)) rfl (V_move rfl) ?_)
      refine RA_yesB rfl rfl rfl rfl (bno h4582) (OA_v (v := .pointer (some ⟨b0_, 0, none⟩)) rfl (V_nilCheck rfl) ?_)
      refine RA_yesB rfl rfl rfl rfl (bno h4582) (OA_v (v := .pointer (some ((⟨b0_, 0, none⟩ : Addr).add 2))) rfl (V_fieldAddrN (B := ⟨b0_, 0, none⟩) (m := 0) (o := 2) Try.underlying131 rfl nz44 rfl rfl) ?_)
      refine RA_yesB rfl rfl rfl rfl (bno h4582) (OA_r rfl (VR_load_blk (b := b0_) (m := 2) (k := 0) Try.underlying44 rfl rfl rfl rfl) ?_)
      obtain ⟨r4583, C4584, H⟩ := g_bind H
      refine RA_yesB rfl rfl rfl rfl (bno h4582) (OA_callA [] [0, 1] rfl (X_fn (vs := [.int .u64 a1, .int .u64 p0.f2, .int .i64 3000]) Try.func101 nm101 rfl rfl) rfl (F101.ok (a0 := a1) (a1 := p0.f2) (a2 := 3000) C4584) rfl ?_)
      rintro _ _ ⟨rfl, rfl⟩
      refine RA_step rfl (OA_v rfl (V_pickF rfl (bno h4582) rfl) ?_)
      have hr_ := Option.some.inj H
      subst hr_
      refine RA_nil ?_
      exact at_normal (St.mk1 (aeq rfl (aeq rfl aeq0)) (Gh.sel [0, 1] rfl rfl))
    rintro e ds As hst4585
    clear H
    have H := Bq4581
    clear Bq4581
    refine RA.of_St rfl hst4585 fun junk => ?_
    refine RA_step rfl (OA_v (v := .bool q4581) rfl (V_assign rfl) ?_)
    refine RA_nil ?_
    have hr_ := Option.some.inj H
    subst hr_
    exact at_normal (St.mk1 (aeq rfl (aeq rfl aeq0)) (Gh.sel [0, 1] rfl rfl))
  rintro e ds As hst4586
  clear H
  have H := Bt4579
  clear Bt4579
  refine at_normal ?_
  refine SA.of_St hst4586 fun junk => ?_
  by_cases h4587 : t4579 = true
  · replace H := g_ift h4587 H
    refine SA_condTb rfl h4587 ?_
    refine SA_seq ?_
    refine SA_drawHq [0, 1, 2, 3, 4, 5, 6, 7, 8, 9, 10, 11] #[[], [0], [0, 1], [0, 1, 2], [0, 1, 2, 3], [0, 1, 2, 3, 4], [], [6], [6, 7], [6, 7, 8], [0, 1, 2, 3, 4, 5], [0, 1, 2, 3, 4, 5, 6, 7, 8, 9, 10]] [0] [1] mixed rfl rfl rfl (PanOk.thn (PanOk.inb (PanOk.thn PanOk.body))) fun I0 hS h0 hh0 w0 sH dd pk => ?_
    refine DH_take (v := .pointer (some ⟨b0_, 0, none⟩)) 0 (by kernel_rfl) rfl rfl (.no rfl) pk sH rfl (VR.ofV (V_move rfl)) ?_
    refine DH_take (v := .pointer (some ⟨b0_, 0, none⟩)) 1 (by kernel_rfl) rfl rfl (.no rfl) pk sH rfl (VR.ofV (V_nilCheck rfl)) ?_
    refine DH_take (v := .pointer (some ⟨b0_, 0, none⟩)) 2 (by kernel_rfl) rfl rfl (.no rfl) pk sH rfl (VR.ofV (V_fieldAddrN (B := ⟨b0_, 0, none⟩) (m := 0) (o := 0) Try.underlying131 rfl nz129 rfl rfl)) ?_
    refine DH_take 3 (by kernel_rfl) rfl rfl (.no rfl) pk sH rfl (VR_load_blk (b := b0_) (m := 0) (k := 0) Try.underlying129 rfl rfl rfl rfl) ?_
    refine DH_take (v := .int .i64 (p0.f0.length : Int)) 4 (by kernel_rfl) rfl rfl (.no rfl) pk sH rfl (VR.ofV (V_len Try.underlying129 rfl)) ?_
    refine DH_take (v := .int .i64 (IntKind.i64.wrap ((p0.f0.length : Int) - 1))) 5 (by kernel_rfl) rfl rfl (.no rfl) pk sH rfl (VR.ofV (V_sub rfl rfl)) ?_
    refine DH_take (v := .pointer (some ⟨b0_, 0, none⟩)) 6 (by kernel_rfl) rfl rfl (.no rfl) pk sH rfl (VR.ofV (V_move rfl)) ?_
    refine DH_take (v := .pointer (some ⟨b0_, 0, none⟩)) 7 (by kernel_rfl) rfl rfl (.no rfl) pk sH rfl (VR.ofV (V_nilCheck rfl)) ?_
    refine DH_take (v := .pointer (some ⟨b0_, 0, none⟩)) 8 (by kernel_rfl) rfl rfl (.no rfl) pk sH rfl (VR.ofV (V_fieldAddrN (B := ⟨b0_, 0, none⟩) (m := 0) (o := 0) Try.underlying131 rfl nz129 rfl rfl)) ?_
    refine DH_take 9 (by kernel_rfl) rfl rfl (.no rfl) pk sH rfl (VR_load_blk (b := b0_) (m := 0) (k := 0) Try.underlying129 rfl rfl rfl rfl) ?_
    obtain ⟨n5188, hn5188, H⟩ := g_lt H
    refine DH_take (v := .int .i64 n5188) 10 (by kernel_rfl) rfl rfl (.no rfl) pk sH rfl (VR.ofV (V_assign (v := .int .i64 n5188) (congrArg (Value.int .i64) hn5188.symm))) ?_
    refine DH_take (v := .slice A0_0 p0.f0.length c0_0) 11 (by kernel_rfl) rfl rfl (.no rfl) pk sH rfl (VR.ofV (V_assign rfl)) ?_
    refine DH_open dd sH ?_
    refine DN_done (by kernel_rfl) ?_
    refine at_normal ?_
    refine SA_ret ?_
    refine inb_ret ?_
    refine thn_ret ?_
    have hr_ := Option.some.inj H
    subst hr_
    exact BQ_R2 [Blk b0_ 131 [.slice A0_0 p0.f0.length c0_0, .string p0.f1.f0, .int .u64 p0.f2, .bool p0.f3, .int .u64 p0.f4], Buf k128 128 A0_0 c0_0 p0.f0] rfl rfl rfl (Gh.sel [0, 1] rfl rfl) (.inr (⟨rfl, rfl, rfl⟩))
  replace H := g_iff h4587 H
  refine SA_condFb rfl h4587 ?_
  refine SA_skip ?_
  refine inb_normal ?_
  refine at_normal ?_
  refine SA_seq ?_
  refine SA_region ?_
  refine RA_step rfl (OA_v (v := .int .i64 (-1)) rfl (V_assign rfl) ?_)
  refine RA_step rfl (OA_v (v := .slice none 0 0) rfl (V_assign rfl) ?_)
  refine RA_nil ?_
  refine at_normal ?_
  refine SA_ret ?_
  have hr_ := Option.some.inj H
  subst hr_
  exact BQ_R2 [Buf k128 128 none 0 ([] : (List S128)), Blk b0_ 131 [.slice A0_0 p0.f0.length c0_0, .string p0.f1.f0, .int .u64 p0.f2, .bool p0.f3, .int .u64 p0.f4], Buf k128 128 A0_0 c0_0 p0.f0] rfl rfl rfl ((Gh.nilBuf k128 128).trans (Gh.sel [2, 0, 1] rfl rfl)) (.inl ⟨rfl, none, 0, rfl, rfl⟩)
end Go.Proofs.Ytodkeoibebimgaa.Sq

/- What functions compute, and that they do: 31. -/
import Derived.Test.YtodkeoibebimgaaGr0
import Derived.Test.YtodkeoibebimgaaGr1
import Derived.Test.YtodkeoibebimgaaGr4
import Derived.Test.YtodkeoibebimgaaGr9
namespace Go.Proofs.Ytodkeoibebimgaa.Gr
open Go Go.RowKit Go.Proofs.Ytodkeoibebimgaa.SL
set_option linter.unusedVariables false
set_option linter.unusedSimpArgs false
attribute [local irreducible] IntKind.wrap minI maxI shrI shlI andI orI xorI andNotI cplI rd sub bytesOf strOf slA
/-! ### function 31: wayfarer/wayfarerlaw15.anchored -/
def F31.f (k : Nat)  : Option (Bool) := (F32.f ).bind (fun r1 => (F44.f k 4 1 r1).bind (fun r4 => (F69.f k 97 r1).bind (fun r70 => (F69.f k 98 r1).bind (fun r190 => if 0 ≤ (0 : Int) ∧ (0 : Int) < (r70.length : Int) then (if 0 ≤ (0 : Int) ∧ (0 : Int) < (r190.length : Int) then ((F42.f k r4.1 0 1 r1 ([(S76.mk ((rd r70 (0 : Int)).f0) ((rd r70 (0 : Int)).f1) ((rd r70 (0 : Int)).f2) ((rd r70 (0 : Int)).f3)), (S76.mk ((rd r190 (0 : Int)).f0) ((rd r190 (0 : Int)).f1) ((rd r190 (0 : Int)).f2) ((rd r190 (0 : Int)).f3))] : (List S76))).bind (fun r911 => ((F69.f k 20013 r1).bind (fun r1458 => (F42.f k r911.1 0 3 r1 r1458).bind (fun r1518 => some (r1518.1, r1518.2))) : Option (S67 × Int)).bind (fun t1272 => if r4.2 = 0 then (if r911.2 = 0 then (if t1272.2 = 0 then (if (t1272.1.f2.length : Int) = 4 then (if 0 ≤ (1 : Int) ∧ (1 : Int) < (t1272.1.f2.length : Int) then (if ((rd t1272.1.f2 (1 : Int)).f0) = 97 then (if 0 ≤ (3 : Int) ∧ (3 : Int) < (t1272.1.f2.length : Int) then ((F70.f r1).bind (fun r3740 => some (decide ((rd t1272.1.f2 (3 : Int)) = r3740)))) else none) else (some (false))) else none) else (some (false))) else (some (false))) else (some (false))) else (some (false))))) else none) else none))))
set_option maxHeartbeats 2000000 in
set_option maxRecDepth 100000 in
theorem F31.ok {k : Nat}  {r : Bool} (H : F31.f k  = some r) : SCA Try.prog 31 #[] [] (fun v B => v = .bool r ∧ B = []) := by
  refine SCA_of_body Try.func31 rfl rfl ?_
  unfold F31.f at H
  refine SA_seq ?_
  refine SA_region ?_
  refine RA_step rfl (OA_v (v := .bool false) rfl (V_assign rfl) ?_)
  refine RA_nil ?_
  refine at_normal ?_
  refine SA_seq ?_
  refine SA_region ?_
  obtain ⟨r1, C3987, H⟩ := g_bind H
  refine RA_step rfl (OA_callA [] [] rfl (X_fn (vs := []) Try.func32 nm32 rfl rfl) rfl (F32.ok C3987) rfl ?_)
  rintro _ _ ⟨rfl, rfl⟩
  refine RA_step rfl (OA_alloc rfl zero70 fun b2 => ?_)
  refine RA_step rfl (OA_st (b := b2) (m := 0) (k := 0) (vs := [.int .i64 r1.f0, .int .i64 r1.f1, .bool r1.f2, .bool r1.f3, .bool r1.f4, .bool r1.f5, .bool r1.f6, .bool r1.f7, .bool r1.f8, .bool r1.f9]) (cs' := [.int .i64 r1.f0, .int .i64 r1.f1, .bool r1.f2, .bool r1.f3, .bool r1.f4, .bool r1.f5, .bool r1.f6, .bool r1.f7, .bool r1.f8, .bool r1.f9]) rfl rfl rfl rfl rfl rfl sz70 rfl rfl ?_)
  refine RA_nil ?_
  refine at_normal ?_
  refine SA_seq ?_
  refine SA_region ?_
  refine RA_step rfl (OA_r rfl (VR_loadA_blk (b := b2) (m := 0) (k := 0) (vs := [.int .i64 r1.f0, .int .i64 r1.f1, .bool r1.f2, .bool r1.f3, .bool r1.f4, .bool r1.f5, .bool r1.f6, .bool r1.f7, .bool r1.f8, .bool r1.f9]) Try.underlying70 rfl sz70 rfl rfl rfl) ?_)
  obtain ⟨r4, C3986, H⟩ := g_bind H
  refine RA_step rfl (OA_callA [] [0] rfl (X_fn (vs := [.int .i64 4, .int .i64 1, .agg #[.int .i64 r1.f0, .int .i64 r1.f1, .bool r1.f2, .bool r1.f3, .bool r1.f4, .bool r1.f5, .bool r1.f6, .bool r1.f7, .bool r1.f8, .bool r1.f9]]) Try.func44 nm44 rfl rfl) rfl (F44.ok (a0 := 4) (a1 := 1) (a2 := r1) C3986) rfl ?_)
  rintro _ _ ⟨A5, c6, rfl, rfl⟩
  refine RA_step rfl (OA_v (v := .tuple #[.agg #[.int .i64 r4.1.f0, .int .i64 r4.1.f1, .slice A5 r4.1.f2.length c6], .int .i64 r4.2]) rfl (V_move rfl) ?_)
  refine RA_step rfl (OA_v (v := .agg #[.int .i64 r4.1.f0, .int .i64 r4.1.f1, .slice A5 r4.1.f2.length c6]) rfl (V_extract rfl rfl) ?_)
  refine RA_step rfl (OA_v (v := .int .i64 r4.2) rfl (V_extract rfl rfl) ?_)
  refine RA_step rfl (OA_alloc rfl zero67 fun b8 => ?_)
  refine RA_step rfl (OA_st (b := b8) (m := 0) (k := 2) (vs := [.int .i64 r4.1.f0, .int .i64 r4.1.f1, .slice A5 r4.1.f2.length c6]) (cs' := [.int .i64 r4.1.f0, .int .i64 r4.1.f1, .slice A5 r4.1.f2.length c6]) rfl rfl rfl rfl rfl rfl sz67 rfl rfl ?_)
  refine RA_step rfl (OA_v (v := .int .i64 r4.2) rfl (V_assign rfl) ?_)
  refine RA_nil ?_
  refine at_normal ?_
  refine SA_seq ?_
  refine SA_drawHq [0, 2, 4, 5] #[[], [0], [], [0, 2], [0, 2], [0, 2, 4]] [1] [0, 2] mixed rfl rfl rfl (PanOk.thn PanOk.body) fun I0 hS h0 hh0 w0 sH dd pk => ?_
  refine DH_take 0 (by kernel_rfl) rfl rfl (.no rfl) pk sH rfl (VR_loadA_blk (b := b2) (m := 0) (k := 0) (vs := [.int .i64 r1.f0, .int .i64 r1.f1, .bool r1.f2, .bool r1.f3, .bool r1.f4, .bool r1.f5, .bool r1.f6, .bool r1.f7, .bool r1.f8, .bool r1.f9]) Try.underlying70 rfl sz70 rfl rfl rfl) ?_
  refine DH_take 2 (by kernel_rfl) rfl rfl (.no rfl) pk sH rfl (VR_loadA_blk (b := b2) (m := 0) (k := 0) (vs := [.int .i64 r1.f0, .int .i64 r1.f1, .bool r1.f2, .bool r1.f3, .bool r1.f4, .bool r1.f5, .bool r1.f6, .bool r1.f7, .bool r1.f8, .bool r1.f9]) Try.underlying70 rfl sz70 rfl rfl rfl) ?_
  obtain ⟨r70, C74, H⟩ := g_bind H
  refine DH_one 1 dd (by kernel_rfl) rfl (.no rfl) (OA_callA [] [0, 1] rfl (X_fn (vs := [.int .i32 97, .agg #[.int .i64 r1.f0, .int .i64 r1.f1, .bool r1.f2, .bool r1.f3, .bool r1.f4, .bool r1.f5, .bool r1.f6, .bool r1.f7, .bool r1.f8, .bool r1.f9]]) Try.func69 nm69 rfl rfl) rfl (F69.ok (a0 := 97) (a1 := r1) C74) rfl ?_)
  rintro _ _ ⟨A71, c72, rfl, rfl⟩
  obtain ⟨r190, C194, H⟩ := g_bind H
  refine DH_one 3 dd (by kernel_rfl) rfl (.no rfl) (OA_callA [] [0, 1, 2] rfl (X_fn (vs := [.int .i32 98, .agg #[.int .i64 r1.f0, .int .i64 r1.f1, .bool r1.f2, .bool r1.f3, .bool r1.f4, .bool r1.f5, .bool r1.f6, .bool r1.f7, .bool r1.f8, .bool r1.f9]]) Try.func69 nm69 rfl rfl) rfl (F69.ok (a0 := 98) (a1 := r1) C194) rfl ?_)
  rintro _ _ ⟨A191, c192, rfl, rfl⟩
  refine DH_take (v := .slice A71 r70.length c72) 4 (by kernel_rfl) rfl rfl (.no rfl) pk sH rfl (VR.ofV (V_assign rfl)) ?_
  refine DH_take (v := .slice A191 r190.length c192) 5 (by kernel_rfl) rfl rfl (.no rfl) pk sH rfl (VR.ofV (V_assign rfl)) ?_
  refine DH_open dd sH ?_
  refine DN_done (by kernel_rfl) ?_
  refine at_normal ?_
  refine SA_seq ?_
  refine SA_drawHq [1, 2, 3, 4, 5, 6, 7, 10, 11, 12, 14] (List.toArray ([] :: [] :: [] :: [2] :: [2, 3] :: [] :: [5] :: [5, 6] :: [2, 3, 4, 5, 6, 7] :: [1, 2, 3, 4, 5, 6, 7] :: [1, 2, 3, 4, 5, 6, 7] :: [1, 2, 3, 4, 5, 6, 7, 10] :: [1, 2, 3, 4, 5, 6, 7, 10] :: [1, 2, 3, 4, 5, 6, 7, 10, 11] :: [1, 2, 3, 4, 5, 6, 7, 10, 11, 12] :: [])) [0, 1, 2] [3, 4] mixed rfl rfl rfl (PanOk.thn PanOk.body) fun I0 hS h0 hh0 w0 sH dd pk => ?_
  refine DH_take 1 (by kernel_rfl) rfl rfl (.no rfl) pk sH rfl (VR_loadA_blk (b := b2) (m := 0) (k := 0) (vs := [.int .i64 r1.f0, .int .i64 r1.f1, .bool r1.f2, .bool r1.f3, .bool r1.f4, .bool r1.f5, .bool r1.f6, .bool r1.f7, .bool r1.f8, .bool r1.f9]) Try.underlying70 rfl sz70 rfl rfl rfl) ?_
  refine DH_take (v := .slice A71 r70.length c72) 2 (by kernel_rfl) rfl rfl (.no rfl) pk sH rfl (VR.ofV (V_move rfl)) ?_
  obtain ⟨⟨g551, g552⟩, H⟩ := g_pos H
  refine DH_take 3 (by kernel_rfl) rfl rfl (.no rfl) pk sH rfl (VR_index (i := (0 : Int)) Try.underlying65 sz76 rfl rfl (Src.buf (k := 2) rfl) g551 g552) ?_
  refine DH_take 4 (by kernel_rfl) rfl rfl (.no rfl) pk sH rfl (VR_loadA_el (enc := enc76) (i := (0 : Int)) (j := (0 : Int).toNat * 15) (m := 0) (sz := 15) (vs := (.int .i32 ((rd r70 (0 : Int)).f0) :: .int .i32 (((rd r70 (0 : Int)).f1).f0) :: .int .i32 (((rd r70 (0 : Int)).f1).f1) :: .int .i32 (((rd r70 (0 : Int)).f1).f2) :: .int .u8 ((rd r70 (0 : Int)).f2) :: .int .i64 (((rd r70 (0 : Int)).f3).f0) :: .int .i64 (((rd r70 (0 : Int)).f3).f1) :: .bool (((rd r70 (0 : Int)).f3).f2) :: .bool (((rd r70 (0 : Int)).f3).f3) :: .bool (((rd r70 (0 : Int)).f3).f4) :: .bool (((rd r70 (0 : Int)).f3).f5) :: .bool (((rd r70 (0 : Int)).f3).f6) :: .bool (((rd r70 (0 : Int)).f3).f7) :: .bool (((rd r70 (0 : Int)).f3).f8) :: .bool (((rd r70 (0 : Int)).f3).f9) :: [])) Try.underlying76 rfl sz76 rfl rfl rfl (Src.buf (k := 2) rfl) g551 g552 (fun _ _ h => h) rfl) ?_
  refine DH_take (v := .slice A191 r190.length c192) 5 (by kernel_rfl) rfl rfl (.no rfl) pk sH rfl (VR.ofV (V_move rfl)) ?_
  obtain ⟨⟨g731, g732⟩, H⟩ := g_pos H
  refine DH_take 6 (by kernel_rfl) rfl rfl (.no rfl) pk sH rfl (VR_index (i := (0 : Int)) Try.underlying65 sz76 rfl rfl (Src.buf (k := 1) rfl) g731 g732) ?_
  refine DH_take 7 (by kernel_rfl) rfl rfl (.no rfl) pk sH rfl (VR_loadA_el (enc := enc76) (i := (0 : Int)) (j := (0 : Int).toNat * 15) (m := 0) (sz := 15) (vs := (.int .i32 ((rd r190 (0 : Int)).f0) :: .int .i32 (((rd r190 (0 : Int)).f1).f0) :: .int .i32 (((rd r190 (0 : Int)).f1).f1) :: .int .i32 (((rd r190 (0 : Int)).f1).f2) :: .int .u8 ((rd r190 (0 : Int)).f2) :: .int .i64 (((rd r190 (0 : Int)).f3).f0) :: .int .i64 (((rd r190 (0 : Int)).f3).f1) :: .bool (((rd r190 (0 : Int)).f3).f2) :: .bool (((rd r190 (0 : Int)).f3).f3) :: .bool (((rd r190 (0 : Int)).f3).f4) :: .bool (((rd r190 (0 : Int)).f3).f5) :: .bool (((rd r190 (0 : Int)).f3).f6) :: .bool (((rd r190 (0 : Int)).f3).f7) :: .bool (((rd r190 (0 : Int)).f3).f8) :: .bool (((rd r190 (0 : Int)).f3).f9) :: [])) Try.underlying76 rfl sz76 rfl rfl rfl (Src.buf (k := 1) rfl) g731 g732 (fun _ _ h => h) rfl) ?_
  obtain ⟨r911, C915, H⟩ := g_bind H
  refine DH_many (rs := [0, 8]) dd (by kernel_rfl) (by decide) (fal_cons ⟨_, rfl, (.no rfl), ?_⟩ (fal_cons ⟨_, rfl, (.no rfl), ?_⟩ fal_nil))
  · refine id (OA_r rfl (VR_loadA_blk (b := b8) (m := 0) (k := 1) (vs := [.int .i64 r4.1.f0, .int .i64 r4.1.f1, .slice A5 r4.1.f2.length c6]) Try.underlying67 rfl sz67 rfl rfl rfl) ?_)
    refine DH_one 8 dd (by kernel_rfl) rfl (.no rfl) (OA_bs (kd := k76) (zv := (.agg (List.toArray (.int .i32 0 :: .int .i32 0 :: .int .i32 0 :: .int .i32 0 :: .int .u8 0 :: .int .i64 0 :: .int .i64 0 :: .bool false :: .bool false :: .bool false :: .bool false :: .bool false :: .bool false :: .bool false :: .bool false :: [])))) (sz := 15) (cells := (.int .i32 ((rd r70 (0 : Int)).f0) :: .int .i32 (((rd r70 (0 : Int)).f1).f0) :: .int .i32 (((rd r70 (0 : Int)).f1).f1) :: .int .i32 (((rd r70 (0 : Int)).f1).f2) :: .int .u8 ((rd r70 (0 : Int)).f2) :: .int .i64 (((rd r70 (0 : Int)).f3).f0) :: .int .i64 (((rd r70 (0 : Int)).f3).f1) :: .bool (((rd r70 (0 : Int)).f3).f2) :: .bool (((rd r70 (0 : Int)).f3).f3) :: .bool (((rd r70 (0 : Int)).f3).f4) :: .bool (((rd r70 (0 : Int)).f3).f5) :: .bool (((rd r70 (0 : Int)).f3).f6) :: .bool (((rd r70 (0 : Int)).f3).f7) :: .bool (((rd r70 (0 : Int)).f3).f8) :: .bool (((rd r70 (0 : Int)).f3).f9) :: .int .i32 ((rd r190 (0 : Int)).f0) :: .int .i32 (((rd r190 (0 : Int)).f1).f0) :: .int .i32 (((rd r190 (0 : Int)).f1).f1) :: .int .i32 (((rd r190 (0 : Int)).f1).f2) :: .int .u8 ((rd r190 (0 : Int)).f2) :: .int .i64 (((rd r190 (0 : Int)).f3).f0) :: .int .i64 (((rd r190 (0 : Int)).f3).f1) :: .bool (((rd r190 (0 : Int)).f3).f2) :: .bool (((rd r190 (0 : Int)).f3).f3) :: .bool (((rd r190 (0 : Int)).f3).f4) :: .bool (((rd r190 (0 : Int)).f3).f5) :: .bool (((rd r190 (0 : Int)).f3).f6) :: .bool (((rd r190 (0 : Int)).f3).f7) :: .bool (((rd r190 (0 : Int)).f3).f8) :: .bool (((rd r190 (0 : Int)).f3).f9) :: [])) (xs := ([(S76.mk ((rd r70 (0 : Int)).f0) ((rd r70 (0 : Int)).f1) ((rd r70 (0 : Int)).f2) ((rd r70 (0 : Int)).f3)), (S76.mk ((rd r190 (0 : Int)).f0) ((rd r190 (0 : Int)).f1) ((rd r190 (0 : Int)).f2) ((rd r190 (0 : Int)).f3))] : (List S76))) rfl Try.underlying65 zero76 sz76 rfl rfl rfl (by kernel_rfl) rfl rfl (RL_enc enc76 (fun _ _ => rfl) (by kernel_rfl)) fun b851 => ?_)
    refine DH_one 9 dd (by kernel_rfl) rfl (.no rfl) (OA.ghost (Gh.freeze (k := 0) rfl) (OA.ghost (Gh.freeze (k := 2) rfl) (OA_callA [0, 2] [0, 1, 2] rfl (X_fn (vs := [.agg #[.int .i64 r4.1.f0, .int .i64 r4.1.f1, .slice A5 r4.1.f2.length c6], .int .i64 0, .int .i64 1, .agg #[.int .i64 r1.f0, .int .i64 r1.f1, .bool r1.f2, .bool r1.f3, .bool r1.f4, .bool r1.f5, .bool r1.f6, .bool r1.f7, .bool r1.f8, .bool r1.f9], .slice (some ⟨b851, 0, none⟩) ([(S76.mk ((rd r70 (0 : Int)).f0) ((rd r70 (0 : Int)).f1) ((rd r70 (0 : Int)).f2) ((rd r70 (0 : Int)).f3)), (S76.mk ((rd r190 (0 : Int)).f0) ((rd r190 (0 : Int)).f1) ((rd r190 (0 : Int)).f2) ((rd r190 (0 : Int)).f3))] : (List S76)).length 2]) Try.func42 nm42 rfl rfl) rfl (F42.ok (a0 := r4.1) (A0_0 := A5) (c0_0 := c6) (a1 := 0) (a2 := 1) (a3 := r1) (l4 := ([(S76.mk ((rd r70 (0 : Int)).f0) ((rd r70 (0 : Int)).f1) ((rd r70 (0 : Int)).f2) ((rd r70 (0 : Int)).f3)), (S76.mk ((rd r190 (0 : Int)).f0) ((rd r190 (0 : Int)).f1) ((rd r190 (0 : Int)).f2) ((rd r190 (0 : Int)).f3))] : (List S76))) (A4 := some ⟨b851, 0, none⟩) (c4 := 2) C915) rfl ?_)))
    rintro _ _ ⟨A912, c913, rfl, rfl⟩
    refine DH_take (v := .tuple #[.agg #[.int .i64 r911.1.f0, .int .i64 r911.1.f1, .slice A912 r911.1.f2.length c913], .int .i64 r911.2]) 10 (by kernel_rfl) rfl rfl (.no rfl) pk sH rfl (VR.ofV (V_move rfl)) ?_
    refine DH_take (v := .agg #[.int .i64 r911.1.f0, .int .i64 r911.1.f1, .slice A912 r911.1.f2.length c913]) 11 (by kernel_rfl) rfl rfl (.no rfl) pk sH rfl (VR.ofV (V_extract rfl rfl)) ?_
    refine DH_take (v := .int .i64 r911.2) 12 (by kernel_rfl) rfl rfl (.no rfl) pk sH rfl (VR.ofV (V_extract rfl rfl)) ?_
    refine DH_one 13 dd (by kernel_rfl) rfl (.no rfl) (OA_st (b := b8) (m := 0) (k := 2) (vs := [.int .i64 r911.1.f0, .int .i64 r911.1.f1, .slice A912 r911.1.f2.length c913]) (cs' := [.int .i64 r911.1.f0, .int .i64 r911.1.f1, .slice A912 r911.1.f2.length c913]) rfl rfl rfl rfl rfl rfl sz67 rfl rfl ?_)
    refine DH_take (v := .int .i64 r911.2) 14 (by kernel_rfl) rfl rfl (.no rfl) pk sH rfl (VR.ofV (V_assign rfl)) ?_
    refine DH_open dd sH ?_
    refine DN_done (by kernel_rfl) ?_
    refine at_normal ?_
    refine SA.of_St (l := [(1, .pointer (some ⟨b2, 0, none⟩)), (2, .pointer (some ⟨b8, 0, none⟩)), (3, .int .i64 r4.2), (6, .int .i64 r911.2)]) (B := [Blk b2 70 [.int .i64 r1.f0, .int .i64 r1.f1, .bool r1.f2, .bool r1.f3, .bool r1.f4, .bool r1.f5, .bool r1.f6, .bool r1.f7, .bool r1.f8, .bool r1.f9], Blk b8 67 [.int .i64 r911.1.f0, .int .i64 r911.1.f1, .slice A912 r911.1.f2.length c913], Buf k76 76 A912 c913 r911.1.f2]) (St.mk1 (aeq rfl (aeq rfl (aeq rfl (aeq rfl aeq0)))) (Gh.sel [0, 5, 3] (by kernel_rfl) (by kernel_rfl))) fun junk => ?_
    refine SA_seq ?_
    obtain ⟨t1272, H, Bt1272⟩ := g_bind H
    refine SA_mid (fun e ds As => ∃ (b1273 : Nat), ∃ (A1275 : Option Addr) (c1276 : Nat), St [(1, .pointer (some ⟨b2, 0, none⟩)), (3, .int .i64 r4.2), (6, .int .i64 r911.2), (7, .pointer (some ⟨b1273, 0, none⟩)), (8, .int .i64 t1272.2)] [Blk b1273 67 [.int .i64 t1272.1.f0, .int .i64 t1272.1.f1, .slice A1275 t1272.1.f2.length c1276], Buf k76 76 A1275 c1276 t1272.1.f2, Blk b2 70 [.int .i64 r1.f0, .int .i64 r1.f1, .bool r1.f2, .bool r1.f3, .bool r1.f4, .bool r1.f5, .bool r1.f6, .bool r1.f7, .bool r1.f8, .bool r1.f9]] e ds As) ?_ ?_
    · refine SA_drawHq [0, 1, 2, 5, 6, 7, 10] #[[], [], [], [2], [0, 1, 2], [0, 1, 2], [0, 1, 2, 5], [0, 1, 2, 5], [], [0, 1, 2, 5, 6], [0, 1, 2, 5, 6, 7]] [0, 1] [2] mixed rfl rfl rfl (PanOk.thn (PanOk.thn PanOk.body)) fun I0 hS h0 hh0 w0 sH dd pk => ?_
      refine DH_take 0 (by kernel_rfl) rfl rfl (.no rfl) pk sH rfl (VR_loadA_blk (b := b8) (m := 0) (k := 1) (vs := [.int .i64 r911.1.f0, .int .i64 r911.1.f1, .slice A912 r911.1.f2.length c913]) Try.underlying67 rfl sz67 rfl rfl rfl) ?_
      refine DH_take 1 (by kernel_rfl) rfl rfl (.no rfl) pk sH rfl (VR_loadA_blk (b := b2) (m := 0) (k := 0) (vs := [.int .i64 r1.f0, .int .i64 r1.f1, .bool r1.f2, .bool r1.f3, .bool r1.f4, .bool r1.f5, .bool r1.f6, .bool r1.f7, .bool r1.f8, .bool r1.f9]) Try.underlying70 rfl sz70 rfl rfl rfl) ?_
      refine DH_take 2 (by kernel_rfl) rfl rfl (.no rfl) pk sH rfl (VR_loadA_blk (b := b2) (m := 0) (k := 0) (vs := [.int .i64 r1.f0, .int .i64 r1.f1, .bool r1.f2, .bool r1.f3, .bool r1.f4, .bool r1.f5, .bool r1.f6, .bool r1.f7, .bool r1.f8, .bool r1.f9]) Try.underlying70 rfl sz70 rfl rfl rfl) ?_
      obtain ⟨r1458, C1462, H⟩ := g_bind H
      obtain ⟨r1518, C1522, H⟩ := g_bind H
      refine DH_many (rs := [3, 8]) dd (by kernel_rfl) (by decide) (fal_cons ⟨_, rfl, (.no rfl), ?_⟩ (fal_cons ⟨_, rfl, (.no rfl), ?_⟩ fal_nil))
      · refine id (OA_callA [] [0] rfl (X_fn (vs := [.int .i32 20013, .agg #[.int .i64 r1.f0, .int .i64 r1.f1, .bool r1.f2, .bool r1.f3, .bool r1.f4, .bool r1.f5, .bool r1.f6, .bool r1.f7, .bool r1.f8, .bool r1.f9]]) Try.func69 nm69 rfl rfl) rfl (F69.ok (a0 := 20013) (a1 := r1) C1462) rfl ?_)
        rintro _ _ ⟨A1459, c1460, rfl, rfl⟩
        refine DH_many (rs := [4, 8]) dd (by kernel_rfl) (by decide) (fal_cons ⟨_, rfl, (.no rfl), ?_⟩ (fal_cons ⟨_, rfl, (.no rfl), ?_⟩ fal_nil))
        · refine id (OA.ghost (Gh.freeze (k := 1) rfl) (OA.ghost (Gh.freeze (k := 0) rfl) (OA_callA [1, 0] [0, 1] rfl (X_fn (vs := [.agg #[.int .i64 r911.1.f0, .int .i64 r911.1.f1, .slice A912 r911.1.f2.length c913], .int .i64 0, .int .i64 3, .agg #[.int .i64 r1.f0, .int .i64 r1.f1, .bool r1.f2, .bool r1.f3, .bool r1.f4, .bool r1.f5, .bool r1.f6, .bool r1.f7, .bool r1.f8, .bool r1.f9], .slice A1459 r1458.length c1460]) Try.func42 nm42 rfl rfl) rfl (F42.ok (a0 := r911.1) (A0_0 := A912) (c0_0 := c913) (a1 := 0) (a2 := 3) (a3 := r1) (l4 := r1458) (A4 := A1459) (c4 := c1460) C1522) rfl ?_)))
          rintro _ _ ⟨A1519, c1520, rfl, rfl⟩
          refine DH_take (v := .tuple #[.agg #[.int .i64 r1518.1.f0, .int .i64 r1518.1.f1, .slice A1519 r1518.1.f2.length c1520], .int .i64 r1518.2]) 5 (by kernel_rfl) rfl rfl (.no rfl) pk sH rfl (VR.ofV (V_move rfl)) ?_
          refine DH_take (v := .agg #[.int .i64 r1518.1.f0, .int .i64 r1518.1.f1, .slice A1519 r1518.1.f2.length c1520]) 6 (by kernel_rfl) rfl rfl (.no rfl) pk sH rfl (VR.ofV (V_extract rfl rfl)) ?_
          refine DH_take (v := .int .i64 r1518.2) 7 (by kernel_rfl) rfl rfl (.no rfl) pk sH rfl (VR.ofV (V_extract rfl rfl)) ?_
          refine DH_one 8 dd (by kernel_rfl) rfl (.no rfl) (OA_alloc rfl zero67 fun b1758 => ?_)
          refine DH_one 9 dd (by kernel_rfl) rfl (.no rfl) (OA_st (b := b1758) (m := 0) (k := 3) (vs := [.int .i64 r1518.1.f0, .int .i64 r1518.1.f1, .slice A1519 r1518.1.f2.length c1520]) (cs' := [.int .i64 r1518.1.f0, .int .i64 r1518.1.f1, .slice A1519 r1518.1.f2.length c1520]) rfl rfl rfl rfl rfl rfl sz67 rfl rfl ?_)
          refine DH_take (v := .int .i64 r1518.2) 10 (by kernel_rfl) rfl rfl (.no rfl) pk sH rfl (VR.ofV (V_assign rfl)) ?_
          refine DH_open dd sH ?_
          refine DN_done (by kernel_rfl) ?_
          have hr_ := Option.some.inj H
          subst hr_
          exact at_normal ⟨b1758, A1519, c1520, St.mk1 (aeq rfl (aeq rfl (aeq rfl (aeq rfl (aeq rfl aeq0))))) (Gh.sel [5, 2, 0] rfl rfl)⟩
        refine id (OA_alloc rfl zero67 fun b1758 => ?_)
        refine DH_one 4 dd (by kernel_rfl) rfl (.no rfl) (OA.ghost (Gh.freeze (k := 1) rfl) (OA.ghost (Gh.freeze (k := 0) rfl) (OA_callA [1, 0] [0, 1, 2] rfl (X_fn (vs := [.agg #[.int .i64 r911.1.f0, .int .i64 r911.1.f1, .slice A912 r911.1.f2.length c913], .int .i64 0, .int .i64 3, .agg #[.int .i64 r1.f0, .int .i64 r1.f1, .bool r1.f2, .bool r1.f3, .bool r1.f4, .bool r1.f5, .bool r1.f6, .bool r1.f7, .bool r1.f8, .bool r1.f9], .slice A1459 r1458.length c1460]) Try.func42 nm42 rfl rfl) rfl (F42.ok (a0 := r911.1) (A0_0 := A912) (c0_0 := c913) (a1 := 0) (a2 := 3) (a3 := r1) (l4 := r1458) (A4 := A1459) (c4 := c1460) C1522) rfl ?_)))
        rintro _ _ ⟨A1519, c1520, rfl, rfl⟩
        refine DH_take (v := .tuple #[.agg #[.int .i64 r1518.1.f0, .int .i64 r1518.1.f1, .slice A1519 r1518.1.f2.length c1520], .int .i64 r1518.2]) 5 (by kernel_rfl) rfl rfl (.no rfl) pk sH rfl (VR.ofV (V_move rfl)) ?_
        refine DH_take (v := .agg #[.int .i64 r1518.1.f0, .int .i64 r1518.1.f1, .slice A1519 r1518.1.f2.length c1520]) 6 (by kernel_rfl) rfl rfl (.no rfl) pk sH rfl (VR.ofV (V_extract rfl rfl)) ?_
        refine DH_take (v := .int .i64 r1518.2) 7 (by kernel_rfl) rfl rfl (.no rfl) pk sH rfl (VR.ofV (V_extract rfl rfl)) ?_
        refine DH_one 9 dd (by kernel_rfl) rfl (.no rfl) (OA_st (b := b1758) (m := 0) (k := 3) (vs := [.int .i64 r1518.1.f0, .int .i64 r1518.1.f1, .slice A1519 r1518.1.f2.length c1520]) (cs' := [.int .i64 r1518.1.f0, .int .i64 r1518.1.f1, .slice A1519 r1518.1.f2.length c1520]) rfl rfl rfl rfl rfl rfl sz67 rfl rfl ?_)
        refine DH_take (v := .int .i64 r1518.2) 10 (by kernel_rfl) rfl rfl (.no rfl) pk sH rfl (VR.ofV (V_assign rfl)) ?_
        refine DH_open dd sH ?_
        refine DN_done (by kernel_rfl) ?_
        have hr_ := Option.some.inj H
        subst hr_
        exact at_normal ⟨b1758, A1519, c1520, St.mk1 (aeq rfl (aeq rfl (aeq rfl (aeq rfl (aeq rfl aeq0))))) (Gh.sel [5, 2, 0] rfl rfl)⟩
      refine id (OA_alloc rfl zero67 fun b1758 => ?_)
      refine DH_one 3 dd (by kernel_rfl) rfl (.no rfl) (OA_callA [] [0, 1] rfl (X_fn (vs := [.int .i32 20013, .agg #[.int .i64 r1.f0, .int .i64 r1.f1, .bool r1.f2, .bool r1.f3, .bool r1.f4, .bool r1.f5, .bool r1.f6, .bool r1.f7, .bool r1.f8, .bool r1.f9]]) Try.func69 nm69 rfl rfl) rfl (F69.ok (a0 := 20013) (a1 := r1) C1462) rfl ?_)
      rintro _ _ ⟨A1459, c1460, rfl, rfl⟩
      refine DH_one 4 dd (by kernel_rfl) rfl (.no rfl) (OA.ghost (Gh.freeze (k := 1) rfl) (OA.ghost (Gh.freeze (k := 0) rfl) (OA_callA [1, 0] [0, 1, 2] rfl (X_fn (vs := [.agg #[.int .i64 r911.1.f0, .int .i64 r911.1.f1, .slice A912 r911.1.f2.length c913], .int .i64 0, .int .i64 3, .agg #[.int .i64 r1.f0, .int .i64 r1.f1, .bool r1.f2, .bool r1.f3, .bool r1.f4, .bool r1.f5, .bool r1.f6, .bool r1.f7, .bool r1.f8, .bool r1.f9], .slice A1459 r1458.length c1460]) Try.func42 nm42 rfl rfl) rfl (F42.ok (a0 := r911.1) (A0_0 := A912) (c0_0 := c913) (a1 := 0) (a2 := 3) (a3 := r1) (l4 := r1458) (A4 := A1459) (c4 := c1460) C1522) rfl ?_)))
      rintro _ _ ⟨A1519, c1520, rfl, rfl⟩
      refine DH_take (v := .tuple #[.agg #[.int .i64 r1518.1.f0, .int .i64 r1518.1.f1, .slice A1519 r1518.1.f2.length c1520], .int .i64 r1518.2]) 5 (by kernel_rfl) rfl rfl (.no rfl) pk sH rfl (VR.ofV (V_move rfl)) ?_
      refine DH_take (v := .agg #[.int .i64 r1518.1.f0, .int .i64 r1518.1.f1, .slice A1519 r1518.1.f2.length c1520]) 6 (by kernel_rfl) rfl rfl (.no rfl) pk sH rfl (VR.ofV (V_extract rfl rfl)) ?_
      refine DH_take (v := .int .i64 r1518.2) 7 (by kernel_rfl) rfl rfl (.no rfl) pk sH rfl (VR.ofV (V_extract rfl rfl)) ?_
      refine DH_one 9 dd (by kernel_rfl) rfl (.no rfl) (OA_st (b := b1758) (m := 0) (k := 3) (vs := [.int .i64 r1518.1.f0, .int .i64 r1518.1.f1, .slice A1519 r1518.1.f2.length c1520]) (cs' := [.int .i64 r1518.1.f0, .int .i64 r1518.1.f1, .slice A1519 r1518.1.f2.length c1520]) rfl rfl rfl rfl rfl rfl sz67 rfl rfl ?_)
      refine DH_take (v := .int .i64 r1518.2) 10 (by kernel_rfl) rfl rfl (.no rfl) pk sH rfl (VR.ofV (V_assign rfl)) ?_
      refine DH_open dd sH ?_
      refine DN_done (by kernel_rfl) ?_
      have hr_ := Option.some.inj H
      subst hr_
      exact at_normal ⟨b1758, A1519, c1520, St.mk1 (aeq rfl (aeq rfl (aeq rfl (aeq rfl (aeq rfl aeq0))))) (Gh.sel [5, 2, 0] rfl rfl)⟩
    rintro e ds As ⟨b1273, A1275, c1276, hst1939⟩
    clear H
    have H := Bt1272
    clear Bt1272
    refine at_normal ?_
    refine SA.of_St hst1939 fun junk => ?_
    refine SA_seq ?_
    refine SA_drawHq (0 :: 1 :: 2 :: 3 :: 4 :: 5 :: 6 :: 7 :: 8 :: 9 :: 10 :: 11 :: 12 :: 13 :: 14 :: 15 :: 16 :: 17 :: 18 :: 19 :: 20 :: 21 :: 22 :: 23 :: 24 :: 25 :: 26 :: 27 :: 28 :: 29 :: 30 :: 31 :: 32 :: 33 :: []) (List.toArray ([] :: [0] :: [0, 1] :: [0, 1, 2] :: [0, 1, 2, 3] :: [0, 1, 2, 3, 4] :: [0, 1, 2, 3, 4, 5] :: [0, 1, 2, 3, 4, 5, 6] :: [0, 1, 2, 3, 4, 5, 6, 7] :: [0, 1, 2, 3, 4, 5, 6, 7, 8] :: [0, 1, 2, 3, 4, 5, 6, 7, 8, 9] :: [0, 1, 2, 3, 4, 5, 6, 7, 8, 9, 10] :: [0, 1, 2, 3, 4, 5, 6, 7, 8, 9, 10, 11] :: (0 :: 1 :: 2 :: 3 :: 4 :: 5 :: 6 :: 7 :: 8 :: 9 :: 10 :: 11 :: 12 :: []) :: (0 :: 1 :: 2 :: 3 :: 4 :: 5 :: 6 :: 7 :: 8 :: 9 :: 10 :: 11 :: 12 :: 13 :: []) :: (0 :: 1 :: 2 :: 3 :: 4 :: 5 :: 6 :: 7 :: 8 :: 9 :: 10 :: 11 :: 12 :: 13 :: 14 :: []) :: (0 :: 1 :: 2 :: 3 :: 4 :: 5 :: 6 :: 7 :: 8 :: 9 :: 10 :: 11 :: 12 :: 13 :: 14 :: 15 :: []) :: (0 :: 1 :: 2 :: 3 :: 4 :: 5 :: 6 :: 7 :: 8 :: 9 :: 10 :: 11 :: 12 :: 13 :: 14 :: 15 :: 16 :: []) :: (0 :: 1 :: 2 :: 3 :: 4 :: 5 :: 6 :: 7 :: 8 :: 9 :: 10 :: 11 :: 12 :: 13 :: 14 :: 15 :: 16 :: 17 :: []) :: (0 :: 1 :: 2 :: 3 :: 4 :: 5 :: 6 :: 7 :: 8 :: 9 :: 10 :: 11 :: 12 :: 13 :: 14 :: 15 :: 16 :: 17 :: 18 :: []) :: (0 :: 1 :: 2 :: 3 :: 4 :: 5 :: 6 :: 7 :: 8 :: 9 :: 10 :: 11 :: 12 :: 13 :: 14 :: 15 :: 16 :: 17 :: 18 :: 19 :: []) :: (0 :: 1 :: 2 :: 3 :: 4 :: 5 :: 6 :: 7 :: 8 :: 9 :: 10 :: 11 :: 12 :: 13 :: 14 :: 15 :: 16 :: 17 :: 18 :: 19 :: 20 :: []) :: (0 :: 1 :: 2 :: 3 :: 4 :: 5 :: 6 :: 7 :: 8 :: 9 :: 10 :: 11 :: 12 :: 13 :: 14 :: 15 :: 16 :: 17 :: 18 :: 19 :: 20 :: 21 :: []) :: (0 :: 1 :: 2 :: 3 :: 4 :: 5 :: 6 :: 7 :: 8 :: 9 :: 10 :: 11 :: 12 :: 13 :: 14 :: 15 :: 16 :: 17 :: 18 :: 19 :: 20 :: 21 :: 22 :: []) :: (0 :: 1 :: 2 :: 3 :: 4 :: 5 :: 6 :: 7 :: 8 :: 9 :: 10 :: 11 :: 12 :: 13 :: 14 :: 15 :: 16 :: 17 :: 18 :: 19 :: 20 :: 21 :: 22 :: 23 :: []) :: (0 :: 1 :: 2 :: 3 :: 4 :: 5 :: 6 :: 7 :: 8 :: 9 :: 10 :: 11 :: 12 :: 13 :: 14 :: 15 :: 16 :: 17 :: 18 :: 19 :: 20 :: 21 :: 22 :: 23 :: 24 :: []) :: (0 :: 1 :: 2 :: 3 :: 4 :: 5 :: 6 :: 7 :: 8 :: 9 :: 10 :: 11 :: 12 :: 13 :: 14 :: 15 :: 16 :: 17 :: 18 :: 19 :: 20 :: 21 :: 22 :: 23 :: 24 :: 25 :: []) :: (0 :: 1 :: 2 :: 3 :: 4 :: 5 :: 6 :: 7 :: 8 :: 9 :: 10 :: 11 :: 12 :: 13 :: 14 :: 15 :: 16 :: 17 :: 18 :: 19 :: 20 :: 21 :: 22 :: 23 :: 24 :: 25 :: 26 :: []) :: (0 :: 1 :: 2 :: 3 :: 4 :: 5 :: 6 :: 7 :: 8 :: 9 :: 10 :: 11 :: 12 :: 13 :: 14 :: 15 :: 16 :: 17 :: 18 :: 19 :: 20 :: 21 :: 22 :: 23 :: 24 :: 25 :: 26 :: 27 :: []) :: (0 :: 1 :: 2 :: 3 :: 4 :: 5 :: 6 :: 7 :: 8 :: 9 :: 10 :: 11 :: 12 :: 13 :: 14 :: 15 :: 16 :: 17 :: 18 :: 19 :: 20 :: 21 :: 22 :: 23 :: 24 :: []) :: (0 :: 1 :: 2 :: 3 :: 4 :: 5 :: 6 :: 7 :: 8 :: 9 :: 10 :: 11 :: 12 :: 13 :: 14 :: 15 :: 16 :: 17 :: 18 :: 19 :: 20 :: 21 :: 22 :: 23 :: 24 :: 29 :: []) :: (0 :: 1 :: 2 :: 3 :: 4 :: 5 :: 6 :: 7 :: 8 :: 9 :: 10 :: 11 :: 12 :: 13 :: 14 :: 15 :: 16 :: 17 :: 18 :: 19 :: 20 :: 21 :: 22 :: 23 :: 24 :: 25 :: 26 :: 27 :: 28 :: 29 :: 30 :: []) :: (0 :: 1 :: 2 :: 3 :: 4 :: 5 :: 6 :: 7 :: 8 :: 9 :: 10 :: 11 :: 12 :: 13 :: 14 :: 15 :: 16 :: 17 :: 18 :: 19 :: 20 :: 21 :: 22 :: 23 :: 24 :: 25 :: 26 :: 27 :: 28 :: 29 :: 30 :: 31 :: []) :: (0 :: 1 :: 2 :: 3 :: 4 :: 5 :: 6 :: 7 :: 8 :: 9 :: 10 :: 11 :: 12 :: 13 :: 14 :: 15 :: 16 :: 17 :: 18 :: 19 :: 20 :: 21 :: 22 :: 23 :: 24 :: 25 :: 26 :: 27 :: 28 :: 29 :: 30 :: 31 :: 32 :: []) :: [])) [0, 1, 2] [] mixed rfl rfl rfl (PanOk.thn PanOk.body) fun I0 hS h0 hh0 w0 sH dd pk => ?_
    refine DH_take (v := .int .i64 r4.2) 0 (by kernel_rfl) rfl rfl (.no rfl) pk sH rfl (VR.ofV (V_move rfl)) ?_
    refine DH_take (v := .bool (decide (r4.2 = 0))) 1 (by kernel_rfl) rfl rfl (.no rfl) pk sH rfl (VR.ofV (V_eql rfl rfl)) ?_
    refine DH_take (v := .bool (decide (r4.2 = 0))) 2 (by kernel_rfl) rfl rfl (.no rfl) pk sH rfl (VR.ofV (V_move rfl)) ?_
    by_cases h3981 : r4.2 = 0
    · replace H := g_ift h3981 H
      refine DH_take (v := .int .i64 r911.2) 3 (by kernel_rfl) rfl rfl (.yes rfl rfl rfl rfl (dec_t h3981)) pk sH rfl (VR.ofV (V_move rfl)) ?_
      refine DH_take (v := .bool (decide (r911.2 = 0))) 4 (by kernel_rfl) rfl rfl (.yes rfl rfl rfl rfl (dec_t h3981)) pk sH rfl (VR.ofV (V_eql rfl rfl)) ?_
      refine DH_take 5 (by kernel_rfl) rfl rfl (.no rfl) pk sH rfl (VR.ofV (V_pickT rfl (dec_t h3981) rfl)) ?_
      refine DH_take (v := .bool (decide (r911.2 = 0))) 6 (by kernel_rfl) rfl rfl (.no rfl) pk sH rfl (VR.ofV (V_move rfl)) ?_
      by_cases h3982 : r911.2 = 0
      · replace H := g_ift h3982 H
        refine DH_take (v := .int .i64 t1272.2) 7 (by kernel_rfl) rfl rfl (.yes rfl rfl rfl rfl (dec_t h3982)) pk sH rfl (VR.ofV (V_move rfl)) ?_
        refine DH_take (v := .bool (decide (t1272.2 = 0))) 8 (by kernel_rfl) rfl rfl (.yes rfl rfl rfl rfl (dec_t h3982)) pk sH rfl (VR.ofV (V_eql rfl rfl)) ?_
        refine DH_take 9 (by kernel_rfl) rfl rfl (.no rfl) pk sH rfl (VR.ofV (V_pickT rfl (dec_t h3982) rfl)) ?_
        refine DH_take (v := .bool (decide (t1272.2 = 0))) 10 (by kernel_rfl) rfl rfl (.no rfl) pk sH rfl (VR.ofV (V_move rfl)) ?_
        by_cases h3983 : t1272.2 = 0
        · replace H := g_ift h3983 H
          refine DH_take (v := .pointer (some ((⟨b1273, 0, none⟩ : Addr).add 2))) 11 (by kernel_rfl) rfl rfl (.yes rfl rfl rfl rfl (dec_t h3983)) pk sH rfl (VR.ofV (V_fieldAddrN (B := ⟨b1273, 0, none⟩) (m := 0) (o := 2) Try.underlying67 rfl nz65 rfl rfl)) ?_
          refine DH_take 12 (by kernel_rfl) rfl rfl (.yes rfl rfl rfl rfl (dec_t h3983)) pk sH rfl (VR_load_blk (b := b1273) (m := 2) (k := 0) Try.underlying65 rfl rfl rfl rfl) ?_
          refine DH_take (v := .int .i64 (t1272.1.f2.length : Int)) 13 (by kernel_rfl) rfl rfl (.yes rfl rfl rfl rfl (dec_t h3983)) pk sH rfl (VR.ofV (V_len Try.underlying65 rfl)) ?_
          refine DH_take (v := .bool (decide ((t1272.1.f2.length : Int) = 4))) 14 (by kernel_rfl) rfl rfl (.yes rfl rfl rfl rfl (dec_t h3983)) pk sH rfl (VR.ofV (V_eql rfl rfl)) ?_
          refine DH_take 15 (by kernel_rfl) rfl rfl (.no rfl) pk sH rfl (VR.ofV (V_pickT rfl (dec_t h3983) rfl)) ?_
          refine DH_take (v := .bool (decide ((t1272.1.f2.length : Int) = 4))) 16 (by kernel_rfl) rfl rfl (.no rfl) pk sH rfl (VR.ofV (V_move rfl)) ?_
          by_cases h3984 : (t1272.1.f2.length : Int) = 4
          · replace H := g_ift h3984 H
            refine DH_take (v := .pointer (some ((⟨b1273, 0, none⟩ : Addr).add 2))) 17 (by kernel_rfl) rfl rfl (.yes rfl rfl rfl rfl (dec_t h3984)) pk sH rfl (VR.ofV (V_fieldAddrN (B := ⟨b1273, 0, none⟩) (m := 0) (o := 2) Try.underlying67 rfl nz65 rfl rfl)) ?_
            refine DH_take 18 (by kernel_rfl) rfl rfl (.yes rfl rfl rfl rfl (dec_t h3984)) pk sH rfl (VR_load_blk (b := b1273) (m := 2) (k := 0) Try.underlying65 rfl rfl rfl rfl) ?_
            obtain ⟨⟨g3080, g3081⟩, H⟩ := g_pos H
            refine DH_take 19 (by kernel_rfl) rfl rfl (.yes rfl rfl rfl rfl (dec_t h3984)) pk sH rfl (VR_index (i := (1 : Int)) Try.underlying65 sz76 rfl rfl (Src.buf (k := 1) rfl) g3080 g3081) ?_
            refine DH_take (v := .pointer (some ((el A1275 ((1 : Int).toNat * 15)).add 0))) 20 (by kernel_rfl) rfl rfl (.yes rfl rfl rfl rfl (dec_t h3984)) pk sH rfl (VR.ofV (V_fieldAddrN (B := el A1275 ((1 : Int).toNat * 15)) (m := 0) (o := 0) Try.underlying76 rfl nz21 rfl rfl)) ?_
            refine DH_take 21 (by kernel_rfl) rfl rfl (.yes rfl rfl rfl rfl (dec_t h3984)) pk sH rfl (VR_load_el (enc := enc76) (i := (1 : Int)) (j := (1 : Int).toNat * 15) (m := 0) (sz := 15) Try.underlying21 rfl rfl rfl rfl (Src.buf (k := 1) rfl) g3080 g3081 (fun _ _ h => h) rfl) ?_
            refine DH_take (v := .bool (decide (((rd t1272.1.f2 (1 : Int)).f0) = 97))) 22 (by kernel_rfl) rfl rfl (.yes rfl rfl rfl rfl (dec_t h3984)) pk sH rfl (VR.ofV (V_eql rfl rfl)) ?_
            refine DH_take 23 (by kernel_rfl) rfl rfl (.no rfl) pk sH rfl (VR.ofV (V_pickT rfl (dec_t h3984) rfl)) ?_
            refine DH_take (v := .bool (decide (((rd t1272.1.f2 (1 : Int)).f0) = 97))) 24 (by kernel_rfl) rfl rfl (.no rfl) pk sH rfl (VR.ofV (V_move rfl)) ?_
            by_cases h3985 : ((rd t1272.1.f2 (1 : Int)).f0) = 97
            · replace H := g_ift h3985 H
              refine DH_take (v := .pointer (some ((⟨b1273, 0, none⟩ : Addr).add 2))) 25 (by kernel_rfl) rfl rfl (.yes rfl rfl rfl rfl (dec_t h3985)) pk sH rfl (VR.ofV (V_fieldAddrN (B := ⟨b1273, 0, none⟩) (m := 0) (o := 2) Try.underlying67 rfl nz65 rfl rfl)) ?_
              refine DH_take 26 (by kernel_rfl) rfl rfl (.yes rfl rfl rfl rfl (dec_t h3985)) pk sH rfl (VR_load_blk (b := b1273) (m := 2) (k := 0) Try.underlying65 rfl rfl rfl rfl) ?_
              obtain ⟨⟨g3560, g3561⟩, H⟩ := g_pos H
              refine DH_take 27 (by kernel_rfl) rfl rfl (.yes rfl rfl rfl rfl (dec_t h3985)) pk sH rfl (VR_index (i := (3 : Int)) Try.underlying65 sz76 rfl rfl (Src.buf (k := 1) rfl) g3560 g3561) ?_
              refine DH_take 28 (by kernel_rfl) rfl rfl (.yes rfl rfl rfl rfl (dec_t h3985)) pk sH rfl (VR_loadA_el (enc := enc76) (i := (3 : Int)) (j := (3 : Int).toNat * 15) (m := 0) (sz := 15) (vs := (.int .i32 ((rd t1272.1.f2 (3 : Int)).f0) :: .int .i32 (((rd t1272.1.f2 (3 : Int)).f1).f0) :: .int .i32 (((rd t1272.1.f2 (3 : Int)).f1).f1) :: .int .i32 (((rd t1272.1.f2 (3 : Int)).f1).f2) :: .int .u8 ((rd t1272.1.f2 (3 : Int)).f2) :: .int .i64 (((rd t1272.1.f2 (3 : Int)).f3).f0) :: .int .i64 (((rd t1272.1.f2 (3 : Int)).f3).f1) :: .bool (((rd t1272.1.f2 (3 : Int)).f3).f2) :: .bool (((rd t1272.1.f2 (3 : Int)).f3).f3) :: .bool (((rd t1272.1.f2 (3 : Int)).f3).f4) :: .bool (((rd t1272.1.f2 (3 : Int)).f3).f5) :: .bool (((rd t1272.1.f2 (3 : Int)).f3).f6) :: .bool (((rd t1272.1.f2 (3 : Int)).f3).f7) :: .bool (((rd t1272.1.f2 (3 : Int)).f3).f8) :: .bool (((rd t1272.1.f2 (3 : Int)).f3).f9) :: [])) Try.underlying76 rfl sz76 rfl rfl rfl (Src.buf (k := 1) rfl) g3560 g3561 (fun _ _ h => h) rfl) ?_
              refine DH_take 29 (by kernel_rfl) rfl rfl (.yes rfl rfl rfl rfl (dec_t h3985)) pk sH rfl (VR_loadA_blk (b := b2) (m := 0) (k := 2) (vs := [.int .i64 r1.f0, .int .i64 r1.f1, .bool r1.f2, .bool r1.f3, .bool r1.f4, .bool r1.f5, .bool r1.f6, .bool r1.f7, .bool r1.f8, .bool r1.f9]) Try.underlying70 rfl sz70 rfl rfl rfl) ?_
              obtain ⟨r3740, C3741, H⟩ := g_bind H
              refine DH_one 30 dd (by kernel_rfl) rfl (.yes rfl rfl rfl rfl (dec_t h3985)) (OA_callA [] [] rfl (X_fn (vs := [.agg #[.int .i64 r1.f0, .int .i64 r1.f1, .bool r1.f2, .bool r1.f3, .bool r1.f4, .bool r1.f5, .bool r1.f6, .bool r1.f7, .bool r1.f8, .bool r1.f9]]) Try.func70 nm70 rfl rfl) rfl (F70.ok (a0 := r1) C3741) rfl ?_)
              rintro _ _ ⟨rfl, rfl⟩
              refine DH_take (v := .bool (decide ((rd t1272.1.f2 (3 : Int)) = r3740))) 31 (by kernel_rfl) rfl rfl (.yes rfl rfl rfl rfl (dec_t h3985)) pk sH rfl (VR.ofV (V_eqlD (xs := (.int .i32 ((rd t1272.1.f2 (3 : Int)).f0) :: .int .i32 (((rd t1272.1.f2 (3 : Int)).f1).f0) :: .int .i32 (((rd t1272.1.f2 (3 : Int)).f1).f1) :: .int .i32 (((rd t1272.1.f2 (3 : Int)).f1).f2) :: .int .u8 ((rd t1272.1.f2 (3 : Int)).f2) :: .int .i64 (((rd t1272.1.f2 (3 : Int)).f3).f0) :: .int .i64 (((rd t1272.1.f2 (3 : Int)).f3).f1) :: .bool (((rd t1272.1.f2 (3 : Int)).f3).f2) :: .bool (((rd t1272.1.f2 (3 : Int)).f3).f3) :: .bool (((rd t1272.1.f2 (3 : Int)).f3).f4) :: .bool (((rd t1272.1.f2 (3 : Int)).f3).f5) :: .bool (((rd t1272.1.f2 (3 : Int)).f3).f6) :: .bool (((rd t1272.1.f2 (3 : Int)).f3).f7) :: .bool (((rd t1272.1.f2 (3 : Int)).f3).f8) :: .bool (((rd t1272.1.f2 (3 : Int)).f3).f9) :: [])) (ys := (.int .i32 r3740.f0 :: .int .i32 r3740.f1.f0 :: .int .i32 r3740.f1.f1 :: .int .i32 r3740.f1.f2 :: .int .u8 r3740.f2 :: .int .i64 r3740.f3.f0 :: .int .i64 r3740.f3.f1 :: .bool r3740.f3.f2 :: .bool r3740.f3.f3 :: .bool r3740.f3.f4 :: .bool r3740.f3.f5 :: .bool r3740.f3.f6 :: .bool r3740.f3.f7 :: .bool r3740.f3.f8 :: .bool r3740.f3.f9 :: [])) (r := ((((rd t1272.1.f2 (3 : Int)).f0) == r3740.f0) && ((((((rd t1272.1.f2 (3 : Int)).f1).f0) == r3740.f1.f0) && (((((rd t1272.1.f2 (3 : Int)).f1).f1) == r3740.f1.f1) && (((((rd t1272.1.f2 (3 : Int)).f1).f2) == r3740.f1.f2) && true))) && ((((rd t1272.1.f2 (3 : Int)).f2) == r3740.f2) && ((((((rd t1272.1.f2 (3 : Int)).f3).f0) == r3740.f3.f0) && (((((rd t1272.1.f2 (3 : Int)).f3).f1) == r3740.f3.f1) && (((((rd t1272.1.f2 (3 : Int)).f3).f2) == r3740.f3.f2) && (((((rd t1272.1.f2 (3 : Int)).f3).f3) == r3740.f3.f3) && (((((rd t1272.1.f2 (3 : Int)).f3).f4) == r3740.f3.f4) && (((((rd t1272.1.f2 (3 : Int)).f3).f5) == r3740.f3.f5) && (((((rd t1272.1.f2 (3 : Int)).f3).f6) == r3740.f3.f6) && (((((rd t1272.1.f2 (3 : Int)).f3).f7) == r3740.f3.f7) && (((((rd t1272.1.f2 (3 : Int)).f3).f8) == r3740.f3.f8) && (((((rd t1272.1.f2 (3 : Int)).f3).f9) == r3740.f3.f9) && true)))))))))) && true))))) (p := (rd t1272.1.f2 (3 : Int)) = r3740) eqg76 rfl rfl (by kernel_rfl) (eqv76 (x := rd t1272.1.f2 (3 : Int)) (y := r3740)))) ?_
              refine DH_take 32 (by kernel_rfl) rfl rfl (.no rfl) pk sH rfl (VR.ofV (V_pickT rfl (dec_t h3985) rfl)) ?_
              refine DH_take (v := .bool (decide ((rd t1272.1.f2 (3 : Int)) = r3740))) 33 (by kernel_rfl) rfl rfl (.no rfl) pk sH rfl (VR.ofV (V_assign rfl)) ?_
              refine DH_open dd sH ?_
              refine DN_done (by kernel_rfl) ?_
              refine at_normal ?_
              refine SA_ret ?_
              have hr_ := Option.some.inj H
              subst hr_
              exact BQ_R1 [] rfl rfl (Gh.sel [] rfl rfl) ⟨rfl, rfl⟩
            replace H := g_iff h3985 H
            refine DH_skip 25 (by kernel_rfl) rfl rfl (.no rfl rfl rfl rfl (dec_f h3985)) pk rfl ?_
            refine DH_skip 26 (by kernel_rfl) rfl rfl (.no rfl rfl rfl rfl (dec_f h3985)) pk rfl ?_
            refine DH_skip 27 (by kernel_rfl) rfl rfl (.no rfl rfl rfl rfl (dec_f h3985)) pk rfl ?_
            refine DH_skip 28 (by kernel_rfl) rfl rfl (.no rfl rfl rfl rfl (dec_f h3985)) pk rfl ?_
            refine DH_skip 29 (by kernel_rfl) rfl rfl (.no rfl rfl rfl rfl (dec_f h3985)) pk rfl ?_
            refine DH_skip 30 (by kernel_rfl) rfl rfl (.no rfl rfl rfl rfl (dec_f h3985)) pk rfl ?_
            refine DH_skip 31 (by kernel_rfl) rfl rfl (.no rfl rfl rfl rfl (dec_f h3985)) pk rfl ?_
            refine DH_take 32 (by kernel_rfl) rfl rfl (.no rfl) pk sH rfl (VR.ofV (V_pickF rfl (dec_f h3985) rfl)) ?_
            refine DH_take (v := .bool false) 33 (by kernel_rfl) rfl rfl (.no rfl) pk sH rfl (VR.ofV (V_assign rfl)) ?_
            refine DH_open dd sH ?_
            refine DN_done (by kernel_rfl) ?_
            refine at_normal ?_
            refine SA_ret ?_
            have hr_ := Option.some.inj H
            subst hr_
            exact BQ_R1 [] rfl rfl (Gh.sel [] rfl rfl) ⟨rfl, rfl⟩
          replace H := g_iff h3984 H
          refine DH_skip 17 (by kernel_rfl) rfl rfl (.no rfl rfl rfl rfl (dec_f h3984)) pk rfl ?_
          refine DH_skip 18 (by kernel_rfl) rfl rfl (.no rfl rfl rfl rfl (dec_f h3984)) pk rfl ?_
          refine DH_skip 19 (by kernel_rfl) rfl rfl (.no rfl rfl rfl rfl (dec_f h3984)) pk rfl ?_
          refine DH_skip 20 (by kernel_rfl) rfl rfl (.no rfl rfl rfl rfl (dec_f h3984)) pk rfl ?_
          refine DH_skip 21 (by kernel_rfl) rfl rfl (.no rfl rfl rfl rfl (dec_f h3984)) pk rfl ?_
          refine DH_skip 22 (by kernel_rfl) rfl rfl (.no rfl rfl rfl rfl (dec_f h3984)) pk rfl ?_
          refine DH_take 23 (by kernel_rfl) rfl rfl (.no rfl) pk sH rfl (VR.ofV (V_pickF rfl (dec_f h3984) rfl)) ?_
          refine DH_take (v := .bool false) 24 (by kernel_rfl) rfl rfl (.no rfl) pk sH rfl (VR.ofV (V_move rfl)) ?_
          refine DH_skip 25 (by kernel_rfl) rfl rfl (.no rfl rfl rfl rfl (rfl)) pk rfl ?_
          refine DH_skip 26 (by kernel_rfl) rfl rfl (.no rfl rfl rfl rfl (rfl)) pk rfl ?_
          refine DH_skip 27 (by kernel_rfl) rfl rfl (.no rfl rfl rfl rfl (rfl)) pk rfl ?_
          refine DH_skip 28 (by kernel_rfl) rfl rfl (.no rfl rfl rfl rfl (rfl)) pk rfl ?_
          refine DH_skip 29 (by kernel_rfl) rfl rfl (.no rfl rfl rfl rfl (rfl)) pk rfl ?_
          refine DH_skip 30 (by kernel_rfl) rfl rfl (.no rfl rfl rfl rfl (rfl)) pk rfl ?_
          refine DH_skip 31 (by kernel_rfl) rfl rfl (.no rfl rfl rfl rfl (rfl)) pk rfl ?_
          refine DH_take 32 (by kernel_rfl) rfl rfl (.no rfl) pk sH rfl (VR.ofV (V_pickF rfl (rfl) rfl)) ?_
          refine DH_take (v := .bool false) 33 (by kernel_rfl) rfl rfl (.no rfl) pk sH rfl (VR.ofV (V_assign rfl)) ?_
          refine DH_open dd sH ?_
          refine DN_done (by kernel_rfl) ?_
          refine at_normal ?_
          refine SA_ret ?_
          have hr_ := Option.some.inj H
          subst hr_
          exact BQ_R1 [] rfl rfl (Gh.sel [] rfl rfl) ⟨rfl, rfl⟩
        replace H := g_iff h3983 H
        refine DH_skip 11 (by kernel_rfl) rfl rfl (.no rfl rfl rfl rfl (dec_f h3983)) pk rfl ?_
        refine DH_skip 12 (by kernel_rfl) rfl rfl (.no rfl rfl rfl rfl (dec_f h3983)) pk rfl ?_
        refine DH_skip 13 (by kernel_rfl) rfl rfl (.no rfl rfl rfl rfl (dec_f h3983)) pk rfl ?_
        refine DH_skip 14 (by kernel_rfl) rfl rfl (.no rfl rfl rfl rfl (dec_f h3983)) pk rfl ?_
        refine DH_take 15 (by kernel_rfl) rfl rfl (.no rfl) pk sH rfl (VR.ofV (V_pickF rfl (dec_f h3983) rfl)) ?_
        refine DH_take (v := .bool false) 16 (by kernel_rfl) rfl rfl (.no rfl) pk sH rfl (VR.ofV (V_move rfl)) ?_
        refine DH_skip 17 (by kernel_rfl) rfl rfl (.no rfl rfl rfl rfl (rfl)) pk rfl ?_
        refine DH_skip 18 (by kernel_rfl) rfl rfl (.no rfl rfl rfl rfl (rfl)) pk rfl ?_
        refine DH_skip 19 (by kernel_rfl) rfl rfl (.no rfl rfl rfl rfl (rfl)) pk rfl ?_
        refine DH_skip 20 (by kernel_rfl) rfl rfl (.no rfl rfl rfl rfl (rfl)) pk rfl ?_
        refine DH_skip 21 (by kernel_rfl) rfl rfl (.no rfl rfl rfl rfl (rfl)) pk rfl ?_
        refine DH_skip 22 (by kernel_rfl) rfl rfl (.no rfl rfl rfl rfl (rfl)) pk rfl ?_
        refine DH_take 23 (by kernel_rfl) rfl rfl (.no rfl) pk sH rfl (VR.ofV (V_pickF rfl (rfl) rfl)) ?_
        refine DH_take (v := .bool false) 24 (by kernel_rfl) rfl rfl (.no rfl) pk sH rfl (VR.ofV (V_move rfl)) ?_
        refine DH_skip 25 (by kernel_rfl) rfl rfl (.no rfl rfl rfl rfl (rfl)) pk rfl ?_
        refine DH_skip 26 (by kernel_rfl) rfl rfl (.no rfl rfl rfl rfl (rfl)) pk rfl ?_
        refine DH_skip 27 (by kernel_rfl) rfl rfl (.no rfl rfl rfl rfl (rfl)) pk rfl ?_
        refine DH_skip 28 (by kernel_rfl) rfl rfl (.no rfl rfl rfl rfl (rfl)) pk rfl ?_
        refine DH_skip 29 (by kernel_rfl) rfl rfl (.no rfl rfl rfl rfl (rfl)) pk rfl ?_
        refine DH_skip 30 (by kernel_rfl) rfl rfl (.no rfl rfl rfl rfl (rfl)) pk rfl ?_
        refine DH_skip 31 (by kernel_rfl) rfl rfl (.no rfl rfl rfl rfl (rfl)) pk rfl ?_
        refine DH_take 32 (by kernel_rfl) rfl rfl (.no rfl) pk sH rfl (VR.ofV (V_pickF rfl (rfl) rfl)) ?_
        refine DH_take (v := .bool false) 33 (by kernel_rfl) rfl rfl (.no rfl) pk sH rfl (VR.ofV (V_assign rfl)) ?_
        refine DH_open dd sH ?_
        refine DN_done (by kernel_rfl) ?_
        refine at_normal ?_
        refine SA_ret ?_
        have hr_ := Option.some.inj H
        subst hr_
        exact BQ_R1 [] rfl rfl (Gh.sel [] rfl rfl) ⟨rfl, rfl⟩
      replace H := g_iff h3982 H
      refine DH_skip 7 (by kernel_rfl) rfl rfl (.no rfl rfl rfl rfl (dec_f h3982)) pk rfl ?_
      refine DH_skip 8 (by kernel_rfl) rfl rfl (.no rfl rfl rfl rfl (dec_f h3982)) pk rfl ?_
      refine DH_take 9 (by kernel_rfl) rfl rfl (.no rfl) pk sH rfl (VR.ofV (V_pickF rfl (dec_f h3982) rfl)) ?_
      refine DH_take (v := .bool false) 10 (by kernel_rfl) rfl rfl (.no rfl) pk sH rfl (VR.ofV (V_move rfl)) ?_
      refine DH_skip 11 (by kernel_rfl) rfl rfl (.no rfl rfl rfl rfl (rfl)) pk rfl ?_
      refine DH_skip 12 (by kernel_rfl) rfl rfl (.no rfl rfl rfl rfl (rfl)) pk rfl ?_
      refine DH_skip 13 (by kernel_rfl) rfl rfl (.no rfl rfl rfl rfl (rfl)) pk rfl ?_
      refine DH_skip 14 (by kernel_rfl) rfl rfl (.no rfl rfl rfl rfl (rfl)) pk rfl ?_
      refine DH_take 15 (by kernel_rfl) rfl rfl (.no rfl) pk sH rfl (VR.ofV (V_pickF rfl (rfl) rfl)) ?_
      refine DH_take (v := .bool false) 16 (by kernel_rfl) rfl rfl (.no rfl) pk sH rfl (VR.ofV (V_move rfl)) ?_
      refine DH_skip 17 (by kernel_rfl) rfl rfl (.no rfl rfl rfl rfl (rfl)) pk rfl ?_
      refine DH_skip 18 (by kernel_rfl) rfl rfl (.no rfl rfl rfl rfl (rfl)) pk rfl ?_
      refine DH_skip 19 (by kernel_rfl) rfl rfl (.no rfl rfl rfl rfl (rfl)) pk rfl ?_
      refine DH_skip 20 (by kernel_rfl) rfl rfl (.no rfl rfl rfl rfl (rfl)) pk rfl ?_
      refine DH_skip 21 (by kernel_rfl) rfl rfl (.no rfl rfl rfl rfl (rfl)) pk rfl ?_
      refine DH_skip 22 (by kernel_rfl) rfl rfl (.no rfl rfl rfl rfl (rfl)) pk rfl ?_
      refine DH_take 23 (by kernel_rfl) rfl rfl (.no rfl) pk sH rfl (VR.ofV (V_pickF rfl (rfl) rfl)) ?_
      refine DH_take (v := .bool false) 24 (by kernel_rfl) rfl rfl (.no rfl) pk sH rfl (VR.ofV (V_move rfl)) ?_
      refine DH_skip 25 (by kernel_rfl) rfl rfl (.no rfl rfl rfl rfl (rfl)) pk rfl ?_
      refine DH_skip 26 (by kernel_rfl) rfl rfl (.no rfl rfl rfl rfl (rfl)) pk rfl ?_
      refine DH_skip 27 (by kernel_rfl) rfl rfl (.no rfl rfl rfl rfl (rfl)) pk rfl ?_
      refine DH_skip 28 (by kernel_rfl) rfl rfl (.no rfl rfl rfl rfl (rfl)) pk rfl ?_
      refine DH_skip 29 (by kernel_rfl) rfl rfl (.no rfl rfl rfl rfl (rfl)) pk rfl ?_
      refine DH_skip 30 (by kernel_rfl) rfl rfl (.no rfl rfl rfl rfl (rfl)) pk rfl ?_
      refine DH_skip 31 (by kernel_rfl) rfl rfl (.no rfl rfl rfl rfl (rfl)) pk rfl ?_
      refine DH_take 32 (by kernel_rfl) rfl rfl (.no rfl) pk sH rfl (VR.ofV (V_pickF rfl (rfl) rfl)) ?_
      refine DH_take (v := .bool false) 33 (by kernel_rfl) rfl rfl (.no rfl) pk sH rfl (VR.ofV (V_assign rfl)) ?_
      refine DH_open dd sH ?_
      refine DN_done (by kernel_rfl) ?_
      refine at_normal ?_
      refine SA_ret ?_
      have hr_ := Option.some.inj H
      subst hr_
      exact BQ_R1 [] rfl rfl (Gh.sel [] rfl rfl) ⟨rfl, rfl⟩
    replace H := g_iff h3981 H
    refine DH_skip 3 (by kernel_rfl) rfl rfl (.no rfl rfl rfl rfl (dec_f h3981)) pk rfl ?_
    refine DH_skip 4 (by kernel_rfl) rfl rfl (.no rfl rfl rfl rfl (dec_f h3981)) pk rfl ?_
    refine DH_take 5 (by kernel_rfl) rfl rfl (.no rfl) pk sH rfl (VR.ofV (V_pickF rfl (dec_f h3981) rfl)) ?_
    refine DH_take (v := .bool false) 6 (by kernel_rfl) rfl rfl (.no rfl) pk sH rfl (VR.ofV (V_move rfl)) ?_
    refine DH_skip 7 (by kernel_rfl) rfl rfl (.no rfl rfl rfl rfl (rfl)) pk rfl ?_
    refine DH_skip 8 (by kernel_rfl) rfl rfl (.no rfl rfl rfl rfl (rfl)) pk rfl ?_
    refine DH_take 9 (by kernel_rfl) rfl rfl (.no rfl) pk sH rfl (VR.ofV (V_pickF rfl (rfl) rfl)) ?_
    refine DH_take (v := .bool false) 10 (by kernel_rfl) rfl rfl (.no rfl) pk sH rfl (VR.ofV (V_move rfl)) ?_
    refine DH_skip 11 (by kernel_rfl) rfl rfl (.no rfl rfl rfl rfl (rfl)) pk rfl ?_
    refine DH_skip 12 (by kernel_rfl) rfl rfl (.no rfl rfl rfl rfl (rfl)) pk rfl ?_
    refine DH_skip 13 (by kernel_rfl) rfl rfl (.no rfl rfl rfl rfl (rfl)) pk rfl ?_
    refine DH_skip 14 (by kernel_rfl) rfl rfl (.no rfl rfl rfl rfl (rfl)) pk rfl ?_
    refine DH_take 15 (by kernel_rfl) rfl rfl (.no rfl) pk sH rfl (VR.ofV (V_pickF rfl (rfl) rfl)) ?_
    refine DH_take (v := .bool false) 16 (by kernel_rfl) rfl rfl (.no rfl) pk sH rfl (VR.ofV (V_move rfl)) ?_
    refine DH_skip 17 (by kernel_rfl) rfl rfl (.no rfl rfl rfl rfl (rfl)) pk rfl ?_
    refine DH_skip 18 (by kernel_rfl) rfl rfl (.no rfl rfl rfl rfl (rfl)) pk rfl ?_
    refine DH_skip 19 (by kernel_rfl) rfl rfl (.no rfl rfl rfl rfl (rfl)) pk rfl ?_
    refine DH_skip 20 (by kernel_rfl) rfl rfl (.no rfl rfl rfl rfl (rfl)) pk rfl ?_
    refine DH_skip 21 (by kernel_rfl) rfl rfl (.no rfl rfl rfl rfl (rfl)) pk rfl ?_
    refine DH_skip 22 (by kernel_rfl) rfl rfl (.no rfl rfl rfl rfl (rfl)) pk rfl ?_
    refine DH_take 23 (by kernel_rfl) rfl rfl (.no rfl) pk sH rfl (VR.ofV (V_pickF rfl (rfl) rfl)) ?_
    refine DH_take (v := .bool false) 24 (by kernel_rfl) rfl rfl (.no rfl) pk sH rfl (VR.ofV (V_move rfl)) ?_
    refine DH_skip 25 (by kernel_rfl) rfl rfl (.no rfl rfl rfl rfl (rfl)) pk rfl ?_
    refine DH_skip 26 (by kernel_rfl) rfl rfl (.no rfl rfl rfl rfl (rfl)) pk rfl ?_
    refine DH_skip 27 (by kernel_rfl) rfl rfl (.no rfl rfl rfl rfl (rfl)) pk rfl ?_
    refine DH_skip 28 (by kernel_rfl) rfl rfl (.no rfl rfl rfl rfl (rfl)) pk rfl ?_
    refine DH_skip 29 (by kernel_rfl) rfl rfl (.no rfl rfl rfl rfl (rfl)) pk rfl ?_
    refine DH_skip 30 (by kernel_rfl) rfl rfl (.no rfl rfl rfl rfl (rfl)) pk rfl ?_
    refine DH_skip 31 (by kernel_rfl) rfl rfl (.no rfl rfl rfl rfl (rfl)) pk rfl ?_
    refine DH_take 32 (by kernel_rfl) rfl rfl (.no rfl) pk sH rfl (VR.ofV (V_pickF rfl (rfl) rfl)) ?_
    refine DH_take (v := .bool false) 33 (by kernel_rfl) rfl rfl (.no rfl) pk sH rfl (VR.ofV (V_assign rfl)) ?_
    refine DH_open dd sH ?_
    refine DN_done (by kernel_rfl) ?_
    refine at_normal ?_
    refine SA_ret ?_
    have hr_ := Option.some.inj H
    subst hr_
    exact BQ_R1 [] rfl rfl (Gh.sel [] rfl rfl) ⟨rfl, rfl⟩
  refine id (OA_bs (kd := k76) (zv := (.agg (List.toArray (.int .i32 0 :: .int .i32 0 :: .int .i32 0 :: .int .i32 0 :: .int .u8 0 :: .int .i64 0 :: .int .i64 0 :: .bool false :: .bool false :: .bool false :: .bool false :: .bool false :: .bool false :: .bool false :: .bool false :: [])))) (sz := 15) (cells := (.int .i32 ((rd r70 (0 : Int)).f0) :: .int .i32 (((rd r70 (0 : Int)).f1).f0) :: .int .i32 (((rd r70 (0 : Int)).f1).f1) :: .int .i32 (((rd r70 (0 : Int)).f1).f2) :: .int .u8 ((rd r70 (0 : Int)).f2) :: .int .i64 (((rd r70 (0 : Int)).f3).f0) :: .int .i64 (((rd r70 (0 : Int)).f3).f1) :: .bool (((rd r70 (0 : Int)).f3).f2) :: .bool (((rd r70 (0 : Int)).f3).f3) :: .bool (((rd r70 (0 : Int)).f3).f4) :: .bool (((rd r70 (0 : Int)).f3).f5) :: .bool (((rd r70 (0 : Int)).f3).f6) :: .bool (((rd r70 (0 : Int)).f3).f7) :: .bool (((rd r70 (0 : Int)).f3).f8) :: .bool (((rd r70 (0 : Int)).f3).f9) :: .int .i32 ((rd r190 (0 : Int)).f0) :: .int .i32 (((rd r190 (0 : Int)).f1).f0) :: .int .i32 (((rd r190 (0 : Int)).f1).f1) :: .int .i32 (((rd r190 (0 : Int)).f1).f2) :: .int .u8 ((rd r190 (0 : Int)).f2) :: .int .i64 (((rd r190 (0 : Int)).f3).f0) :: .int .i64 (((rd r190 (0 : Int)).f3).f1) :: .bool (((rd r190 (0 : Int)).f3).f2) :: .bool (((rd r190 (0 : Int)).f3).f3) :: .bool (((rd r190 (0 : Int)).f3).f4) :: .bool (((rd r190 (0 : Int)).f3).f5) :: .bool (((rd r190 (0 : Int)).f3).f6) :: .bool (((rd r190 (0 : Int)).f3).f7) :: .bool (((rd r190 (0 : Int)).f3).f8) :: .bool (((rd r190 (0 : Int)).f3).f9) :: [])) (xs := ([(S76.mk ((rd r70 (0 : Int)).f0) ((rd r70 (0 : Int)).f1) ((rd r70 (0 : Int)).f2) ((rd r70 (0 : Int)).f3)), (S76.mk ((rd r190 (0 : Int)).f0) ((rd r190 (0 : Int)).f1) ((rd r190 (0 : Int)).f2) ((rd r190 (0 : Int)).f3))] : (List S76))) rfl Try.underlying65 zero76 sz76 rfl rfl rfl (by kernel_rfl) rfl rfl (RL_enc enc76 (fun _ _ => rfl) (by kernel_rfl)) fun b851 => ?_)
  refine DH_one 0 dd (by kernel_rfl) rfl (.no rfl) (OA_r rfl (VR_loadA_blk (b := b8) (m := 0) (k := 1) (vs := [.int .i64 r4.1.f0, .int .i64 r4.1.f1, .slice A5 r4.1.f2.length c6]) Try.underlying67 rfl sz67 rfl rfl rfl) ?_)
  refine DH_one 9 dd (by kernel_rfl) rfl (.no rfl) (OA.ghost (Gh.freeze (k := 0) rfl) (OA.ghost (Gh.freeze (k := 2) rfl) (OA_callA [0, 2] [0, 1, 2] rfl (X_fn (vs := [.agg #[.int .i64 r4.1.f0, .int .i64 r4.1.f1, .slice A5 r4.1.f2.length c6], .int .i64 0, .int .i64 1, .agg #[.int .i64 r1.f0, .int .i64 r1.f1, .bool r1.f2, .bool r1.f3, .bool r1.f4, .bool r1.f5, .bool r1.f6, .bool r1.f7, .bool r1.f8, .bool r1.f9], .slice (some ⟨b851, 0, none⟩) ([(S76.mk ((rd r70 (0 : Int)).f0) ((rd r70 (0 : Int)).f1) ((rd r70 (0 : Int)).f2) ((rd r70 (0 : Int)).f3)), (S76.mk ((rd r190 (0 : Int)).f0) ((rd r190 (0 : Int)).f1) ((rd r190 (0 : Int)).f2) ((rd r190 (0 : Int)).f3))] : (List S76)).length 2]) Try.func42 nm42 rfl rfl) rfl (F42.ok (a0 := r4.1) (A0_0 := A5) (c0_0 := c6) (a1 := 0) (a2 := 1) (a3 := r1) (l4 := ([(S76.mk ((rd r70 (0 : Int)).f0) ((rd r70 (0 : Int)).f1) ((rd r70 (0 : Int)).f2) ((rd r70 (0 : Int)).f3)), (S76.mk ((rd r190 (0 : Int)).f0) ((rd r190 (0 : Int)).f1) ((rd r190 (0 : Int)).f2) ((rd r190 (0 : Int)).f3))] : (List S76))) (A4 := some ⟨b851, 0, none⟩) (c4 := 2) C915) rfl ?_)))
  rintro _ _ ⟨A912, c913, rfl, rfl⟩
  refine DH_take (v := .tuple #[.agg #[.int .i64 r911.1.f0, .int .i64 r911.1.f1, .slice A912 r911.1.f2.length c913], .int .i64 r911.2]) 10 (by kernel_rfl) rfl rfl (.no rfl) pk sH rfl (VR.ofV (V_move rfl)) ?_
  refine DH_take (v := .agg #[.int .i64 r911.1.f0, .int .i64 r911.1.f1, .slice A912 r911.1.f2.length c913]) 11 (by kernel_rfl) rfl rfl (.no rfl) pk sH rfl (VR.ofV (V_extract rfl rfl)) ?_
  refine DH_take (v := .int .i64 r911.2) 12 (by kernel_rfl) rfl rfl (.no rfl) pk sH rfl (VR.ofV (V_extract rfl rfl)) ?_
  refine DH_one 13 dd (by kernel_rfl) rfl (.no rfl) (OA_st (b := b8) (m := 0) (k := 2) (vs := [.int .i64 r911.1.f0, .int .i64 r911.1.f1, .slice A912 r911.1.f2.length c913]) (cs' := [.int .i64 r911.1.f0, .int .i64 r911.1.f1, .slice A912 r911.1.f2.length c913]) rfl rfl rfl rfl rfl rfl sz67 rfl rfl ?_)
  refine DH_take (v := .int .i64 r911.2) 14 (by kernel_rfl) rfl rfl (.no rfl) pk sH rfl (VR.ofV (V_assign rfl)) ?_
  refine DH_open dd sH ?_
  refine DN_done (by kernel_rfl) ?_
  refine at_normal ?_
  refine SA.of_St (l := [(1, .pointer (some ⟨b2, 0, none⟩)), (2, .pointer (some ⟨b8, 0, none⟩)), (3, .int .i64 r4.2), (6, .int .i64 r911.2)]) (B := [Blk b2 70 [.int .i64 r1.f0, .int .i64 r1.f1, .bool r1.f2, .bool r1.f3, .bool r1.f4, .bool r1.f5, .bool r1.f6, .bool r1.f7, .bool r1.f8, .bool r1.f9], Blk b8 67 [.int .i64 r911.1.f0, .int .i64 r911.1.f1, .slice A912 r911.1.f2.length c913], Buf k76 76 A912 c913 r911.1.f2]) (St.mk1 (aeq rfl (aeq rfl (aeq rfl (aeq rfl aeq0)))) (Gh.sel [0, 5, 3] (by kernel_rfl) (by kernel_rfl))) fun junk => ?_
  refine SA_seq ?_
  obtain ⟨t1272, H, Bt1272⟩ := g_bind H
  refine SA_mid (fun e ds As => ∃ (b1273 : Nat), ∃ (A1275 : Option Addr) (c1276 : Nat), St [(1, .pointer (some ⟨b2, 0, none⟩)), (3, .int .i64 r4.2), (6, .int .i64 r911.2), (7, .pointer (some ⟨b1273, 0, none⟩)), (8, .int .i64 t1272.2)] [Blk b1273 67 [.int .i64 t1272.1.f0, .int .i64 t1272.1.f1, .slice A1275 t1272.1.f2.length c1276], Buf k76 76 A1275 c1276 t1272.1.f2, Blk b2 70 [.int .i64 r1.f0, .int .i64 r1.f1, .bool r1.f2, .bool r1.f3, .bool r1.f4, .bool r1.f5, .bool r1.f6, .bool r1.f7, .bool r1.f8, .bool r1.f9]] e ds As) ?_ ?_
  · refine SA_drawHq [0, 1, 2, 5, 6, 7, 10] #[[], [], [], [2], [0, 1, 2], [0, 1, 2], [0, 1, 2, 5], [0, 1, 2, 5], [], [0, 1, 2, 5, 6], [0, 1, 2, 5, 6, 7]] [0, 1] [2] mixed rfl rfl rfl (PanOk.thn (PanOk.thn PanOk.body)) fun I0 hS h0 hh0 w0 sH dd pk => ?_
    refine DH_take 0 (by kernel_rfl) rfl rfl (.no rfl) pk sH rfl (VR_loadA_blk (b := b8) (m := 0) (k := 1) (vs := [.int .i64 r911.1.f0, .int .i64 r911.1.f1, .slice A912 r911.1.f2.length c913]) Try.underlying67 rfl sz67 rfl rfl rfl) ?_
    refine DH_take 1 (by kernel_rfl) rfl rfl (.no rfl) pk sH rfl (VR_loadA_blk (b := b2) (m := 0) (k := 0) (vs := [.int .i64 r1.f0, .int .i64 r1.f1, .bool r1.f2, .bool r1.f3, .bool r1.f4, .bool r1.f5, .bool r1.f6, .bool r1.f7, .bool r1.f8, .bool r1.f9]) Try.underlying70 rfl sz70 rfl rfl rfl) ?_
    refine DH_take 2 (by kernel_rfl) rfl rfl (.no rfl) pk sH rfl (VR_loadA_blk (b := b2) (m := 0) (k := 0) (vs := [.int .i64 r1.f0, .int .i64 r1.f1, .bool r1.f2, .bool r1.f3, .bool r1.f4, .bool r1.f5, .bool r1.f6, .bool r1.f7, .bool r1.f8, .bool r1.f9]) Try.underlying70 rfl sz70 rfl rfl rfl) ?_
    obtain ⟨r1458, C1462, H⟩ := g_bind H
    obtain ⟨r1518, C1522, H⟩ := g_bind H
    refine DH_many (rs := [3, 8]) dd (by kernel_rfl) (by decide) (fal_cons ⟨_, rfl, (.no rfl), ?_⟩ (fal_cons ⟨_, rfl, (.no rfl), ?_⟩ fal_nil))
    · refine id (OA_callA [] [0] rfl (X_fn (vs := [.int .i32 20013, .agg #[.int .i64 r1.f0, .int .i64 r1.f1, .bool r1.f2, .bool r1.f3, .bool r1.f4, .bool r1.f5, .bool r1.f6, .bool r1.f7, .bool r1.f8, .bool r1.f9]]) Try.func69 nm69 rfl rfl) rfl (F69.ok (a0 := 20013) (a1 := r1) C1462) rfl ?_)
      rintro _ _ ⟨A1459, c1460, rfl, rfl⟩
      refine DH_many (rs := [4, 8]) dd (by kernel_rfl) (by decide) (fal_cons ⟨_, rfl, (.no rfl), ?_⟩ (fal_cons ⟨_, rfl, (.no rfl), ?_⟩ fal_nil))
      · refine id (OA.ghost (Gh.freeze (k := 1) rfl) (OA.ghost (Gh.freeze (k := 0) rfl) (OA_callA [1, 0] [0, 1] rfl (X_fn (vs := [.agg #[.int .i64 r911.1.f0, .int .i64 r911.1.f1, .slice A912 r911.1.f2.length c913], .int .i64 0, .int .i64 3, .agg #[.int .i64 r1.f0, .int .i64 r1.f1, .bool r1.f2, .bool r1.f3, .bool r1.f4, .bool r1.f5, .bool r1.f6, .bool r1.f7, .bool r1.f8, .bool r1.f9], .slice A1459 r1458.length c1460]) Try.func42 nm42 rfl rfl) rfl (F42.ok (a0 := r911.1) (A0_0 := A912) (c0_0 := c913) (a1 := 0) (a2 := 3) (a3 := r1) (l4 := r1458) (A4 := A1459) (c4 := c1460) C1522) rfl ?_)))
        rintro _ _ ⟨A1519, c1520, rfl, rfl⟩
        refine DH_take (v := .tuple #[.agg #[.int .i64 r1518.1.f0, .int .i64 r1518.1.f1, .slice A1519 r1518.1.f2.length c1520], .int .i64 r1518.2]) 5 (by kernel_rfl) rfl rfl (.no rfl) pk sH rfl (VR.ofV (V_move rfl)) ?_
        refine DH_take (v := .agg #[.int .i64 r1518.1.f0, .int .i64 r1518.1.f1, .slice A1519 r1518.1.f2.length c1520]) 6 (by kernel_rfl) rfl rfl (.no rfl) pk sH rfl (VR.ofV (V_extract rfl rfl)) ?_
        refine DH_take (v := .int .i64 r1518.2) 7 (by kernel_rfl) rfl rfl (.no rfl) pk sH rfl (VR.ofV (V_extract rfl rfl)) ?_
        refine DH_one 8 dd (by kernel_rfl) rfl (.no rfl) (OA_alloc rfl zero67 fun b1758 => ?_)
        refine DH_one 9 dd (by kernel_rfl) rfl (.no rfl) (OA_st (b := b1758) (m := 0) (k := 3) (vs := [.int .i64 r1518.1.f0, .int .i64 r1518.1.f1, .slice A1519 r1518.1.f2.length c1520]) (cs' := [.int .i64 r1518.1.f0, .int .i64 r1518.1.f1, .slice A1519 r1518.1.f2.length c1520]) rfl rfl rfl rfl rfl rfl sz67 rfl rfl ?_)
        refine DH_take (v := .int .i64 r1518.2) 10 (by kernel_rfl) rfl rfl (.no rfl) pk sH rfl (VR.ofV (V_assign rfl)) ?_
        refine DH_open dd sH ?_
        refine DN_done (by kernel_rfl) ?_
        have hr_ := Option.some.inj H
        subst hr_
        exact at_normal ⟨b1758, A1519, c1520, St.mk1 (aeq rfl (aeq rfl (aeq rfl (aeq rfl (aeq rfl aeq0))))) (Gh.sel [5, 2, 0] rfl rfl)⟩
      refine id (OA_alloc rfl zero67 fun b1758 => ?_)
      refine DH_one 4 dd (by kernel_rfl) rfl (.no rfl) (OA.ghost (Gh.freeze (k := 1) rfl) (OA.ghost (Gh.freeze (k := 0) rfl) (OA_callA [1, 0] [0, 1, 2] rfl (X_fn (vs := [.agg #[.int .i64 r911.1.f0, .int .i64 r911.1.f1, .slice A912 r911.1.f2.length c913], .int .i64 0, .int .i64 3, .agg #[.int .i64 r1.f0, .int .i64 r1.f1, .bool r1.f2, .bool r1.f3, .bool r1.f4, .bool r1.f5, .bool r1.f6, .bool r1.f7, .bool r1.f8, .bool r1.f9], .slice A1459 r1458.length c1460]) Try.func42 nm42 rfl rfl) rfl (F42.ok (a0 := r911.1) (A0_0 := A912) (c0_0 := c913) (a1 := 0) (a2 := 3) (a3 := r1) (l4 := r1458) (A4 := A1459) (c4 := c1460) C1522) rfl ?_)))
      rintro _ _ ⟨A1519, c1520, rfl, rfl⟩
      refine DH_take (v := .tuple #[.agg #[.int .i64 r1518.1.f0, .int .i64 r1518.1.f1, .slice A1519 r1518.1.f2.length c1520], .int .i64 r1518.2]) 5 (by kernel_rfl) rfl rfl (.no rfl) pk sH rfl (VR.ofV (V_move rfl)) ?_
      refine DH_take (v := .agg #[.int .i64 r1518.1.f0, .int .i64 r1518.1.f1, .slice A1519 r1518.1.f2.length c1520]) 6 (by kernel_rfl) rfl rfl (.no rfl) pk sH rfl (VR.ofV (V_extract rfl rfl)) ?_
      refine DH_take (v := .int .i64 r1518.2) 7 (by kernel_rfl) rfl rfl (.no rfl) pk sH rfl (VR.ofV (V_extract rfl rfl)) ?_
      refine DH_one 9 dd (by kernel_rfl) rfl (.no rfl) (OA_st (b := b1758) (m := 0) (k := 3) (vs := [.int .i64 r1518.1.f0, .int .i64 r1518.1.f1, .slice A1519 r1518.1.f2.length c1520]) (cs' := [.int .i64 r1518.1.f0, .int .i64 r1518.1.f1, .slice A1519 r1518.1.f2.length c1520]) rfl rfl rfl rfl rfl rfl sz67 rfl rfl ?_)
      refine DH_take (v := .int .i64 r1518.2) 10 (by kernel_rfl) rfl rfl (.no rfl) pk sH rfl (VR.ofV (V_assign rfl)) ?_
      refine DH_open dd sH ?_
      refine DN_done (by kernel_rfl) ?_
      have hr_ := Option.some.inj H
      subst hr_
      exact at_normal ⟨b1758, A1519, c1520, St.mk1 (aeq rfl (aeq rfl (aeq rfl (aeq rfl (aeq rfl aeq0))))) (Gh.sel [5, 2, 0] rfl rfl)⟩
    refine id (OA_alloc rfl zero67 fun b1758 => ?_)
    refine DH_one 3 dd (by kernel_rfl) rfl (.no rfl) (OA_callA [] [0, 1] rfl (X_fn (vs := [.int .i32 20013, .agg #[.int .i64 r1.f0, .int .i64 r1.f1, .bool r1.f2, .bool r1.f3, .bool r1.f4, .bool r1.f5, .bool r1.f6, .bool r1.f7, .bool r1.f8, .bool r1.f9]]) Try.func69 nm69 rfl rfl) rfl (F69.ok (a0 := 20013) (a1 := r1) C1462) rfl ?_)
    rintro _ _ ⟨A1459, c1460, rfl, rfl⟩
    refine DH_one 4 dd (by kernel_rfl) rfl (.no rfl) (OA.ghost (Gh.freeze (k := 1) rfl) (OA.ghost (Gh.freeze (k := 0) rfl) (OA_callA [1, 0] [0, 1, 2] rfl (X_fn (vs := [.agg #[.int .i64 r911.1.f0, .int .i64 r911.1.f1, .slice A912 r911.1.f2.length c913], .int .i64 0, .int .i64 3, .agg #[.int .i64 r1.f0, .int .i64 r1.f1, .bool r1.f2, .bool r1.f3, .bool r1.f4, .bool r1.f5, .bool r1.f6, .bool r1.f7, .bool r1.f8, .bool r1.f9], .slice A1459 r1458.length c1460]) Try.func42 nm42 rfl rfl) rfl (F42.ok (a0 := r911.1) (A0_0 := A912) (c0_0 := c913) (a1 := 0) (a2 := 3) (a3 := r1) (l4 := r1458) (A4 := A1459) (c4 := c1460) C1522) rfl ?_)))
    rintro _ _ ⟨A1519, c1520, rfl, rfl⟩
    refine DH_take (v := .tuple #[.agg #[.int .i64 r1518.1.f0, .int .i64 r1518.1.f1, .slice A1519 r1518.1.f2.length c1520], .int .i64 r1518.2]) 5 (by kernel_rfl) rfl rfl (.no rfl) pk sH rfl (VR.ofV (V_move rfl)) ?_
    refine DH_take (v := .agg #[.int .i64 r1518.1.f0, .int .i64 r1518.1.f1, .slice A1519 r1518.1.f2.length c1520]) 6 (by kernel_rfl) rfl rfl (.no rfl) pk sH rfl (VR.ofV (V_extract rfl rfl)) ?_
    refine DH_take (v := .int .i64 r1518.2) 7 (by kernel_rfl) rfl rfl (.no rfl) pk sH rfl (VR.ofV (V_extract rfl rfl)) ?_
    refine DH_one 9 dd (by kernel_rfl) rfl (.no rfl) (OA_st (b := b1758) (m := 0) (k := 3) (vs := [.int .i64 r1518.1.f0, .int .i64 r1518.1.f1, .slice A1519 r1518.1.f2.length c1520]) (cs' := [.int .i64 r1518.1.f0, .int .i64 r1518.1.f1, .slice A1519 r1518.1.f2.length c1520]) rfl rfl rfl rfl rfl rfl sz67 rfl rfl ?_)
    refine DH_take (v := .int .i64 r1518.2) 10 (by kernel_rfl) rfl rfl (.no rfl) pk sH rfl (VR.ofV (V_assign rfl)) ?_
    refine DH_open dd sH ?_
    refine DN_done (by kernel_rfl) ?_
    have hr_ := Option.some.inj H
    subst hr_
    exact at_normal ⟨b1758, A1519, c1520, St.mk1 (aeq rfl (aeq rfl (aeq rfl (aeq rfl (aeq rfl aeq0))))) (Gh.sel [5, 2, 0] rfl rfl)⟩
  rintro e ds As ⟨b1273, A1275, c1276, hst1939⟩
  clear H
  have H := Bt1272
  clear Bt1272
  refine at_normal ?_
  refine SA.of_St hst1939 fun junk => ?_
  refine SA_seq ?_
  refine SA_drawHq (0 :: 1 :: 2 :: 3 :: 4 :: 5 :: 6 :: 7 :: 8 :: 9 :: 10 :: 11 :: 12 :: 13 :: 14 :: 15 :: 16 :: 17 :: 18 :: 19 :: 20 :: 21 :: 22 :: 23 :: 24 :: 25 :: 26 :: 27 :: 28 :: 29 :: 30 :: 31 :: 32 :: 33 :: []) (List.toArray ([] :: [0] :: [0, 1] :: [0, 1, 2] :: [0, 1, 2, 3] :: [0, 1, 2, 3, 4] :: [0, 1, 2, 3, 4, 5] :: [0, 1, 2, 3, 4, 5, 6] :: [0, 1, 2, 3, 4, 5, 6, 7] :: [0, 1, 2, 3, 4, 5, 6, 7, 8] :: [0, 1, 2, 3, 4, 5, 6, 7, 8, 9] :: [0, 1, 2, 3, 4, 5, 6, 7, 8, 9, 10] :: [0, 1, 2, 3, 4, 5, 6, 7, 8, 9, 10, 11] :: (0 :: 1 :: 2 :: 3 :: 4 :: 5 :: 6 :: 7 :: 8 :: 9 :: 10 :: 11 :: 12 :: []) :: (0 :: 1 :: 2 :: 3 :: 4 :: 5 :: 6 :: 7 :: 8 :: 9 :: 10 :: 11 :: 12 :: 13 :: []) :: (0 :: 1 :: 2 :: 3 :: 4 :: 5 :: 6 :: 7 :: 8 :: 9 :: 10 :: 11 :: 12 :: 13 :: 14 :: []) :: (0 :: 1 :: 2 :: 3 :: 4 :: 5 :: 6 :: 7 :: 8 :: 9 :: 10 :: 11 :: 12 :: 13 :: 14 :: 15 :: []) :: (0 :: 1 :: 2 :: 3 :: 4 :: 5 :: 6 :: 7 :: 8 :: 9 :: 10 :: 11 :: 12 :: 13 :: 14 :: 15 :: 16 :: []) :: (0 :: 1 :: 2 :: 3 :: 4 :: 5 :: 6 :: 7 :: 8 :: 9 :: 10 :: 11 :: 12 :: 13 :: 14 :: 15 :: 16 :: 17 :: []) :: (0 :: 1 :: 2 :: 3 :: 4 :: 5 :: 6 :: 7 :: 8 :: 9 :: 10 :: 11 :: 12 :: 13 :: 14 :: 15 :: 16 :: 17 :: 18 :: []) :: (0 :: 1 :: 2 :: 3 :: 4 :: 5 :: 6 :: 7 :: 8 :: 9 :: 10 :: 11 :: 12 :: 13 :: 14 :: 15 :: 16 :: 17 :: 18 :: 19 :: []) :: (0 :: 1 :: 2 :: 3 :: 4 :: 5 :: 6 :: 7 :: 8 :: 9 :: 10 :: 11 :: 12 :: 13 :: 14 :: 15 :: 16 :: 17 :: 18 :: 19 :: 20 :: []) :: (0 :: 1 :: 2 :: 3 :: 4 :: 5 :: 6 :: 7 :: 8 :: 9 :: 10 :: 11 :: 12 :: 13 :: 14 :: 15 :: 16 :: 17 :: 18 :: 19 :: 20 :: 21 :: []) :: (0 :: 1 :: 2 :: 3 :: 4 :: 5 :: 6 :: 7 :: 8 :: 9 :: 10 :: 11 :: 12 :: 13 :: 14 :: 15 :: 16 :: 17 :: 18 :: 19 :: 20 :: 21 :: 22 :: []) :: (0 :: 1 :: 2 :: 3 :: 4 :: 5 :: 6 :: 7 :: 8 :: 9 :: 10 :: 11 :: 12 :: 13 :: 14 :: 15 :: 16 :: 17 :: 18 :: 19 :: 20 :: 21 :: 22 :: 23 :: []) :: (0 :: 1 :: 2 :: 3 :: 4 :: 5 :: 6 :: 7 :: 8 :: 9 :: 10 :: 11 :: 12 :: 13 :: 14 :: 15 :: 16 :: 17 :: 18 :: 19 :: 20 :: 21 :: 22 :: 23 :: 24 :: []) :: (0 :: 1 :: 2 :: 3 :: 4 :: 5 :: 6 :: 7 :: 8 :: 9 :: 10 :: 11 :: 12 :: 13 :: 14 :: 15 :: 16 :: 17 :: 18 :: 19 :: 20 :: 21 :: 22 :: 23 :: 24 :: 25 :: []) :: (0 :: 1 :: 2 :: 3 :: 4 :: 5 :: 6 :: 7 :: 8 :: 9 :: 10 :: 11 :: 12 :: 13 :: 14 :: 15 :: 16 :: 17 :: 18 :: 19 :: 20 :: 21 :: 22 :: 23 :: 24 :: 25 :: 26 :: []) :: (0 :: 1 :: 2 :: 3 :: 4 :: 5 :: 6 :: 7 :: 8 :: 9 :: 10 :: 11 :: 12 :: 13 :: 14 :: 15 :: 16 :: 17 :: 18 :: 19 :: 20 :: 21 :: 22 :: 23 :: 24 :: 25 :: 26 :: 27 :: []) :: (0 :: 1 :: 2 :: 3 :: 4 :: 5 :: 6 :: 7 :: 8 :: 9 :: 10 :: 11 :: 12 :: 13 :: 14 :: 15 :: 16 :: 17 :: 18 :: 19 :: 20 :: 21 :: 22 :: 23 :: 24 :: []) :: (0 :: 1 :: 2 :: 3 :: 4 :: 5 :: 6 :: 7 :: 8 :: 9 :: 10 :: 11 :: 12 :: 13 :: 14 :: 15 :: 16 :: 17 :: 18 :: 19 :: 20 :: 21 :: 22 :: 23 :: 24 :: 29 :: []) :: (0 :: 1 :: 2 :: 3 :: 4 :: 5 :: 6 :: 7 :: 8 :: 9 :: 10 :: 11 :: 12 :: 13 :: 14 :: 15 :: 16 :: 17 :: 18 :: 19 :: 20 :: 21 :: 22 :: 23 :: 24 :: 25 :: 26 :: 27 :: 28 :: 29 :: 30 :: []) :: (0 :: 1 :: 2 :: 3 :: 4 :: 5 :: 6 :: 7 :: 8 :: 9 :: 10 :: 11 :: 12 :: 13 :: 14 :: 15 :: 16 :: 17 :: 18 :: 19 :: 20 :: 21 :: 22 :: 23 :: 24 :: 25 :: 26 :: 27 :: 28 :: 29 :: 30 :: 31 :: []) :: (0 :: 1 :: 2 :: 3 :: 4 :: 5 :: 6 :: 7 :: 8 :: 9 :: 10 :: 11 :: 12 :: 13 :: 14 :: 15 :: 16 :: 17 :: 18 :: 19 :: 20 :: 21 :: 22 :: 23 :: 24 :: 25 :: 26 :: 27 :: 28 :: 29 :: 30 :: 31 :: 32 :: []) :: [])) [0, 1, 2] [] mixed rfl rfl rfl (PanOk.thn PanOk.body) fun I0 hS h0 hh0 w0 sH dd pk => ?_
  refine DH_take (v := .int .i64 r4.2) 0 (by kernel_rfl) rfl rfl (.no rfl) pk sH rfl (VR.ofV (V_move rfl)) ?_
  refine DH_take (v := .bool (decide (r4.2 = 0))) 1 (by kernel_rfl) rfl rfl (.no rfl) pk sH rfl (VR.ofV (V_eql rfl rfl)) ?_
  refine DH_take (v := .bool (decide (r4.2 = 0))) 2 (by kernel_rfl) rfl rfl (.no rfl) pk sH rfl (VR.ofV (V_move rfl)) ?_
  by_cases h3981 : r4.2 = 0
  · replace H := g_ift h3981 H
    refine DH_take (v := .int .i64 r911.2) 3 (by kernel_rfl) rfl rfl (.yes rfl rfl rfl rfl (dec_t h3981)) pk sH rfl (VR.ofV (V_move rfl)) ?_
    refine DH_take (v := .bool (decide (r911.2 = 0))) 4 (by kernel_rfl) rfl rfl (.yes rfl rfl rfl rfl (dec_t h3981)) pk sH rfl (VR.ofV (V_eql rfl rfl)) ?_
    refine DH_take 5 (by kernel_rfl) rfl rfl (.no rfl) pk sH rfl (VR.ofV (V_pickT rfl (dec_t h3981) rfl)) ?_
    refine DH_take (v := .bool (decide (r911.2 = 0))) 6 (by kernel_rfl) rfl rfl (.no rfl) pk sH rfl (VR.ofV (V_move rfl)) ?_
    by_cases h3982 : r911.2 = 0
    · replace H := g_ift h3982 H
      refine DH_take (v := .int .i64 t1272.2) 7 (by kernel_rfl) rfl rfl (.yes rfl rfl rfl rfl (dec_t h3982)) pk sH rfl (VR.ofV (V_move rfl)) ?_
      refine DH_take (v := .bool (decide (t1272.2 = 0))) 8 (by kernel_rfl) rfl rfl (.yes rfl rfl rfl rfl (dec_t h3982)) pk sH rfl (VR.ofV (V_eql rfl rfl)) ?_
      refine DH_take 9 (by kernel_rfl) rfl rfl (.no rfl) pk sH rfl (VR.ofV (V_pickT rfl (dec_t h3982) rfl)) ?_
      refine DH_take (v := .bool (decide (t1272.2 = 0))) 10 (by kernel_rfl) rfl rfl (.no rfl) pk sH rfl (VR.ofV (V_move rfl)) ?_
      by_cases h3983 : t1272.2 = 0
      · replace H := g_ift h3983 H
        refine DH_take (v := .pointer (some ((⟨b1273, 0, none⟩ : Addr).add 2))) 11 (by kernel_rfl) rfl rfl (.yes rfl rfl rfl rfl (dec_t h3983)) pk sH rfl (VR.ofV (V_fieldAddrN (B := ⟨b1273, 0, none⟩) (m := 0) (o := 2) Try.underlying67 rfl nz65 rfl rfl)) ?_
        refine DH_take 12 (by kernel_rfl) rfl rfl (.yes rfl rfl rfl rfl (dec_t h3983)) pk sH rfl (VR_load_blk (b := b1273) (m := 2) (k := 0) Try.underlying65 rfl rfl rfl rfl) ?_
        refine DH_take (v := .int .i64 (t1272.1.f2.length : Int)) 13 (by kernel_rfl) rfl rfl (.yes rfl rfl rfl rfl (dec_t h3983)) pk sH rfl (VR.ofV (V_len Try.underlying65 rfl)) ?_
        refine DH_take (v := .bool (decide ((t1272.1.f2.length : Int) = 4))) 14 (by kernel_rfl) rfl rfl (.yes rfl rfl rfl rfl (dec_t h3983)) pk sH rfl (VR.ofV (V_eql rfl rfl)) ?_
        refine DH_take 15 (by kernel_rfl) rfl rfl (.no rfl) pk sH rfl (VR.ofV (V_pickT rfl (dec_t h3983) rfl)) ?_
        refine DH_take (v := .bool (decide ((t1272.1.f2.length : Int) = 4))) 16 (by kernel_rfl) rfl rfl (.no rfl) pk sH rfl (VR.ofV (V_move rfl)) ?_
        by_cases h3984 : (t1272.1.f2.length : Int) = 4
        · replace H := g_ift h3984 H
          refine DH_take (v := .pointer (some ((⟨b1273, 0, none⟩ : Addr).add 2))) 17 (by kernel_rfl) rfl rfl (.yes rfl rfl rfl rfl (dec_t h3984)) pk sH rfl (VR.ofV (V_fieldAddrN (B := ⟨b1273, 0, none⟩) (m := 0) (o := 2) Try.underlying67 rfl nz65 rfl rfl)) ?_
          refine DH_take 18 (by kernel_rfl) rfl rfl (.yes rfl rfl rfl rfl (dec_t h3984)) pk sH rfl (VR_load_blk (b := b1273) (m := 2) (k := 0) Try.underlying65 rfl rfl rfl rfl) ?_
          obtain ⟨⟨g3080, g3081⟩, H⟩ := g_pos H
          refine DH_take 19 (by kernel_rfl) rfl rfl (.yes rfl rfl rfl rfl (dec_t h3984)) pk sH rfl (VR_index (i := (1 : Int)) Try.underlying65 sz76 rfl rfl (Src.buf (k := 1) rfl) g3080 g3081) ?_
          refine DH_take (v := .pointer (some ((el A1275 ((1 : Int).toNat * 15)).add 0))) 20 (by kernel_rfl) rfl rfl (.yes rfl rfl rfl rfl (dec_t h3984)) pk sH rfl (VR.ofV (V_fieldAddrN (B := el A1275 ((1 : Int).toNat * 15)) (m := 0) (o := 0) Try.underlying76 rfl nz21 rfl rfl)) ?_
          refine DH_take 21 (by kernel_rfl) rfl rfl (.yes rfl rfl rfl rfl (dec_t h3984)) pk sH rfl (VR_load_el (enc := enc76) (i := (1 : Int)) (j := (1 : Int).toNat * 15) (m := 0) (sz := 15) Try.underlying21 rfl rfl rfl rfl (Src.buf (k := 1) rfl) g3080 g3081 (fun _ _ h => h) rfl) ?_
          refine DH_take (v := .bool (decide (((rd t1272.1.f2 (1 : Int)).f0) = 97))) 22 (by kernel_rfl) rfl rfl (.yes rfl rfl rfl rfl (dec_t h3984)) pk sH rfl (VR.ofV (V_eql rfl rfl)) ?_
          refine DH_take 23 (by kernel_rfl) rfl rfl (.no rfl) pk sH rfl (VR.ofV (V_pickT rfl (dec_t h3984) rfl)) ?_
          refine DH_take (v := .bool (decide (((rd t1272.1.f2 (1 : Int)).f0) = 97))) 24 (by kernel_rfl) rfl rfl (.no rfl) pk sH rfl (VR.ofV (V_move rfl)) ?_
          by_cases h3985 : ((rd t1272.1.f2 (1 : Int)).f0) = 97
          · replace H := g_ift h3985 H
            refine DH_take (v := .pointer (some ((⟨b1273, 0, none⟩ : Addr).add 2))) 25 (by kernel_rfl) rfl rfl (.yes rfl rfl rfl rfl (dec_t h3985)) pk sH rfl (VR.ofV (V_fieldAddrN (B := ⟨b1273, 0, none⟩) (m := 0) (o := 2) Try.underlying67 rfl nz65 rfl rfl)) ?_
            refine DH_take 26 (by kernel_rfl) rfl rfl (.yes rfl rfl rfl rfl (dec_t h3985)) pk sH rfl (VR_load_blk (b := b1273) (m := 2) (k := 0) Try.underlying65 rfl rfl rfl rfl) ?_
            obtain ⟨⟨g3560, g3561⟩, H⟩ := g_pos H
            refine DH_take 27 (by kernel_rfl) rfl rfl (.yes rfl rfl rfl rfl (dec_t h3985)) pk sH rfl (VR_index (i := (3 : Int)) Try.underlying65 sz76 rfl rfl (Src.buf (k := 1) rfl) g3560 g3561) ?_
            refine DH_take 28 (by kernel_rfl) rfl rfl (.yes rfl rfl rfl rfl (dec_t h3985)) pk sH rfl (VR_loadA_el (enc := enc76) (i := (3 : Int)) (j := (3 : Int).toNat * 15) (m := 0) (sz := 15) (vs := (.int .i32 ((rd t1272.1.f2 (3 : Int)).f0) :: .int .i32 (((rd t1272.1.f2 (3 : Int)).f1).f0) :: .int .i32 (((rd t1272.1.f2 (3 : Int)).f1).f1) :: .int .i32 (((rd t1272.1.f2 (3 : Int)).f1).f2) :: .int .u8 ((rd t1272.1.f2 (3 : Int)).f2) :: .int .i64 (((rd t1272.1.f2 (3 : Int)).f3).f0) :: .int .i64 (((rd t1272.1.f2 (3 : Int)).f3).f1) :: .bool (((rd t1272.1.f2 (3 : Int)).f3).f2) :: .bool (((rd t1272.1.f2 (3 : Int)).f3).f3) :: .bool (((rd t1272.1.f2 (3 : Int)).f3).f4) :: .bool (((rd t1272.1.f2 (3 : Int)).f3).f5) :: .bool (((rd t1272.1.f2 (3 : Int)).f3).f6) :: .bool (((rd t1272.1.f2 (3 : Int)).f3).f7) :: .bool (((rd t1272.1.f2 (3 : Int)).f3).f8) :: .bool (((rd t1272.1.f2 (3 : Int)).f3).f9) :: [])) Try.underlying76 rfl sz76 rfl rfl rfl (Src.buf (k := 1) rfl) g3560 g3561 (fun _ _ h => h) rfl) ?_
            refine DH_take 29 (by kernel_rfl) rfl rfl (.yes rfl rfl rfl rfl (dec_t h3985)) pk sH rfl (VR_loadA_blk (b := b2) (m := 0) (k := 2) (vs := [.int .i64 r1.f0, .int .i64 r1.f1, .bool r1.f2, .bool r1.f3, .bool r1.f4, .bool r1.f5, .bool r1.f6, .bool r1.f7, .bool r1.f8, .bool r1.f9]) Try.underlying70 rfl sz70 rfl rfl rfl) ?_
            obtain ⟨r3740, C3741, H⟩ := g_bind H
            refine DH_one 30 dd (by kernel_rfl) rfl (.yes rfl rfl rfl rfl (dec_t h3985)) (OA_callA [] [] rfl (X_fn (vs := [.agg #[.int .i64 r1.f0, .int .i64 r1.f1, .bool r1.f2, .bool r1.f3, .bool r1.f4, .bool r1.f5, .bool r1.f6, .bool r1.f7, .bool r1.f8, .bool r1.f9]]) Try.func70 nm70 rfl rfl) rfl (F70.ok (a0 := r1) C3741) rfl ?_)
            rintro _ _ ⟨rfl, rfl⟩
            refine DH_take (v := .bool (decide ((rd t1272.1.f2 (3 : Int)) = r3740))) 31 (by kernel_rfl) rfl rfl (.yes rfl rfl rfl rfl (dec_t h3985)) pk sH rfl (VR.ofV (V_eqlD (xs := (.int .i32 ((rd t1272.1.f2 (3 : Int)).f0) :: .int .i32 (((rd t1272.1.f2 (3 : Int)).f1).f0) :: .int .i32 (((rd t1272.1.f2 (3 : Int)).f1).f1) :: .int .i32 (((rd t1272.1.f2 (3 : Int)).f1).f2) :: .int .u8 ((rd t1272.1.f2 (3 : Int)).f2) :: .int .i64 (((rd t1272.1.f2 (3 : Int)).f3).f0) :: .int .i64 (((rd t1272.1.f2 (3 : Int)).f3).f1) :: .bool (((rd t1272.1.f2 (3 : Int)).f3).f2) :: .bool (((rd t1272.1.f2 (3 : Int)).f3).f3) :: .bool (((rd t1272.1.f2 (3 : Int)).f3).f4) :: .bool (((rd t1272.1.f2 (3 : Int)).f3).f5) :: .bool (((rd t1272.1.f2 (3 : Int)).f3).f6) :: .bool (((rd t1272.1.f2 (3 : Int)).f3).f7) :: .bool (((rd t1272.1.f2 (3 : Int)).f3).f8) :: .bool (((rd t1272.1.f2 (3 : Int)).f3).f9) :: [])) (ys := (.int .i32 r3740.f0 :: .int .i32 r3740.f1.f0 :: .int .i32 r3740.f1.f1 :: .int .i32 r3740.f1.f2 :: .int .u8 r3740.f2 :: .int .i64 r3740.f3.f0 :: .int .i64 r3740.f3.f1 :: .bool r3740.f3.f2 :: .bool r3740.f3.f3 :: .bool r3740.f3.f4 :: .bool r3740.f3.f5 :: .bool r3740.f3.f6 :: .bool r3740.f3.f7 :: .bool r3740.f3.f8 :: .bool r3740.f3.f9 :: [])) (r := ((((rd t1272.1.f2 (3 : Int)).f0) == r3740.f0) && ((((((rd t1272.1.f2 (3 : Int)).f1).f0) == r3740.f1.f0) && (((((rd t1272.1.f2 (3 : Int)).f1).f1) == r3740.f1.f1) && (((((rd t1272.1.f2 (3 : Int)).f1).f2) == r3740.f1.f2) && true))) && ((((rd t1272.1.f2 (3 : Int)).f2) == r3740.f2) && ((((((rd t1272.1.f2 (3 : Int)).f3).f0) == r3740.f3.f0) && (((((rd t1272.1.f2 (3 : Int)).f3).f1) == r3740.f3.f1) && (((((rd t1272.1.f2 (3 : Int)).f3).f2) == r3740.f3.f2) && (((((rd t1272.1.f2 (3 : Int)).f3).f3) == r3740.f3.f3) && (((((rd t1272.1.f2 (3 : Int)).f3).f4) == r3740.f3.f4) && (((((rd t1272.1.f2 (3 : Int)).f3).f5) == r3740.f3.f5) && (((((rd t1272.1.f2 (3 : Int)).f3).f6) == r3740.f3.f6) && (((((rd t1272.1.f2 (3 : Int)).f3).f7) == r3740.f3.f7) && (((((rd t1272.1.f2 (3 : Int)).f3).f8) == r3740.f3.f8) && (((((rd t1272.1.f2 (3 : Int)).f3).f9) == r3740.f3.f9) && true)))))))))) && true))))) (p := (rd t1272.1.f2 (3 : Int)) = r3740) eqg76 rfl rfl (by kernel_rfl) (eqv76 (x := rd t1272.1.f2 (3 : Int)) (y := r3740)))) ?_
            refine DH_take 32 (by kernel_rfl) rfl rfl (.no rfl) pk sH rfl (VR.ofV (V_pickT rfl (dec_t h3985) rfl)) ?_
            refine DH_take (v := .bool (decide ((rd t1272.1.f2 (3 : Int)) = r3740))) 33 (by kernel_rfl) rfl rfl (.no rfl) pk sH rfl (VR.ofV (V_assign rfl)) ?_
            refine DH_open dd sH ?_
            refine DN_done (by kernel_rfl) ?_
            refine at_normal ?_
            refine SA_ret ?_
            have hr_ := Option.some.inj H
            subst hr_
            exact BQ_R1 [] rfl rfl (Gh.sel [] rfl rfl) ⟨rfl, rfl⟩
          replace H := g_iff h3985 H
          refine DH_skip 25 (by kernel_rfl) rfl rfl (.no rfl rfl rfl rfl (dec_f h3985)) pk rfl ?_
          refine DH_skip 26 (by kernel_rfl) rfl rfl (.no rfl rfl rfl rfl (dec_f h3985)) pk rfl ?_
          refine DH_skip 27 (by kernel_rfl) rfl rfl (.no rfl rfl rfl rfl (dec_f h3985)) pk rfl ?_
          refine DH_skip 28 (by kernel_rfl) rfl rfl (.no rfl rfl rfl rfl (dec_f h3985)) pk rfl ?_
          refine DH_skip 29 (by kernel_rfl) rfl rfl (.no rfl rfl rfl rfl (dec_f h3985)) pk rfl ?_
          refine DH_skip 30 (by kernel_rfl) rfl rfl (.no rfl rfl rfl rfl (dec_f h3985)) pk rfl ?_
          refine DH_skip 31 (by kernel_rfl) rfl rfl (.no rfl rfl rfl rfl (dec_f h3985)) pk rfl ?_
          refine DH_take 32 (by kernel_rfl) rfl rfl (.no rfl) pk sH rfl (VR.ofV (V_pickF rfl (dec_f h3985) rfl)) ?_
          refine DH_take (v := .bool false) 33 (by kernel_rfl) rfl rfl (.no rfl) pk sH rfl (VR.ofV (V_assign rfl)) ?_
          refine DH_open dd sH ?_
          refine DN_done (by kernel_rfl) ?_
          refine at_normal ?_
          refine SA_ret ?_
          have hr_ := Option.some.inj H
          subst hr_
          exact BQ_R1 [] rfl rfl (Gh.sel [] rfl rfl) ⟨rfl, rfl⟩
        replace H := g_iff h3984 H
        refine DH_skip 17 (by kernel_rfl) rfl rfl (.no rfl rfl rfl rfl (dec_f h3984)) pk rfl ?_
        refine DH_skip 18 (by kernel_rfl) rfl rfl (.no rfl rfl rfl rfl (dec_f h3984)) pk rfl ?_
        refine DH_skip 19 (by kernel_rfl) rfl rfl (.no rfl rfl rfl rfl (dec_f h3984)) pk rfl ?_
        refine DH_skip 20 (by kernel_rfl) rfl rfl (.no rfl rfl rfl rfl (dec_f h3984)) pk rfl ?_
        refine DH_skip 21 (by kernel_rfl) rfl rfl (.no rfl rfl rfl rfl (dec_f h3984)) pk rfl ?_
        refine DH_skip 22 (by kernel_rfl) rfl rfl (.no rfl rfl rfl rfl (dec_f h3984)) pk rfl ?_
        refine DH_take 23 (by kernel_rfl) rfl rfl (.no rfl) pk sH rfl (VR.ofV (V_pickF rfl (dec_f h3984) rfl)) ?_
        refine DH_take (v := .bool false) 24 (by kernel_rfl) rfl rfl (.no rfl) pk sH rfl (VR.ofV (V_move rfl)) ?_
        refine DH_skip 25 (by kernel_rfl) rfl rfl (.no rfl rfl rfl rfl (rfl)) pk rfl ?_
        refine DH_skip 26 (by kernel_rfl) rfl rfl (.no rfl rfl rfl rfl (rfl)) pk rfl ?_
        refine DH_skip 27 (by kernel_rfl) rfl rfl (.no rfl rfl rfl rfl (rfl)) pk rfl ?_
        refine DH_skip 28 (by kernel_rfl) rfl rfl (.no rfl rfl rfl rfl (rfl)) pk rfl ?_
        refine DH_skip 29 (by kernel_rfl) rfl rfl (.no rfl rfl rfl rfl (rfl)) pk rfl ?_
        refine DH_skip 30 (by kernel_rfl) rfl rfl (.no rfl rfl rfl rfl (rfl)) pk rfl ?_
        refine DH_skip 31 (by kernel_rfl) rfl rfl (.no rfl rfl rfl rfl (rfl)) pk rfl ?_
        refine DH_take 32 (by kernel_rfl) rfl rfl (.no rfl) pk sH rfl (VR.ofV (V_pickF rfl (rfl) rfl)) ?_
        refine DH_take (v := .bool false) 33 (by kernel_rfl) rfl rfl (.no rfl) pk sH rfl (VR.ofV (V_assign rfl)) ?_
        refine DH_open dd sH ?_
        refine DN_done (by kernel_rfl) ?_
        refine at_normal ?_
        refine SA_ret ?_
        have hr_ := Option.some.inj H
        subst hr_
        exact BQ_R1 [] rfl rfl (Gh.sel [] rfl rfl) ⟨rfl, rfl⟩
      replace H := g_iff h3983 H
      refine DH_skip 11 (by kernel_rfl) rfl rfl (.no rfl rfl rfl rfl (dec_f h3983)) pk rfl ?_
      refine DH_skip 12 (by kernel_rfl) rfl rfl (.no rfl rfl rfl rfl (dec_f h3983)) pk rfl ?_
      refine DH_skip 13 (by kernel_rfl) rfl rfl (.no rfl rfl rfl rfl (dec_f h3983)) pk rfl ?_
      refine DH_skip 14 (by kernel_rfl) rfl rfl (.no rfl rfl rfl rfl (dec_f h3983)) pk rfl ?_
      refine DH_take 15 (by kernel_rfl) rfl rfl (.no rfl) pk sH rfl (VR.ofV (V_pickF rfl (dec_f h3983) rfl)) ?_
      refine DH_take (v := .bool false) 16 (by kernel_rfl) rfl rfl (.no rfl) pk sH rfl (VR.ofV (V_move rfl)) ?_
      refine DH_skip 17 (by kernel_rfl) rfl rfl (.no rfl rfl rfl rfl (rfl)) pk rfl ?_
      refine DH_skip 18 (by kernel_rfl) rfl rfl (.no rfl rfl rfl rfl (rfl)) pk rfl ?_
      refine DH_skip 19 (by kernel_rfl) rfl rfl (.no rfl rfl rfl rfl (rfl)) pk rfl ?_
      refine DH_skip 20 (by kernel_rfl) rfl rfl (.no rfl rfl rfl rfl (rfl)) pk rfl ?_
      refine DH_skip 21 (by kernel_rfl) rfl rfl (.no rfl rfl rfl rfl (rfl)) pk rfl ?_
      refine DH_skip 22 (by kernel_rfl) rfl rfl (.no rfl rfl rfl rfl (rfl)) pk rfl ?_
      refine DH_take 23 (by kernel_rfl) rfl rfl (.no rfl) pk sH rfl (VR.ofV (V_pickF rfl (rfl) rfl)) ?_
      refine DH_take (v := .bool false) 24 (by kernel_rfl) rfl rfl (.no rfl) pk sH rfl (VR.ofV (V_move rfl)) ?_
      refine DH_skip 25 (by kernel_rfl) rfl rfl (.no rfl rfl rfl rfl (rfl)) pk rfl ?_
      refine DH_skip 26 (by kernel_rfl) rfl rfl (.no rfl rfl rfl rfl (rfl)) pk rfl ?_
      refine DH_skip 27 (by kernel_rfl) rfl rfl (.no rfl rfl rfl rfl (rfl)) pk rfl ?_
      refine DH_skip 28 (by kernel_rfl) rfl rfl (.no rfl rfl rfl rfl (rfl)) pk rfl ?_
      refine DH_skip 29 (by kernel_rfl) rfl rfl (.no rfl rfl rfl rfl (rfl)) pk rfl ?_
      refine DH_skip 30 (by kernel_rfl) rfl rfl (.no rfl rfl rfl rfl (rfl)) pk rfl ?_
      refine DH_skip 31 (by kernel_rfl) rfl rfl (.no rfl rfl rfl rfl (rfl)) pk rfl ?_
      refine DH_take 32 (by kernel_rfl) rfl rfl (.no rfl) pk sH rfl (VR.ofV (V_pickF rfl (rfl) rfl)) ?_
      refine DH_take (v := .bool false) 33 (by kernel_rfl) rfl rfl (.no rfl) pk sH rfl (VR.ofV (V_assign rfl)) ?_
      refine DH_open dd sH ?_
      refine DN_done (by kernel_rfl) ?_
      refine at_normal ?_
      refine SA_ret ?_
      have hr_ := Option.some.inj H
      subst hr_
      exact BQ_R1 [] rfl rfl (Gh.sel [] rfl rfl) ⟨rfl, rfl⟩
    replace H := g_iff h3982 H
    refine DH_skip 7 (by kernel_rfl) rfl rfl (.no rfl rfl rfl rfl (dec_f h3982)) pk rfl ?_
    refine DH_skip 8 (by kernel_rfl) rfl rfl (.no rfl rfl rfl rfl (dec_f h3982)) pk rfl ?_
    refine DH_take 9 (by kernel_rfl) rfl rfl (.no rfl) pk sH rfl (VR.ofV (V_pickF rfl (dec_f h3982) rfl)) ?_
    refine DH_take (v := .bool false) 10 (by kernel_rfl) rfl rfl (.no rfl) pk sH rfl (VR.ofV (V_move rfl)) ?_
    refine DH_skip 11 (by kernel_rfl) rfl rfl (.no rfl rfl rfl rfl (rfl)) pk rfl ?_
    refine DH_skip 12 (by kernel_rfl) rfl rfl (.no rfl rfl rfl rfl (rfl)) pk rfl ?_
    refine DH_skip 13 (by kernel_rfl) rfl rfl (.no rfl rfl rfl rfl (rfl)) pk rfl ?_
    refine DH_skip 14 (by kernel_rfl) rfl rfl (.no rfl rfl rfl rfl (rfl)) pk rfl ?_
    refine DH_take 15 (by kernel_rfl) rfl rfl (.no rfl) pk sH rfl (VR.ofV (V_pickF rfl (rfl) rfl)) ?_
    refine DH_take (v := .bool false) 16 (by kernel_rfl) rfl rfl (.no rfl) pk sH rfl (VR.ofV (V_move rfl)) ?_
    refine DH_skip 17 (by kernel_rfl) rfl rfl (.no rfl rfl rfl rfl (rfl)) pk rfl ?_
    refine DH_skip 18 (by kernel_rfl) rfl rfl (.no rfl rfl rfl rfl (rfl)) pk rfl ?_
    refine DH_skip 19 (by kernel_rfl) rfl rfl (.no rfl rfl rfl rfl (rfl)) pk rfl ?_
    refine DH_skip 20 (by kernel_rfl) rfl rfl (.no rfl rfl rfl rfl (rfl)) pk rfl ?_
    refine DH_skip 21 (by kernel_rfl) rfl rfl (.no rfl rfl rfl rfl (rfl)) pk rfl ?_
    refine DH_skip 22 (by kernel_rfl) rfl rfl (.no rfl rfl rfl rfl (rfl)) pk rfl ?_
    refine DH_take 23 (by kernel_rfl) rfl rfl (.no rfl) pk sH rfl (VR.ofV (V_pickF rfl (rfl) rfl)) ?_
    refine DH_take (v := .bool false) 24 (by kernel_rfl) rfl rfl (.no rfl) pk sH rfl (VR.ofV (V_move rfl)) ?_
    refine DH_skip 25 (by kernel_rfl) rfl rfl (.no rfl rfl rfl rfl (rfl)) pk rfl ?_
    refine DH_skip 26 (by kernel_rfl) rfl rfl (.no rfl rfl rfl rfl (rfl)) pk rfl ?_
    refine DH_skip 27 (by kernel_rfl) rfl rfl (.no rfl rfl rfl rfl (rfl)) pk rfl ?_
    refine DH_skip 28 (by kernel_rfl) rfl rfl (.no rfl rfl rfl rfl (rfl)) pk rfl ?_
    refine DH_skip 29 (by kernel_rfl) rfl rfl (.no rfl rfl rfl rfl (rfl)) pk rfl ?_
    refine DH_skip 30 (by kernel_rfl) rfl rfl (.no rfl rfl rfl rfl (rfl)) pk rfl ?_
    refine DH_skip 31 (by kernel_rfl) rfl rfl (.no rfl rfl rfl rfl (rfl)) pk rfl ?_
    refine DH_take 32 (by kernel_rfl) rfl rfl (.no rfl) pk sH rfl (VR.ofV (V_pickF rfl (rfl) rfl)) ?_
    refine DH_take (v := .bool false) 33 (by kernel_rfl) rfl rfl (.no rfl) pk sH rfl (VR.ofV (V_assign rfl)) ?_
    refine DH_open dd sH ?_
    refine DN_done (by kernel_rfl) ?_
    refine at_normal ?_
    refine SA_ret ?_
    have hr_ := Option.some.inj H
    subst hr_
    exact BQ_R1 [] rfl rfl (Gh.sel [] rfl rfl) ⟨rfl, rfl⟩
  replace H := g_iff h3981 H
  refine DH_skip 3 (by kernel_rfl) rfl rfl (.no rfl rfl rfl rfl (dec_f h3981)) pk rfl ?_
  refine DH_skip 4 (by kernel_rfl) rfl rfl (.no rfl rfl rfl rfl (dec_f h3981)) pk rfl ?_
  refine DH_take 5 (by kernel_rfl) rfl rfl (.no rfl) pk sH rfl (VR.ofV (V_pickF rfl (dec_f h3981) rfl)) ?_
  refine DH_take (v := .bool false) 6 (by kernel_rfl) rfl rfl (.no rfl) pk sH rfl (VR.ofV (V_move rfl)) ?_
  refine DH_skip 7 (by kernel_rfl) rfl rfl (.no rfl rfl rfl rfl (rfl)) pk rfl ?_
  refine DH_skip 8 (by kernel_rfl) rfl rfl (.no rfl rfl rfl rfl (rfl)) pk rfl ?_
  refine DH_take 9 (by kernel_rfl) rfl rfl (.no rfl) pk sH rfl (VR.ofV (V_pickF rfl (rfl) rfl)) ?_
  refine DH_take (v := .bool false) 10 (by kernel_rfl) rfl rfl (.no rfl) pk sH rfl (VR.ofV (V_move rfl)) ?_
  refine DH_skip 11 (by kernel_rfl) rfl rfl (.no rfl rfl rfl rfl (rfl)) pk rfl ?_
  refine DH_skip 12 (by kernel_rfl) rfl rfl (.no rfl rfl rfl rfl (rfl)) pk rfl ?_
  refine DH_skip 13 (by kernel_rfl) rfl rfl (.no rfl rfl rfl rfl (rfl)) pk rfl ?_
  refine DH_skip 14 (by kernel_rfl) rfl rfl (.no rfl rfl rfl rfl (rfl)) pk rfl ?_
  refine DH_take 15 (by kernel_rfl) rfl rfl (.no rfl) pk sH rfl (VR.ofV (V_pickF rfl (rfl) rfl)) ?_
  refine DH_take (v := .bool false) 16 (by kernel_rfl) rfl rfl (.no rfl) pk sH rfl (VR.ofV (V_move rfl)) ?_
  refine DH_skip 17 (by kernel_rfl) rfl rfl (.no rfl rfl rfl rfl (rfl)) pk rfl ?_
  refine DH_skip 18 (by kernel_rfl) rfl rfl (.no rfl rfl rfl rfl (rfl)) pk rfl ?_
  refine DH_skip 19 (by kernel_rfl) rfl rfl (.no rfl rfl rfl rfl (rfl)) pk rfl ?_
  refine DH_skip 20 (by kernel_rfl) rfl rfl (.no rfl rfl rfl rfl (rfl)) pk rfl ?_
  refine DH_skip 21 (by kernel_rfl) rfl rfl (.no rfl rfl rfl rfl (rfl)) pk rfl ?_
  refine DH_skip 22 (by kernel_rfl) rfl rfl (.no rfl rfl rfl rfl (rfl)) pk rfl ?_
  refine DH_take 23 (by kernel_rfl) rfl rfl (.no rfl) pk sH rfl (VR.ofV (V_pickF rfl (rfl) rfl)) ?_
  refine DH_take (v := .bool false) 24 (by kernel_rfl) rfl rfl (.no rfl) pk sH rfl (VR.ofV (V_move rfl)) ?_
  refine DH_skip 25 (by kernel_rfl) rfl rfl (.no rfl rfl rfl rfl (rfl)) pk rfl ?_
  refine DH_skip 26 (by kernel_rfl) rfl rfl (.no rfl rfl rfl rfl (rfl)) pk rfl ?_
  refine DH_skip 27 (by kernel_rfl) rfl rfl (.no rfl rfl rfl rfl (rfl)) pk rfl ?_
  refine DH_skip 28 (by kernel_rfl) rfl rfl (.no rfl rfl rfl rfl (rfl)) pk rfl ?_
  refine DH_skip 29 (by kernel_rfl) rfl rfl (.no rfl rfl rfl rfl (rfl)) pk rfl ?_
  refine DH_skip 30 (by kernel_rfl) rfl rfl (.no rfl rfl rfl rfl (rfl)) pk rfl ?_
  refine DH_skip 31 (by kernel_rfl) rfl rfl (.no rfl rfl rfl rfl (rfl)) pk rfl ?_
  refine DH_take 32 (by kernel_rfl) rfl rfl (.no rfl) pk sH rfl (VR.ofV (V_pickF rfl (rfl) rfl)) ?_
  refine DH_take (v := .bool false) 33 (by kernel_rfl) rfl rfl (.no rfl) pk sH rfl (VR.ofV (V_assign rfl)) ?_
  refine DH_open dd sH ?_
  refine DN_done (by kernel_rfl) ?_
  refine at_normal ?_
  refine SA_ret ?_
  have hr_ := Option.some.inj H
  subst hr_
  exact BQ_R1 [] rfl rfl (Gh.sel [] rfl rfl) ⟨rfl, rfl⟩
end Go.Proofs.Ytodkeoibebimgaa.Gr

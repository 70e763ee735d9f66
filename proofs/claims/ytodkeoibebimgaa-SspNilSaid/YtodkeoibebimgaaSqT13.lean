/- What a function computes, and that it does: 13. -/
import Derived.Test.YtodkeoibebimgaaSq0
import Derived.Test.YtodkeoibebimgaaSq4
namespace Go.Proofs.Ytodkeoibebimgaa.Sq
open Go Go.RowKit Go.Proofs.Ytodkeoibebimgaa.SL
set_option linter.unusedVariables false
set_option linter.unusedSimpArgs false
attribute [local irreducible] IntKind.wrap minI maxI shrI shlI andI orI xorI andNotI cplI rd sub bytesOf strOf slA
/-! ### function 13: wayfarer/wayfarerlaw23.SspNil -/
def F13.f (k : Nat) (a0 : Int) : Option (Bool) := (F25n0.f a0 1 1).bind (fun r1 => (F28n0.f ).bind (fun r8 => (F52n0.f (S54.mk 0 a0 0 0 ([] : (List Int)))).bind (fun r10 => (F53n0.f ).bind (fun r11 => (F22n0.f (S41.mk (⟨#[97]⟩ : ByteArray))).bind (fun r14 => (if r14 = 1 then ((F23n0.f a0).bind (fun r17 => some (decide (r17 = 1)))) else (some false) : Option Bool).bind (fun q15 => lt (q15 && (decide (r1.2.2 = 1))) fun q20 => lt (q20 && (decide ((IntKind.u64.wrap (r8.1 + r8.2.1)) = 0))) fun q23 => lt (q23 && (decide (r8.2.2 = 0))) fun q26 => lt (q26 && (decide (r10.2 = 1))) fun q29 => lt (q29 && (decide (r11.1 = 0))) fun q32 => lt (q32 && (decide (r11.2.f0 = (⟨#[]⟩ : ByteArray)))) fun q35 => (if q35 = true then ((F56n0.f ).bind (fun r40 => some (decide ((r40.length : Int) = 0)))) else (some false) : Option Bool).bind (fun q38 => (if q38 = true then ((F29.f k ).bind (fun r48 => some r48)) else (some false) : Option Bool).bind (fun q46 => some (q46)))))))))
set_option maxHeartbeats 2000000 in
set_option maxRecDepth 100000 in
theorem F13.ok {k : Nat} {a0 : Int} {r : Bool} (H : F13.f k a0 = some r) : SCA Try.prog 13 #[.int .u64 a0] [] (fun v B => v = .bool r ∧ B = []) := by
  refine SCA_of_body Try.func13 rfl rfl ?_
  unfold F13.f at H
  refine SA_seq ?_
  refine SA_region ?_
  refine RA_step rfl (OA_v (v := .bool false) rfl (V_assign rfl) ?_)
  refine RA_nil ?_
  refine at_normal ?_
  refine SA_seq ?_
  refine SA_region ?_
  refine RA_step rfl (OA_v (v := .pointer none) rfl (V_assign rfl) ?_)
  refine RA_nil ?_
  refine at_normal ?_
  refine SA_seq ?_
  refine SA_region ?_
  refine RA_step rfl (OA_v (v := .pointer none) rfl (V_assign rfl) ?_)
  refine RA_nil ?_
  refine at_normal ?_
  refine SA_seq ?_
  refine SA_region ?_
  refine RA_step rfl (OA_v (v := .pointer none) rfl (V_move rfl) ?_)
  refine RA_step rfl (OA_v (v := .int .u64 a0) rfl (V_move rfl) ?_)
  obtain ⟨r1, C55, H⟩ := g_bind H
  refine RA_step rfl (OA_callA [] [] rfl (X_fn (vs := [.pointer none, .int .u64 a0, .int .i64 1, .int .i64 1]) Try.func25 nm25 rfl rfl) rfl (F25n0.ok (a1 := a0) (a2 := 1) (a3 := 1) C55) rfl ?_)
  rintro _ _ ⟨A2, c3, rfl, rfl⟩
  refine RA_step rfl (OA_v (v := .tuple #[.agg #[.int .u64 r1.1.f0, .int .u64 r1.1.f1, .int .u64 r1.1.f2, .int .u64 r1.1.f3, .slice A2 r1.1.f4.length c3], .bool r1.2.1, .int .i64 r1.2.2]) rfl (V_move rfl) ?_)
  refine RA_step rfl (OA_v (v := .agg #[.int .u64 r1.1.f0, .int .u64 r1.1.f1, .int .u64 r1.1.f2, .int .u64 r1.1.f3, .slice A2 r1.1.f4.length c3]) rfl (V_extract rfl rfl) ?_)
  refine RA_step rfl (OA_v (v := .bool r1.2.1) rfl (V_extract rfl rfl) ?_)
  refine RA_step rfl (OA_v (v := .int .i64 r1.2.2) rfl (V_extract rfl rfl) ?_)
  refine RA_step rfl (OA_alloc rfl zero54 fun b5 => ?_)
  refine RA_step rfl (OA_st (b := b5) (m := 0) (k := 1) (vs := [.int .u64 r1.1.f0, .int .u64 r1.1.f1, .int .u64 r1.1.f2, .int .u64 r1.1.f3, .slice A2 r1.1.f4.length c3]) (cs' := [.int .u64 r1.1.f0, .int .u64 r1.1.f1, .int .u64 r1.1.f2, .int .u64 r1.1.f3, .slice A2 r1.1.f4.length c3]) rfl rfl rfl rfl rfl rfl sz54 rfl rfl ?_)
  refine RA_step rfl (OA_v (v := .bool r1.2.1) rfl (V_assign rfl) ?_)
  refine RA_step rfl (OA_v (v := .int .i64 r1.2.2) rfl (V_assign rfl) ?_)
  refine RA_nil ?_
  refine at_normal ?_
  refine SA_seq ?_
  refine SA.fact (cap_of (k := 0) rfl) fun hc7 => ?_
  refine SA_region ?_
  refine RA_step rfl (OA_v (v := .pointer none) rfl (V_move rfl) ?_)
  obtain ⟨r8, C54, H⟩ := g_bind H
  refine RA_step rfl (OA_callA [] [0, 1] rfl (X_fn (vs := [.pointer none]) Try.func28 nm28 rfl rfl) rfl (F28n0.ok C54) rfl ?_)
  rintro _ _ ⟨rfl, rfl⟩
  refine RA_step rfl (OA_v (v := .tuple #[.int .u64 r8.1, .int .u64 r8.2.1, .int .i64 r8.2.2]) rfl (V_move rfl) ?_)
  refine RA_step rfl (OA_v (v := .int .u64 r8.1) rfl (V_extract rfl rfl) ?_)
  refine RA_step rfl (OA_v (v := .int .u64 r8.2.1) rfl (V_extract rfl rfl) ?_)
  refine RA_step rfl (OA_v (v := .int .i64 r8.2.2) rfl (V_extract rfl rfl) ?_)
  refine RA_step rfl (OA_v (v := .int .u64 r8.1) rfl (V_assign rfl) ?_)
  refine RA_step rfl (OA_v (v := .int .u64 r8.2.1) rfl (V_assign rfl) ?_)
  refine RA_step rfl (OA_v (v := .int .i64 r8.2.2) rfl (V_assign rfl) ?_)
  refine RA_nil ?_
  refine at_normal ?_
  refine SA_seq ?_
  refine SA_region ?_
  refine RA_step rfl (OA_v (v := .pointer none) rfl (V_move rfl) ?_)
  refine RA_step rfl (OA_v (v := .int .u64 a0) rfl (V_move rfl) ?_)
  refine RA_step rfl (OA_v (v := .agg #[.int .u64 0, .int .u64 a0, .int .u64 0, .int .u64 0, .slice none 0 0]) rfl (V_build (cells := [.int .u64 0, .int .u64 a0, .int .u64 0, .int .u64 0, .slice none 0 0]) zero54 Try.underlying54 plc54 (by kernel_rfl)) ?_)
  obtain ⟨r10, C53, H⟩ := g_bind H
  refine RA_step rfl (OA.ghost (Gh.nilRo (Kd.int .u8) none 0) (OA_callA [2] [0, 1, 2] rfl (X_fn (vs := [.pointer none, .agg #[.int .u64 0, .int .u64 a0, .int .u64 0, .int .u64 0, .slice none 0 0]]) Try.func52 nm52 rfl rfl) rfl (F52n0.ok (a1 := (S54.mk 0 a0 0 0 ([] : (List Int)))) (A1_0 := none) (c1_0 := 0) C53) rfl ?_))
  rintro _ _ ⟨rfl, rfl⟩
  refine RA_step rfl (OA_v (v := .tuple #[.bool r10.1, .int .i64 r10.2]) rfl (V_move rfl) ?_)
  refine RA_step rfl (OA_v (v := .bool r10.1) rfl (V_extract rfl rfl) ?_)
  refine RA_step rfl (OA_v (v := .int .i64 r10.2) rfl (V_extract rfl rfl) ?_)
  refine RA_step rfl (OA_v (v := .bool r10.1) rfl (V_assign rfl) ?_)
  refine RA_step rfl (OA_v (v := .int .i64 r10.2) rfl (V_assign rfl) ?_)
  refine RA_nil ?_
  refine at_normal ?_
  refine SA.of_St (l := [(0, .int .u64 a0), (3, .pointer none), (4, .pointer none), (7, .int .i64 r1.2.2), (8, .int .u64 r8.1), (9, .int .u64 r8.2.1), (10, .int .i64 r8.2.2), (12, .int .i64 r10.2)]) (B := []) (St.mk1 (aeq rfl (aeq rfl (aeq rfl (aeq rfl (aeq rfl (aeq rfl (aeq rfl (aeq rfl aeq0)))))))) (Gh.sel [] (by kernel_rfl) (by kernel_rfl))) fun junk => ?_
  refine SA_seq ?_
  refine SA_region ?_
  refine RA_step rfl (OA_v (v := .pointer none) rfl (V_move rfl) ?_)
  obtain ⟨r11, C52, H⟩ := g_bind H
  refine RA_step rfl (OA_callA [] [] rfl (X_fn (vs := [.pointer none]) Try.func53 nm53 rfl rfl) rfl (F53n0.ok C52) rfl ?_)
  rintro _ _ ⟨rfl, rfl⟩
  refine RA_step rfl (OA_v (v := .tuple #[.int .u64 r11.1, .agg #[.string r11.2.f0]]) rfl (V_move rfl) ?_)
  refine RA_step rfl (OA_v (v := .int .u64 r11.1) rfl (V_extract rfl rfl) ?_)
  refine RA_step rfl (OA_v (v := .agg #[.string r11.2.f0]) rfl (V_extract rfl rfl) ?_)
  refine RA_step rfl (OA_alloc rfl zero41 fun b12 => ?_)
  refine RA_step rfl (OA_v (v := .int .u64 r11.1) rfl (V_assign rfl) ?_)
  refine RA_step rfl (OA_st (b := b12) (m := 0) (k := 0) (vs := [.string r11.2.f0]) (cs' := [.string r11.2.f0]) rfl rfl rfl rfl rfl rfl sz41 rfl rfl ?_)
  refine RA_nil ?_
  refine at_normal ?_
  refine SA_seq ?_
  refine SA_region ?_
  refine RA_step rfl (OA_v (v := .pointer none) rfl (V_move rfl) ?_)
  refine RA_step rfl (OA_v (v := .agg #[.string (⟨#[97]⟩ : ByteArray)]) rfl (V_build (cells := [.string (⟨#[97]⟩ : ByteArray)]) zero41 Try.underlying41 plc41 (by kernel_rfl)) ?_)
  obtain ⟨r14, C51, H⟩ := g_bind H
  refine RA_step rfl (OA_callA [] [0] rfl (X_fn (vs := [.pointer none, .agg #[.string (⟨#[97]⟩ : ByteArray)]]) Try.func22 nm22 rfl rfl) rfl (F22n0.ok (a1 := (S41.mk (⟨#[97]⟩ : ByteArray))) C51) rfl ?_)
  rintro _ _ ⟨rfl, rfl⟩
  refine RA_step rfl (OA_v (v := .bool (decide (r14 = 1))) rfl (V_eql rfl rfl) ?_)
  refine RA_step rfl (OA_v (v := .bool (decide (r14 = 1))) rfl (V_move rfl) ?_)
  obtain ⟨q15, H, Bq15⟩ := g_bind H
  refine RA_cut 5 (fun e ds As => St [(4, .pointer none), (7, .int .i64 r1.2.2), (8, .int .u64 r8.1), (9, .int .u64 r8.2.1), (10, .int .i64 r8.2.2), (12, .int .i64 r10.2), (13, .int .u64 r11.1), (14, .pointer (some ⟨b12, 0, none⟩)), (49, .bool q15)] [Blk b12 41 [.string r11.2.f0]] e ds As) ?_ ?_
  · by_cases h16 : r14 = 1
    · replace H := g_ift h16 H
      refine RA_yesB rfl rfl rfl rfl (dec_t h16) (OA_v (v := .pointer none) rfl (V_move rfl) ?_)
      refine RA_yesB rfl rfl rfl rfl (dec_t h16) (OA_v (v := .int .u64 a0) rfl (V_move rfl) ?_)
      obtain ⟨r17, C18, H⟩ := g_bind H
      refine RA_yesB rfl rfl rfl rfl (dec_t h16) (OA_callA [] [0] rfl (X_fn (vs := [.pointer none, .int .u64 a0]) Try.func23 nm23 rfl rfl) rfl (F23n0.ok (a1 := a0) C18) rfl ?_)
      rintro _ _ ⟨rfl, rfl⟩
      refine RA_yesB rfl rfl rfl rfl (dec_t h16) (OA_v (v := .bool (decide (r17 = 1))) rfl (V_eql rfl rfl) ?_)
      refine RA_step rfl (OA_v rfl (V_pickT rfl (dec_t h16) rfl) ?_)
      have hr_ := Option.some.inj H
      subst hr_
      refine RA_nil ?_
      exact at_normal (St.mk1 (aeq rfl (aeq rfl (aeq rfl (aeq rfl (aeq rfl (aeq rfl (aeq rfl (aeq rfl (aeq rfl aeq0))))))))) (Gh.sel [0] rfl rfl))
    replace H := g_iff h16 H
    refine RA_noB rfl rfl rfl rfl (dec_f h16) rfl ?_
    refine RA_noB rfl rfl rfl rfl (dec_f h16) rfl ?_
    refine RA_noB rfl rfl rfl rfl (dec_f h16) rfl ?_
    refine RA_noB rfl rfl rfl rfl (dec_f h16) rfl ?_
    refine RA_step rfl (OA_v rfl (V_pickF rfl (dec_f h16) rfl) ?_)
    have hr_ := Option.some.inj H
    subst hr_
    refine RA_nil ?_
    exact at_normal (St.mk1 (aeq rfl (aeq rfl (aeq rfl (aeq rfl (aeq rfl (aeq rfl (aeq rfl (aeq rfl (aeq rfl aeq0))))))))) (Gh.sel [0] rfl rfl))
  rintro e ds As hst19
  clear H
  have H := Bq15
  clear Bq15
  refine RA.of_St rfl hst19 fun junk => ?_
  refine RA_step rfl (OA_v (v := .bool q15) rfl (V_move rfl) ?_)
  obtain ⟨q20, hq20, H⟩ := g_lt H
  refine RA_cut 3 (fun e ds As => St [(4, .pointer none), (8, .int .u64 r8.1), (9, .int .u64 r8.2.1), (10, .int .i64 r8.2.2), (12, .int .i64 r10.2), (13, .int .u64 r11.1), (14, .pointer (some ⟨b12, 0, none⟩)), (53, .bool q20)] [Blk b12 41 [.string r11.2.f0]] e ds As) ?_ ?_
  · by_cases h21 : q15 = true
    · refine RA_yesB rfl rfl rfl rfl (h21) (OA_v (v := .int .i64 r1.2.2) rfl (V_move rfl) ?_)
      refine RA_yesB rfl rfl rfl rfl (h21) (OA_v (v := .bool (decide (r1.2.2 = 1))) rfl (V_eql rfl rfl) ?_)
      refine RA_step rfl (OA_v rfl (V_pickT rfl (h21) rfl) ?_)
      refine RA_nil ?_
      exact at_normal (St.mk1 (aeq rfl (aeq rfl (aeq rfl (aeq rfl (aeq rfl (aeq rfl (aeq rfl (aeq (congrArg Value.bool (and_t hq20 (h21))) aeq0)))))))) (Gh.sel [0] rfl rfl))
    refine RA_noB rfl rfl rfl rfl (bno h21) rfl ?_
    refine RA_noB rfl rfl rfl rfl (bno h21) rfl ?_
    refine RA_step rfl (OA_v rfl (V_pickF rfl (bno h21) rfl) ?_)
    refine RA_nil ?_
    exact at_normal (St.mk1 (aeq rfl (aeq rfl (aeq rfl (aeq rfl (aeq rfl (aeq rfl (aeq rfl (aeq (congrArg Value.bool (and_f hq20 (bno h21))) aeq0)))))))) (Gh.sel [0] rfl rfl))
  rintro e ds As hst22
  refine RA.of_St rfl hst22 fun junk => ?_
  refine RA_step rfl (OA_v (v := .bool q20) rfl (V_move rfl) ?_)
  obtain ⟨q23, hq23, H⟩ := g_lt H
  refine RA_cut 5 (fun e ds As => St [(4, .pointer none), (10, .int .i64 r8.2.2), (12, .int .i64 r10.2), (13, .int .u64 r11.1), (14, .pointer (some ⟨b12, 0, none⟩)), (59, .bool q23)] [Blk b12 41 [.string r11.2.f0]] e ds As) ?_ ?_
  · by_cases h24 : q20 = true
    · refine RA_yesB rfl rfl rfl rfl (h24) (OA_v (v := .int .u64 r8.1) rfl (V_move rfl) ?_)
      refine RA_yesB rfl rfl rfl rfl (h24) (OA_v (v := .int .u64 r8.2.1) rfl (V_move rfl) ?_)
      refine RA_yesB rfl rfl rfl rfl (h24) (OA_v (v := .int .u64 (IntKind.u64.wrap (r8.1 + r8.2.1))) rfl (V_add rfl rfl) ?_)
      refine RA_yesB rfl rfl rfl rfl (h24) (OA_v (v := .bool (decide ((IntKind.u64.wrap (r8.1 + r8.2.1)) = 0))) rfl (V_eql rfl rfl) ?_)
      refine RA_step rfl (OA_v rfl (V_pickT rfl (h24) rfl) ?_)
      refine RA_nil ?_
      exact at_normal (St.mk1 (aeq rfl (aeq rfl (aeq rfl (aeq rfl (aeq rfl (aeq (congrArg Value.bool (and_t hq23 (h24))) aeq0)))))) (Gh.sel [0] rfl rfl))
    refine RA_noB rfl rfl rfl rfl (bno h24) rfl ?_
    refine RA_noB rfl rfl rfl rfl (bno h24) rfl ?_
    refine RA_noB rfl rfl rfl rfl (bno h24) rfl ?_
    refine RA_noB rfl rfl rfl rfl (bno h24) rfl ?_
    refine RA_step rfl (OA_v rfl (V_pickF rfl (bno h24) rfl) ?_)
    refine RA_nil ?_
    exact at_normal (St.mk1 (aeq rfl (aeq rfl (aeq rfl (aeq rfl (aeq rfl (aeq (congrArg Value.bool (and_f hq23 (bno h24))) aeq0)))))) (Gh.sel [0] rfl rfl))
  rintro e ds As hst25
  refine RA.of_St rfl hst25 fun junk => ?_
  refine RA_step rfl (OA_v (v := .bool q23) rfl (V_move rfl) ?_)
  obtain ⟨q26, hq26, H⟩ := g_lt H
  refine RA_cut 3 (fun e ds As => St [(4, .pointer none), (12, .int .i64 r10.2), (13, .int .u64 r11.1), (14, .pointer (some ⟨b12, 0, none⟩)), (63, .bool q26)] [Blk b12 41 [.string r11.2.f0]] e ds As) ?_ ?_
  · by_cases h27 : q23 = true
    · refine RA_yesB rfl rfl rfl rfl (h27) (OA_v (v := .int .i64 r8.2.2) rfl (V_move rfl) ?_)
      refine RA_yesB rfl rfl rfl rfl (h27) (OA_v (v := .bool (decide (r8.2.2 = 0))) rfl (V_eql rfl rfl) ?_)
      refine RA_step rfl (OA_v rfl (V_pickT rfl (h27) rfl) ?_)
      refine RA_nil ?_
      exact at_normal (St.mk1 (aeq rfl (aeq rfl (aeq rfl (aeq rfl (aeq (congrArg Value.bool (and_t hq26 (h27))) aeq0))))) (Gh.sel [0] rfl rfl))
    refine RA_noB rfl rfl rfl rfl (bno h27) rfl ?_
    refine RA_noB rfl rfl rfl rfl (bno h27) rfl ?_
    refine RA_step rfl (OA_v rfl (V_pickF rfl (bno h27) rfl) ?_)
    refine RA_nil ?_
    exact at_normal (St.mk1 (aeq rfl (aeq rfl (aeq rfl (aeq rfl (aeq (congrArg Value.bool (and_f hq26 (bno h27))) aeq0))))) (Gh.sel [0] rfl rfl))
  rintro e ds As hst28
  refine RA.of_St rfl hst28 fun junk => ?_
  refine RA_step rfl (OA_v (v := .bool q26) rfl (V_move rfl) ?_)
  obtain ⟨q29, hq29, H⟩ := g_lt H
  refine RA_cut 3 (fun e ds As => St [(4, .pointer none), (13, .int .u64 r11.1), (14, .pointer (some ⟨b12, 0, none⟩)), (67, .bool q29)] [Blk b12 41 [.string r11.2.f0]] e ds As) ?_ ?_
  · by_cases h30 : q26 = true
    · refine RA_yesB rfl rfl rfl rfl (h30) (OA_v (v := .int .i64 r10.2) rfl (V_move rfl) ?_)
      refine RA_yesB rfl rfl rfl rfl (h30) (OA_v (v := .bool (decide (r10.2 = 1))) rfl (V_eql rfl rfl) ?_)
      refine RA_step rfl (OA_v rfl (V_pickT rfl (h30) rfl) ?_)
      refine RA_nil ?_
      exact at_normal (St.mk1 (aeq rfl (aeq rfl (aeq rfl (aeq (congrArg Value.bool (and_t hq29 (h30))) aeq0)))) (Gh.sel [0] rfl rfl))
    refine RA_noB rfl rfl rfl rfl (bno h30) rfl ?_
    refine RA_noB rfl rfl rfl rfl (bno h30) rfl ?_
    refine RA_step rfl (OA_v rfl (V_pickF rfl (bno h30) rfl) ?_)
    refine RA_nil ?_
    exact at_normal (St.mk1 (aeq rfl (aeq rfl (aeq rfl (aeq (congrArg Value.bool (and_f hq29 (bno h30))) aeq0)))) (Gh.sel [0] rfl rfl))
  rintro e ds As hst31
  refine RA.of_St rfl hst31 fun junk => ?_
  refine RA_step rfl (OA_v (v := .bool q29) rfl (V_move rfl) ?_)
  obtain ⟨q32, hq32, H⟩ := g_lt H
  refine RA_cut 3 (fun e ds As => St [(4, .pointer none), (14, .pointer (some ⟨b12, 0, none⟩)), (71, .bool q32)] [Blk b12 41 [.string r11.2.f0]] e ds As) ?_ ?_
  · by_cases h33 : q29 = true
    · refine RA_yesB rfl rfl rfl rfl (h33) (OA_v (v := .int .u64 r11.1) rfl (V_move rfl) ?_)
      refine RA_yesB rfl rfl rfl rfl (h33) (OA_v (v := .bool (decide (r11.1 = 0))) rfl (V_eql rfl rfl) ?_)
      refine RA_step rfl (OA_v rfl (V_pickT rfl (h33) rfl) ?_)
      refine RA_nil ?_
      exact at_normal (St.mk1 (aeq rfl (aeq rfl (aeq (congrArg Value.bool (and_t hq32 (h33))) aeq0))) (Gh.sel [0] rfl rfl))
    refine RA_noB rfl rfl rfl rfl (bno h33) rfl ?_
    refine RA_noB rfl rfl rfl rfl (bno h33) rfl ?_
    refine RA_step rfl (OA_v rfl (V_pickF rfl (bno h33) rfl) ?_)
    refine RA_nil ?_
    exact at_normal (St.mk1 (aeq rfl (aeq rfl (aeq (congrArg Value.bool (and_f hq32 (bno h33))) aeq0))) (Gh.sel [0] rfl rfl))
  rintro e ds As hst34
  refine RA.of_St rfl hst34 fun junk => ?_
  refine RA_step rfl (OA_v (v := .bool q32) rfl (V_move rfl) ?_)
  obtain ⟨q35, hq35, H⟩ := g_lt H
  refine RA_cut 4 (fun e ds As => St [(4, .pointer none), (76, .bool q35)] [] e ds As) ?_ ?_
  · by_cases h36 : q32 = true
    · refine RA_yesB rfl rfl rfl rfl (h36) (OA_v (v := .pointer (some ⟨b12, 0, none⟩)) rfl (V_fieldAddrN (B := ⟨b12, 0, none⟩) (m := 0) (o := 0) Try.underlying41 rfl nz9 rfl rfl) ?_)
      refine RA_yesB rfl rfl rfl rfl (h36) (OA_r rfl (VR_load_blk (b := b12) (m := 0) (k := 0) Try.underlying9 rfl rfl rfl rfl) ?_)
      refine RA_yesB rfl rfl rfl rfl (h36) (OA_v (v := .bool (decide (r11.2.f0 = (⟨#[]⟩ : ByteArray)))) rfl (V_eqlS rfl rfl) ?_)
      refine RA_step rfl (OA_v rfl (V_pickT rfl (h36) rfl) ?_)
      refine RA_nil ?_
      exact at_normal (St.mk1 (aeq rfl (aeq (congrArg Value.bool (and_t hq35 (h36))) aeq0)) (Gh.sel [] rfl rfl))
    refine RA_noB rfl rfl rfl rfl (bno h36) rfl ?_
    refine RA_noB rfl rfl rfl rfl (bno h36) rfl ?_
    refine RA_noB rfl rfl rfl rfl (bno h36) rfl ?_
    refine RA_step rfl (OA_v rfl (V_pickF rfl (bno h36) rfl) ?_)
    refine RA_nil ?_
    exact at_normal (St.mk1 (aeq rfl (aeq (congrArg Value.bool (and_f hq35 (bno h36))) aeq0)) (Gh.sel [] rfl rfl))
  rintro e ds As hst37
  refine RA.of_St rfl hst37 fun junk => ?_
  refine RA_step rfl (OA_v (v := .bool q35) rfl (V_move rfl) ?_)
  obtain ⟨q38, H, Bq38⟩ := g_bind H
  refine RA_cut 5 (fun e ds As => St [(82, .bool q38)] [] e ds As) ?_ ?_
  · by_cases h39 : q35 = true
    · replace H := g_ift h39 H
      refine RA_yesB rfl rfl rfl rfl (h39) (OA_v (v := .pointer none) rfl (V_move rfl) ?_)
      obtain ⟨r40, C44, H⟩ := g_bind H
      refine RA_yesB rfl rfl rfl rfl (h39) (OA_callA [] [] rfl (X_fn (vs := [.pointer none]) Try.func56 nm56 rfl rfl) rfl (F56n0.ok C44) rfl ?_)
      rintro _ _ ⟨A41, c42, rfl, rfl⟩
      refine RA_yesB rfl rfl rfl rfl (h39) (OA_v (v := .int .i64 (r40.length : Int)) rfl (V_len Try.underlying118 rfl) ?_)
      refine RA_yesB rfl rfl rfl rfl (h39) (OA_v (v := .bool (decide ((r40.length : Int) = 0))) rfl (V_eql rfl rfl) ?_)
      refine RA_step rfl (OA_v rfl (V_pickT rfl (h39) rfl) ?_)
      have hr_ := Option.some.inj H
      subst hr_
      refine RA_nil ?_
      exact at_normal (St.mk1 (aeq rfl aeq0) (Gh.sel [] rfl rfl))
    replace H := g_iff h39 H
    refine RA_noB rfl rfl rfl rfl (bno h39) rfl ?_
    refine RA_noB rfl rfl rfl rfl (bno h39) rfl ?_
    refine RA_noB rfl rfl rfl rfl (bno h39) rfl ?_
    refine RA_noB rfl rfl rfl rfl (bno h39) rfl ?_
    refine RA_step rfl (OA_v rfl (V_pickF rfl (bno h39) rfl) ?_)
    have hr_ := Option.some.inj H
    subst hr_
    refine RA_nil ?_
    exact at_normal (St.mk1 (aeq rfl aeq0) (Gh.sel [] rfl rfl))
  rintro e ds As hst45
  clear H
  have H := Bq38
  clear Bq38
  refine RA.of_St rfl hst45 fun junk => ?_
  refine RA_step rfl (OA_v (v := .bool q38) rfl (V_move rfl) ?_)
  obtain ⟨q46, H, Bq46⟩ := g_bind H
  refine RA_cut 2 (fun e ds As => St [(85, .bool q46)] [] e ds As) ?_ ?_
  · by_cases h47 : q38 = true
    · replace H := g_ift h47 H
      obtain ⟨r48, C49, H⟩ := g_bind H
      refine RA_yesB rfl rfl rfl rfl (h47) (OA_callA [] [] rfl (X_fn (vs := []) Try.func29 nm29 rfl rfl) rfl (F29.ok C49) rfl ?_)
      rintro _ _ ⟨rfl, rfl⟩
      refine RA_step rfl (OA_v rfl (V_pickT rfl (h47) rfl) ?_)
      have hr_ := Option.some.inj H
      subst hr_
      refine RA_nil ?_
      exact at_normal (St.mk1 (aeq rfl aeq0) (Gh.sel [] rfl rfl))
    replace H := g_iff h47 H
    refine RA_noB rfl rfl rfl rfl (bno h47) rfl ?_
    refine RA_step rfl (OA_v rfl (V_pickF rfl (bno h47) rfl) ?_)
    have hr_ := Option.some.inj H
    subst hr_
    refine RA_nil ?_
    exact at_normal (St.mk1 (aeq rfl aeq0) (Gh.sel [] rfl rfl))
  rintro e ds As hst50
  clear H
  have H := Bq46
  clear Bq46
  refine RA.of_St rfl hst50 fun junk => ?_
  refine RA_step rfl (OA_v (v := .bool q46) rfl (V_assign rfl) ?_)
  refine RA_nil ?_
  refine at_normal ?_
  refine SA_ret ?_
  have hr_ := Option.some.inj H
  subst hr_
  exact BQ_R1 [] rfl rfl (Gh.sel [] rfl rfl) ⟨rfl, rfl⟩
end Go.Proofs.Ytodkeoibebimgaa.Sq

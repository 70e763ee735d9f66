/- What functions compute, and that they do: 4. -/
import Derived.Test.YtocjoegcfojjhaaHd0
import Derived.Test.YtocjoegcfojjhaaHd1
import Derived.Test.YtocjoegcfojjhaaHd2
import Derived.Test.YtocjoegcfojjhaaHd3
namespace Go.Proofs.Ytocjoegcfojjhaa.Hd
open Go Go.RowKit Go.Proofs.Ytocjoegcfojjhaa.SL
set_option linter.unusedVariables false
set_option linter.unusedSimpArgs false
attribute [local irreducible] IntKind.wrap minI maxI shrI shlI andI orI xorI andNotI cplI rd sub bytesOf strOf slA
/-! ### function 4: wayfarer/wayfarerlaw04.HuffCodes -/
def F4.f (k : Nat) (l0 : (List Int)) (l1 : (List Int)) (a2 : Int) : Option (Bool) := (F20.f k l0).bind (fun r3 => (F21.f k l0).bind (fun r7 => (F22.f k l0).bind (fun r11 => (F23.f k l0).bind (fun r12 => (F24.f k l0 l1 a2).bind (fun r13 => (F25.f k l0 l1 a2).bind (fun r14 => (F26.f k r3.1 r7.1).bind (fun r15 => lt (r15 && (decide (r3.2 = r7.2))) fun q16 => lt (q16 && (decide (r11.1 = r12.1))) fun q19 => lt (q19 && (decide (r11.2 = r12.2))) fun q22 => lt (q22 && (decide (r13.1 = r14.1))) fun q25 => lt (q25 && (decide (r13.2.1 = r14.2.1))) fun q28 => lt (q28 && (decide (r13.2.2 = r14.2.2))) fun q31 => (if q31 = true then ((F27.f k ).bind (fun r36 => some r36)) else (some false) : Option Bool).bind (fun q34 => some (q34)))))))))
set_option maxHeartbeats 2000000 in
set_option maxRecDepth 100000 in
theorem F4.ok {k : Nat} {l0 : (List Int)} {l1 : (List Int)} {a2 : Int} {A0 : Option Addr} {c0 : Nat} {A1 : Option Addr} {c1 : Nat} {r : Bool} (H : F4.f k l0 l1 a2 = some r) : SCA Try.prog 4 #[.slice A0 l0.length c0, .slice A1 l1.length c1, .int .i64 a2] [Ro (Kd.int .i64) A0 c0 l0, Ro (Kd.int .u8) A1 c1 l1] (fun v B => v = .bool r ∧ B = []) := by
  refine SCA_of_body Try.func4 rfl rfl ?_
  unfold F4.f at H
  refine SA_seq ?_
  refine SA_region ?_
  refine RA_step rfl (OA_v (v := .bool false) rfl (V_assign rfl) ?_)
  refine RA_nil ?_
  refine at_normal ?_
  refine SA_seq ?_
  refine SA_region ?_
  refine RA_step rfl (OA_v (v := .slice A0 l0.length c0) rfl (V_move rfl) ?_)
  obtain ⟨r3, C45, H⟩ := g_bind H
  refine RA_step rfl (OA_callA [0] [0, 1] rfl (X_fn (vs := [.slice A0 l0.length c0]) Try.func20 nm20 rfl rfl) rfl (F20.ok (l0 := l0) (A0 := A0) (c0 := c0) C45) rfl ?_)
  rintro _ _ ⟨A4, c5, rfl, rfl⟩
  refine RA_step rfl (OA_v (v := .tuple #[.slice A4 r3.1.length c5, .int .i64 r3.2]) rfl (V_move rfl) ?_)
  refine RA_step rfl (OA_v (v := .slice A4 r3.1.length c5) rfl (V_extract rfl rfl) ?_)
  refine RA_step rfl (OA_v (v := .int .i64 r3.2) rfl (V_extract rfl rfl) ?_)
  refine RA_step rfl (OA_v (v := .slice A4 r3.1.length c5) rfl (V_assign rfl) ?_)
  refine RA_step rfl (OA_v (v := .int .i64 r3.2) rfl (V_assign rfl) ?_)
  refine RA_nil ?_
  refine at_normal ?_
  refine SA_seq ?_
  refine SA_region ?_
  refine RA_step rfl (OA_v (v := .slice A0 l0.length c0) rfl (V_move rfl) ?_)
  obtain ⟨r7, C44, H⟩ := g_bind H
  refine RA_step rfl (OA_callA [1] [0, 1, 2] rfl (X_fn (vs := [.slice A0 l0.length c0]) Try.func21 nm21 rfl rfl) rfl (F21.ok (l0 := l0) (A0 := A0) (c0 := c0) C44) rfl ?_)
  rintro _ _ ⟨A8, c9, rfl, rfl⟩
  refine RA_step rfl (OA_v (v := .tuple #[.slice A8 r7.1.length c9, .int .i64 r7.2]) rfl (V_move rfl) ?_)
  refine RA_step rfl (OA_v (v := .slice A8 r7.1.length c9) rfl (V_extract rfl rfl) ?_)
  refine RA_step rfl (OA_v (v := .int .i64 r7.2) rfl (V_extract rfl rfl) ?_)
  refine RA_step rfl (OA_v (v := .slice A8 r7.1.length c9) rfl (V_assign rfl) ?_)
  refine RA_step rfl (OA_v (v := .int .i64 r7.2) rfl (V_assign rfl) ?_)
  refine RA_nil ?_
  refine at_normal ?_
  refine SA_seq ?_
  refine SA_region ?_
  refine RA_step rfl (OA_v (v := .slice A0 l0.length c0) rfl (V_move rfl) ?_)
  obtain ⟨r11, C43, H⟩ := g_bind H
  refine RA_step rfl (OA_callA [2] [0, 1, 2, 3] rfl (X_fn (vs := [.slice A0 l0.length c0]) Try.func22 nm22 rfl rfl) rfl (F22.ok (l0 := l0) (A0 := A0) (c0 := c0) C43) rfl ?_)
  rintro _ _ ⟨rfl, rfl⟩
  refine RA_step rfl (OA_v (v := .tuple #[.int .i64 r11.1, .int .i64 r11.2]) rfl (V_move rfl) ?_)
  refine RA_step rfl (OA_v (v := .int .i64 r11.1) rfl (V_extract rfl rfl) ?_)
  refine RA_step rfl (OA_v (v := .int .i64 r11.2) rfl (V_extract rfl rfl) ?_)
  refine RA_step rfl (OA_v (v := .int .i64 r11.1) rfl (V_assign rfl) ?_)
  refine RA_step rfl (OA_v (v := .int .i64 r11.2) rfl (V_assign rfl) ?_)
  refine RA_nil ?_
  refine at_normal ?_
  refine SA_seq ?_
  refine SA_region ?_
  refine RA_step rfl (OA_v (v := .slice A0 l0.length c0) rfl (V_move rfl) ?_)
  obtain ⟨r12, C42, H⟩ := g_bind H
  refine RA_step rfl (OA_callA [2] [0, 1, 2, 3] rfl (X_fn (vs := [.slice A0 l0.length c0]) Try.func23 nm23 rfl rfl) rfl (F23.ok (l0 := l0) (A0 := A0) (c0 := c0) C42) rfl ?_)
  rintro _ _ ⟨rfl, rfl⟩
  refine RA_step rfl (OA_v (v := .tuple #[.int .i64 r12.1, .int .i64 r12.2]) rfl (V_move rfl) ?_)
  refine RA_step rfl (OA_v (v := .int .i64 r12.1) rfl (V_extract rfl rfl) ?_)
  refine RA_step rfl (OA_v (v := .int .i64 r12.2) rfl (V_extract rfl rfl) ?_)
  refine RA_step rfl (OA_v (v := .int .i64 r12.1) rfl (V_assign rfl) ?_)
  refine RA_step rfl (OA_v (v := .int .i64 r12.2) rfl (V_assign rfl) ?_)
  refine RA_nil ?_
  refine at_normal ?_
  refine SA.of_St (l := [(0, .slice A0 l0.length c0), (1, .slice A1 l1.length c1), (2, .int .i64 a2), (7, .slice A4 r3.1.length c5), (8, .int .i64 r3.2), (9, .slice A8 r7.1.length c9), (10, .int .i64 r7.2), (11, .int .i64 r11.1), (12, .int .i64 r11.2), (13, .int .i64 r12.1), (14, .int .i64 r12.2)]) (B := [Ro (Kd.int .i64) A0 c0 l0, Ro (Kd.int .u8) A1 c1 l1, Buf k52 52 A4 c5 r3.1, Buf k52 52 A8 c9 r7.1]) (St.mk1 (aeq rfl (aeq rfl (aeq rfl (aeq rfl (aeq rfl (aeq rfl (aeq rfl (aeq rfl (aeq rfl (aeq rfl (aeq rfl aeq0))))))))))) (Gh.sel [2, 3, 1, 0] rfl rfl)) fun junk => ?_
  refine SA_seq ?_
  refine SA_region ?_
  refine RA_step rfl (OA_v (v := .slice A0 l0.length c0) rfl (V_move rfl) ?_)
  refine RA_step rfl (OA_v (v := .slice A1 l1.length c1) rfl (V_move rfl) ?_)
  refine RA_step rfl (OA_v (v := .int .i64 a2) rfl (V_move rfl) ?_)
  obtain ⟨r13, C41, H⟩ := g_bind H
  refine RA_step rfl (OA_callA [0, 1] [0, 1, 2, 3] rfl (X_fn (vs := [.slice A0 l0.length c0, .slice A1 l1.length c1, .int .i64 a2]) Try.func24 nm24 rfl rfl) rfl (F24.ok (l0 := l0) (A0 := A0) (c0 := c0) (l1 := l1) (A1 := A1) (c1 := c1) (a2 := a2) C41) rfl ?_)
  rintro _ _ ⟨rfl, rfl⟩
  refine RA_step rfl (OA_v (v := .tuple #[.int .i64 r13.1, .int .i64 r13.2.1, .int .i64 r13.2.2]) rfl (V_move rfl) ?_)
  refine RA_step rfl (OA_v (v := .int .i64 r13.1) rfl (V_extract rfl rfl) ?_)
  refine RA_step rfl (OA_v (v := .int .i64 r13.2.1) rfl (V_extract rfl rfl) ?_)
  refine RA_step rfl (OA_v (v := .int .i64 r13.2.2) rfl (V_extract rfl rfl) ?_)
  refine RA_step rfl (OA_v (v := .int .i64 r13.1) rfl (V_assign rfl) ?_)
  refine RA_step rfl (OA_v (v := .int .i64 r13.2.1) rfl (V_assign rfl) ?_)
  refine RA_step rfl (OA_v (v := .int .i64 r13.2.2) rfl (V_assign rfl) ?_)
  refine RA_nil ?_
  refine at_normal ?_
  refine SA_seq ?_
  refine SA_region ?_
  refine RA_step rfl (OA_v (v := .slice A0 l0.length c0) rfl (V_move rfl) ?_)
  refine RA_step rfl (OA_v (v := .slice A1 l1.length c1) rfl (V_move rfl) ?_)
  refine RA_step rfl (OA_v (v := .int .i64 a2) rfl (V_move rfl) ?_)
  obtain ⟨r14, C40, H⟩ := g_bind H
  refine RA_step rfl (OA_callA [0, 1] [0, 1, 2, 3] rfl (X_fn (vs := [.slice A0 l0.length c0, .slice A1 l1.length c1, .int .i64 a2]) Try.func25 nm25 rfl rfl) rfl (F25.ok (l0 := l0) (A0 := A0) (c0 := c0) (l1 := l1) (A1 := A1) (c1 := c1) (a2 := a2) C40) rfl ?_)
  rintro _ _ ⟨rfl, rfl⟩
  refine RA_step rfl (OA_v (v := .tuple #[.int .i64 r14.1, .int .i64 r14.2.1, .int .i64 r14.2.2]) rfl (V_move rfl) ?_)
  refine RA_step rfl (OA_v (v := .int .i64 r14.1) rfl (V_extract rfl rfl) ?_)
  refine RA_step rfl (OA_v (v := .int .i64 r14.2.1) rfl (V_extract rfl rfl) ?_)
  refine RA_step rfl (OA_v (v := .int .i64 r14.2.2) rfl (V_extract rfl rfl) ?_)
  refine RA_step rfl (OA_v (v := .int .i64 r14.1) rfl (V_assign rfl) ?_)
  refine RA_step rfl (OA_v (v := .int .i64 r14.2.1) rfl (V_assign rfl) ?_)
  refine RA_step rfl (OA_v (v := .int .i64 r14.2.2) rfl (V_assign rfl) ?_)
  refine RA_nil ?_
  refine at_normal ?_
  refine SA_seq ?_
  refine SA_region ?_
  refine RA_step rfl (OA_v (v := .slice A4 r3.1.length c5) rfl (V_move rfl) ?_)
  refine RA_step rfl (OA_v (v := .slice A8 r7.1.length c9) rfl (V_move rfl) ?_)
  obtain ⟨r15, C39, H⟩ := g_bind H
  refine RA_step rfl (OA.ghost (Gh.freeze (k := 2) rfl) (OA.ghost (Gh.freeze (k := 3) rfl) (OA_callA [2, 3] [0, 1, 2, 3] rfl (X_fn (vs := [.slice A4 r3.1.length c5, .slice A8 r7.1.length c9]) Try.func26 nm26 rfl rfl) rfl (F26.ok (l0 := r3.1) (A0 := A4) (c0 := c5) (l1 := r7.1) (A1 := A8) (c1 := c9) C39) rfl ?_)))
  rintro _ _ ⟨rfl, rfl⟩
  refine RA_step rfl (OA_v (v := .bool r15) rfl (V_move rfl) ?_)
  obtain ⟨q16, hq16, H⟩ := g_lt H
  refine RA_cut 4 (fun e ds As => St [(11, .int .i64 r11.1), (12, .int .i64 r11.2), (13, .int .i64 r12.1), (14, .int .i64 r12.2), (15, .int .i64 r13.1), (16, .int .i64 r13.2.1), (17, .int .i64 r13.2.2), (18, .int .i64 r14.1), (19, .int .i64 r14.2.1), (20, .int .i64 r14.2.2), (64, .bool q16)] [] e ds As) ?_ ?_
  · by_cases h17 : r15 = true
    · refine RA_yesB rfl rfl rfl rfl (h17) (OA_v (v := .int .i64 r3.2) rfl (V_move rfl) ?_)
      refine RA_yesB rfl rfl rfl rfl (h17) (OA_v (v := .int .i64 r7.2) rfl (V_move rfl) ?_)
      refine RA_yesB rfl rfl rfl rfl (h17) (OA_v (v := .bool (decide (r3.2 = r7.2))) rfl (V_eql rfl rfl) ?_)
      refine RA_step rfl (OA_v rfl (V_pickT rfl (h17) rfl) ?_)
      refine RA_nil ?_
      exact at_normal (St.mk1 (aeq rfl (aeq rfl (aeq rfl (aeq rfl (aeq rfl (aeq rfl (aeq rfl (aeq rfl (aeq rfl (aeq rfl (aeq (congrArg Value.bool (and_t hq16 (h17))) aeq0))))))))))) (Gh.sel [] rfl rfl))
    · refine RA_noB rfl rfl rfl rfl (bno h17) rfl ?_
      refine RA_noB rfl rfl rfl rfl (bno h17) rfl ?_
      refine RA_noB rfl rfl rfl rfl (bno h17) rfl ?_
      refine RA_step rfl (OA_v rfl (V_pickF rfl (bno h17) rfl) ?_)
      refine RA_nil ?_
      exact at_normal (St.mk1 (aeq rfl (aeq rfl (aeq rfl (aeq rfl (aeq rfl (aeq rfl (aeq rfl (aeq rfl (aeq rfl (aeq rfl (aeq (congrArg Value.bool (and_f hq16 (bno h17))) aeq0))))))))))) (Gh.sel [] rfl rfl))
  · rintro e ds As hst18
    refine RA.of_St rfl hst18 fun junk => ?_
    refine RA_step rfl (OA_v (v := .bool q16) rfl (V_move rfl) ?_)
    obtain ⟨q19, hq19, H⟩ := g_lt H
    refine RA_cut 4 (fun e ds As => St [(12, .int .i64 r11.2), (14, .int .i64 r12.2), (15, .int .i64 r13.1), (16, .int .i64 r13.2.1), (17, .int .i64 r13.2.2), (18, .int .i64 r14.1), (19, .int .i64 r14.2.1), (20, .int .i64 r14.2.2), (69, .bool q19)] [] e ds As) ?_ ?_
    · by_cases h20 : q16 = true
      · refine RA_yesB rfl rfl rfl rfl (h20) (OA_v (v := .int .i64 r11.1) rfl (V_move rfl) ?_)
        refine RA_yesB rfl rfl rfl rfl (h20) (OA_v (v := .int .i64 r12.1) rfl (V_move rfl) ?_)
        refine RA_yesB rfl rfl rfl rfl (h20) (OA_v (v := .bool (decide (r11.1 = r12.1))) rfl (V_eql rfl rfl) ?_)
        refine RA_step rfl (OA_v rfl (V_pickT rfl (h20) rfl) ?_)
        refine RA_nil ?_
        exact at_normal (St.mk1 (aeq rfl (aeq rfl (aeq rfl (aeq rfl (aeq rfl (aeq rfl (aeq rfl (aeq rfl (aeq (congrArg Value.bool (and_t hq19 (h20))) aeq0))))))))) (Gh.sel [] rfl rfl))
      · refine RA_noB rfl rfl rfl rfl (bno h20) rfl ?_
        refine RA_noB rfl rfl rfl rfl (bno h20) rfl ?_
        refine RA_noB rfl rfl rfl rfl (bno h20) rfl ?_
        refine RA_step rfl (OA_v rfl (V_pickF rfl (bno h20) rfl) ?_)
        refine RA_nil ?_
        exact at_normal (St.mk1 (aeq rfl (aeq rfl (aeq rfl (aeq rfl (aeq rfl (aeq rfl (aeq rfl (aeq rfl (aeq (congrArg Value.bool (and_f hq19 (bno h20))) aeq0))))))))) (Gh.sel [] rfl rfl))
    · rintro e ds As hst21
      refine RA.of_St rfl hst21 fun junk => ?_
      refine RA_step rfl (OA_v (v := .bool q19) rfl (V_move rfl) ?_)
      obtain ⟨q22, hq22, H⟩ := g_lt H
      refine RA_cut 4 (fun e ds As => St [(15, .int .i64 r13.1), (16, .int .i64 r13.2.1), (17, .int .i64 r13.2.2), (18, .int .i64 r14.1), (19, .int .i64 r14.2.1), (20, .int .i64 r14.2.2), (74, .bool q22)] [] e ds As) ?_ ?_
      · by_cases h23 : q19 = true
        · refine RA_yesB rfl rfl rfl rfl (h23) (OA_v (v := .int .i64 r11.2) rfl (V_move rfl) ?_)
          refine RA_yesB rfl rfl rfl rfl (h23) (OA_v (v := .int .i64 r12.2) rfl (V_move rfl) ?_)
          refine RA_yesB rfl rfl rfl rfl (h23) (OA_v (v := .bool (decide (r11.2 = r12.2))) rfl (V_eql rfl rfl) ?_)
          refine RA_step rfl (OA_v rfl (V_pickT rfl (h23) rfl) ?_)
          refine RA_nil ?_
          exact at_normal (St.mk1 (aeq rfl (aeq rfl (aeq rfl (aeq rfl (aeq rfl (aeq rfl (aeq (congrArg Value.bool (and_t hq22 (h23))) aeq0))))))) (Gh.sel [] rfl rfl))
        · refine RA_noB rfl rfl rfl rfl (bno h23) rfl ?_
          refine RA_noB rfl rfl rfl rfl (bno h23) rfl ?_
          refine RA_noB rfl rfl rfl rfl (bno h23) rfl ?_
          refine RA_step rfl (OA_v rfl (V_pickF rfl (bno h23) rfl) ?_)
          refine RA_nil ?_
          exact at_normal (St.mk1 (aeq rfl (aeq rfl (aeq rfl (aeq rfl (aeq rfl (aeq rfl (aeq (congrArg Value.bool (and_f hq22 (bno h23))) aeq0))))))) (Gh.sel [] rfl rfl))
      · rintro e ds As hst24
        refine RA.of_St rfl hst24 fun junk => ?_
        refine RA_step rfl (OA_v (v := .bool q22) rfl (V_move rfl) ?_)
        obtain ⟨q25, hq25, H⟩ := g_lt H
        refine RA_cut 4 (fun e ds As => St [(16, .int .i64 r13.2.1), (17, .int .i64 r13.2.2), (19, .int .i64 r14.2.1), (20, .int .i64 r14.2.2), (79, .bool q25)] [] e ds As) ?_ ?_
        · by_cases h26 : q22 = true
          · refine RA_yesB rfl rfl rfl rfl (h26) (OA_v (v := .int .i64 r13.1) rfl (V_move rfl) ?_)
            refine RA_yesB rfl rfl rfl rfl (h26) (OA_v (v := .int .i64 r14.1) rfl (V_move rfl) ?_)
            refine RA_yesB rfl rfl rfl rfl (h26) (OA_v (v := .bool (decide (r13.1 = r14.1))) rfl (V_eql rfl rfl) ?_)
            refine RA_step rfl (OA_v rfl (V_pickT rfl (h26) rfl) ?_)
            refine RA_nil ?_
            exact at_normal (St.mk1 (aeq rfl (aeq rfl (aeq rfl (aeq rfl (aeq (congrArg Value.bool (and_t hq25 (h26))) aeq0))))) (Gh.sel [] rfl rfl))
          · refine RA_noB rfl rfl rfl rfl (bno h26) rfl ?_
            refine RA_noB rfl rfl rfl rfl (bno h26) rfl ?_
            refine RA_noB rfl rfl rfl rfl (bno h26) rfl ?_
            refine RA_step rfl (OA_v rfl (V_pickF rfl (bno h26) rfl) ?_)
            refine RA_nil ?_
            exact at_normal (St.mk1 (aeq rfl (aeq rfl (aeq rfl (aeq rfl (aeq (congrArg Value.bool (and_f hq25 (bno h26))) aeq0))))) (Gh.sel [] rfl rfl))
        · rintro e ds As hst27
          refine RA.of_St rfl hst27 fun junk => ?_
          refine RA_step rfl (OA_v (v := .bool q25) rfl (V_move rfl) ?_)
          obtain ⟨q28, hq28, H⟩ := g_lt H
          refine RA_cut 4 (fun e ds As => St [(17, .int .i64 r13.2.2), (20, .int .i64 r14.2.2), (84, .bool q28)] [] e ds As) ?_ ?_
          · by_cases h29 : q25 = true
            · refine RA_yesB rfl rfl rfl rfl (h29) (OA_v (v := .int .i64 r13.2.1) rfl (V_move rfl) ?_)
              refine RA_yesB rfl rfl rfl rfl (h29) (OA_v (v := .int .i64 r14.2.1) rfl (V_move rfl) ?_)
              refine RA_yesB rfl rfl rfl rfl (h29) (OA_v (v := .bool (decide (r13.2.1 = r14.2.1))) rfl (V_eql rfl rfl) ?_)
              refine RA_step rfl (OA_v rfl (V_pickT rfl (h29) rfl) ?_)
              refine RA_nil ?_
              exact at_normal (St.mk1 (aeq rfl (aeq rfl (aeq (congrArg Value.bool (and_t hq28 (h29))) aeq0))) (Gh.sel [] rfl rfl))
            · refine RA_noB rfl rfl rfl rfl (bno h29) rfl ?_
              refine RA_noB rfl rfl rfl rfl (bno h29) rfl ?_
              refine RA_noB rfl rfl rfl rfl (bno h29) rfl ?_
              refine RA_step rfl (OA_v rfl (V_pickF rfl (bno h29) rfl) ?_)
              refine RA_nil ?_
              exact at_normal (St.mk1 (aeq rfl (aeq rfl (aeq (congrArg Value.bool (and_f hq28 (bno h29))) aeq0))) (Gh.sel [] rfl rfl))
          · rintro e ds As hst30
            refine RA.of_St rfl hst30 fun junk => ?_
            refine RA_step rfl (OA_v (v := .bool q28) rfl (V_move rfl) ?_)
            obtain ⟨q31, hq31, H⟩ := g_lt H
            refine RA_cut 4 (fun e ds As => St [(89, .bool q31)] [] e ds As) ?_ ?_
            · by_cases h32 : q28 = true
              · refine RA_yesB rfl rfl rfl rfl (h32) (OA_v (v := .int .i64 r13.2.2) rfl (V_move rfl) ?_)
                refine RA_yesB rfl rfl rfl rfl (h32) (OA_v (v := .int .i64 r14.2.2) rfl (V_move rfl) ?_)
                refine RA_yesB rfl rfl rfl rfl (h32) (OA_v (v := .bool (decide (r13.2.2 = r14.2.2))) rfl (V_eql rfl rfl) ?_)
                refine RA_step rfl (OA_v rfl (V_pickT rfl (h32) rfl) ?_)
                refine RA_nil ?_
                exact at_normal (St.mk1 (aeq (congrArg Value.bool (and_t hq31 (h32))) aeq0) (Gh.sel [] rfl rfl))
              · refine RA_noB rfl rfl rfl rfl (bno h32) rfl ?_
                refine RA_noB rfl rfl rfl rfl (bno h32) rfl ?_
                refine RA_noB rfl rfl rfl rfl (bno h32) rfl ?_
                refine RA_step rfl (OA_v rfl (V_pickF rfl (bno h32) rfl) ?_)
                refine RA_nil ?_
                exact at_normal (St.mk1 (aeq (congrArg Value.bool (and_f hq31 (bno h32))) aeq0) (Gh.sel [] rfl rfl))
            · rintro e ds As hst33
              refine RA.of_St rfl hst33 fun junk => ?_
              refine RA_step rfl (OA_v (v := .bool q31) rfl (V_move rfl) ?_)
              obtain ⟨q34, H, Bq34⟩ := g_bind H
              refine RA_cut 2 (fun e ds As => St [(92, .bool q34)] [] e ds As) ?_ ?_
              · by_cases h35 : q31 = true
                · replace H := g_ift h35 H
                  obtain ⟨r36, C37, H⟩ := g_bind H
                  refine RA_yesB rfl rfl rfl rfl (h35) (OA_callA [] [] rfl (X_fn (vs := []) Try.func27 nm27 rfl rfl) rfl (F27.ok C37) rfl ?_)
                  rintro _ _ ⟨rfl, rfl⟩
                  refine RA_step rfl (OA_v rfl (V_pickT rfl (h35) rfl) ?_)
                  have hr_ := Option.some.inj H
                  subst hr_
                  refine RA_nil ?_
                  exact at_normal (St.mk1 (aeq rfl aeq0) (Gh.sel [] rfl rfl))
                · replace H := g_iff h35 H
                  refine RA_noB rfl rfl rfl rfl (bno h35) rfl ?_
                  refine RA_step rfl (OA_v rfl (V_pickF rfl (bno h35) rfl) ?_)
                  have hr_ := Option.some.inj H
                  subst hr_
                  refine RA_nil ?_
                  exact at_normal (St.mk1 (aeq rfl aeq0) (Gh.sel [] rfl rfl))
              · rintro e ds As hst38
                clear H
                have H := Bq34
                clear Bq34
                refine RA.of_St rfl hst38 fun junk => ?_
                refine RA_step rfl (OA_v (v := .bool q34) rfl (V_assign rfl) ?_)
                refine RA_nil ?_
                refine at_normal ?_
                refine SA_ret ?_
                have hr_ := Option.some.inj H
                subst hr_
                exact BQ_R1 [] rfl rfl (Gh.sel [] rfl rfl) ⟨rfl, rfl⟩
end Go.Proofs.Ytocjoegcfojjhaa.Hd

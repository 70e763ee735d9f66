/- What functions compute, and that they do: 6, 27. -/
import Derived.Test.YtocjoegcfojjhaaHc0
import Derived.Test.YtocjoegcfojjhaaHc1
import Derived.Test.YtocjoegcfojjhaaHc2
namespace Go.Proofs.Ytocjoegcfojjhaa.Hc
open Go Go.RowKit Go.Proofs.Ytocjoegcfojjhaa.SL
set_option linter.unusedVariables false
set_option linter.unusedSimpArgs false
attribute [local irreducible] IntKind.wrap minI maxI shrI shlI andI orI xorI andNotI cplI rd sub bytesOf strOf slA
/-! ### function 27: wayfarer/wayfarerlaw04.anchored -/
def F27.f (k : Nat)  : Option (Bool) := (F20.f k ([1, 2, 2] : (List Int))).bind (fun r3 => (F24.f k ([1, 2, 2] : (List Int)) ([1] : (List Int)) 0).bind (fun r11 => lt ((decide (r3.2 = 0)) && (decide (r11.2.2 = 0))) fun q12 => lt (q12 && (decide (r11.1 = 1))) fun q15 => lt (q15 && (decide (r11.2.1 = 2))) fun q18 => lt (q18 && (decide ((r3.1.length : Int) = 3))) fun q21 => (if q21 = true then (if 0 ≤ (1 : Int) ∧ (1 : Int) < (r3.1.length : Int) then (some (decide ((rd r3.1 (1 : Int)) = (S52.mk 1 2)))) else none) else (some false) : Option Bool).bind (fun q24 => (if q24 = true then (if 0 ≤ (2 : Int) ∧ (2 : Int) < (r3.1.length : Int) then (some (decide ((rd r3.1 (2 : Int)) = (S52.mk 3 2)))) else none) else (some false) : Option Bool).bind (fun q29 => some (q29)))))
set_option maxHeartbeats 2000000 in
set_option maxRecDepth 100000 in
theorem F27.ok {k : Nat}  {r : Bool} (H : F27.f k  = some r) : SCA Try.prog 27 #[] [] (fun v B => v = .bool r ∧ B = []) := by
  refine SCA_of_body Try.func27 rfl rfl ?_
  unfold F27.f at H
  refine SA_seq ?_
  refine SA_region ?_
  refine RA_step rfl (OA_v (v := .bool false) rfl (V_assign rfl) ?_)
  refine RA_nil ?_
  refine at_normal ?_
  refine SA_seq ?_
  refine SA_region ?_
  refine RA_step rfl (OA_bs (kd := (Kd.int .i64)) (zv := (.int .i64 0)) (sz := 1) (cells := [.int .i64 1, .int .i64 2, .int .i64 2]) (xs := ([1, 2, 2] : (List Int))) rfl Try.underlying34 zero3 sz3 rfl rfl rfl (by kernel_rfl) rfl rfl (RL_enc (fun x_ : Int => [Value.int .i64 x_]) (fun _ _ => rfl) (by kernel_rfl)) fun b1 => ?_)
  obtain ⟨r3, C35, H⟩ := g_bind H
  refine RA_step rfl (OA.ghost (Gh.freeze (k := 0) rfl) (OA_callA [0] [0] rfl (X_fn (vs := [.slice (some ⟨b1, 0, none⟩) ([1, 2, 2] : (List Int)).length 3]) Try.func20 nm20 rfl rfl) rfl (F20.ok (l0 := ([1, 2, 2] : (List Int))) (A0 := some ⟨b1, 0, none⟩) (c0 := 3) C35) rfl ?_))
  rintro _ _ ⟨A4, c5, rfl, rfl⟩
  refine RA_step rfl (OA_v (v := .tuple #[.slice A4 r3.1.length c5, .int .i64 r3.2]) rfl (V_move rfl) ?_)
  refine RA_step rfl (OA_v (v := .slice A4 r3.1.length c5) rfl (V_extract rfl rfl) ?_)
  refine RA_step rfl (OA_v (v := .int .i64 r3.2) rfl (V_extract rfl rfl) ?_)
  refine RA_step rfl (OA_v (v := .slice A4 r3.1.length c5) rfl (V_assign rfl) ?_)
  refine RA_step rfl (OA_v (v := .int .i64 r3.2) rfl (V_assign rfl) ?_)
  refine RA_nil ?_
  refine at_normal ?_
  refine SA_seq ?_
  refine SA_region ?_
  refine RA_step rfl (OA_bs (kd := (Kd.int .i64)) (zv := (.int .i64 0)) (sz := 1) (cells := [.int .i64 1, .int .i64 2, .int .i64 2]) (xs := ([1, 2, 2] : (List Int))) rfl Try.underlying34 zero3 sz3 rfl rfl rfl (by kernel_rfl) rfl rfl (RL_enc (fun x_ : Int => [Value.int .i64 x_]) (fun _ _ => rfl) (by kernel_rfl)) fun b7 => ?_)
  refine RA_step rfl (OA_bs (kd := (Kd.int .u8)) (zv := (.int .u8 0)) (sz := 1) (cells := [.int .u8 1]) (xs := ([1] : (List Int))) rfl Try.underlying23 zero5 sz5 rfl rfl rfl (by kernel_rfl) rfl rfl (RL_enc (fun x_ : Int => [Value.int .u8 x_]) (fun _ _ => rfl) (by kernel_rfl)) fun b9 => ?_)
  obtain ⟨r11, C34, H⟩ := g_bind H
  refine RA_step rfl (OA.ghost (Gh.freeze (k := 2) rfl) (OA.ghost (Gh.freeze (k := 3) rfl) (OA_callA [2, 3] [0, 1, 2, 3] rfl (X_fn (vs := [.slice (some ⟨b7, 0, none⟩) ([1, 2, 2] : (List Int)).length 3, .slice (some ⟨b9, 0, none⟩) ([1] : (List Int)).length 1, .int .i64 0]) Try.func24 nm24 rfl rfl) rfl (F24.ok (l0 := ([1, 2, 2] : (List Int))) (A0 := some ⟨b7, 0, none⟩) (c0 := 3) (l1 := ([1] : (List Int))) (A1 := some ⟨b9, 0, none⟩) (c1 := 1) (a2 := 0) C34) rfl ?_)))
  rintro _ _ ⟨rfl, rfl⟩
  refine RA_step rfl (OA_v (v := .tuple #[.int .i64 r11.1, .int .i64 r11.2.1, .int .i64 r11.2.2]) rfl (V_move rfl) ?_)
  refine RA_step rfl (OA_v (v := .int .i64 r11.1) rfl (V_extract rfl rfl) ?_)
  refine RA_step rfl (OA_v (v := .int .i64 r11.2.1) rfl (V_extract rfl rfl) ?_)
  refine RA_step rfl (OA_v (v := .int .i64 r11.2.2) rfl (V_extract rfl rfl) ?_)
  refine RA_step rfl (OA_v (v := .int .i64 r11.1) rfl (V_assign rfl) ?_)
  refine RA_step rfl (OA_v (v := .int .i64 r11.2.1) rfl (V_assign rfl) ?_)
  refine RA_step rfl (OA_v (v := .int .i64 r11.2.2) rfl (V_assign rfl) ?_)
  refine RA_nil ?_
  refine at_normal ?_
  refine SA_seq ?_
  refine SA_region ?_
  refine RA_step rfl (OA_v (v := .int .i64 r3.2) rfl (V_move rfl) ?_)
  refine RA_step rfl (OA_v (v := .bool (decide (r3.2 = 0))) rfl (V_eql rfl rfl) ?_)
  refine RA_step rfl (OA_v (v := .bool (decide (r3.2 = 0))) rfl (V_move rfl) ?_)
  obtain ⟨q12, hq12, H⟩ := g_lt H
  refine RA_cut 3 (fun e ds As => St [(1, .slice A4 r3.1.length c5), (3, .int .i64 r11.1), (4, .int .i64 r11.2.1), (23, .bool q12)] [Buf k52 52 A4 c5 r3.1] e ds As) ?_ ?_
  · by_cases h13 : r3.2 = 0
    · refine RA_yesB rfl rfl rfl rfl (dec_t h13) (OA_v (v := .int .i64 r11.2.2) rfl (V_move rfl) ?_)
      refine RA_yesB rfl rfl rfl rfl (dec_t h13) (OA_v (v := .bool (decide (r11.2.2 = 0))) rfl (V_eql rfl rfl) ?_)
      refine RA_step rfl (OA_v rfl (V_pickT rfl (dec_t h13) rfl) ?_)
      refine RA_nil ?_
      exact at_normal (St.mk1 (aeq rfl (aeq rfl (aeq rfl (aeq (congrArg Value.bool (and_t hq12 (dec_t h13))) aeq0)))) (Gh.sel [0] rfl rfl))
    · refine RA_noB rfl rfl rfl rfl (dec_f h13) rfl ?_
      refine RA_noB rfl rfl rfl rfl (dec_f h13) rfl ?_
      refine RA_step rfl (OA_v rfl (V_pickF rfl (dec_f h13) rfl) ?_)
      refine RA_nil ?_
      exact at_normal (St.mk1 (aeq rfl (aeq rfl (aeq rfl (aeq (congrArg Value.bool (and_f hq12 (dec_f h13))) aeq0)))) (Gh.sel [0] rfl rfl))
  · rintro e ds As hst14
    refine RA.of_St rfl hst14 fun junk => ?_
    refine RA_step rfl (OA_v (v := .bool q12) rfl (V_move rfl) ?_)
    obtain ⟨q15, hq15, H⟩ := g_lt H
    refine RA_cut 3 (fun e ds As => St [(1, .slice A4 r3.1.length c5), (4, .int .i64 r11.2.1), (27, .bool q15)] [Buf k52 52 A4 c5 r3.1] e ds As) ?_ ?_
    · by_cases h16 : q12 = true
      · refine RA_yesB rfl rfl rfl rfl (h16) (OA_v (v := .int .i64 r11.1) rfl (V_move rfl) ?_)
        refine RA_yesB rfl rfl rfl rfl (h16) (OA_v (v := .bool (decide (r11.1 = 1))) rfl (V_eql rfl rfl) ?_)
        refine RA_step rfl (OA_v rfl (V_pickT rfl (h16) rfl) ?_)
        refine RA_nil ?_
        exact at_normal (St.mk1 (aeq rfl (aeq rfl (aeq (congrArg Value.bool (and_t hq15 (h16))) aeq0))) (Gh.sel [0] rfl rfl))
      · refine RA_noB rfl rfl rfl rfl (bno h16) rfl ?_
        refine RA_noB rfl rfl rfl rfl (bno h16) rfl ?_
        refine RA_step rfl (OA_v rfl (V_pickF rfl (bno h16) rfl) ?_)
        refine RA_nil ?_
        exact at_normal (St.mk1 (aeq rfl (aeq rfl (aeq (congrArg Value.bool (and_f hq15 (bno h16))) aeq0))) (Gh.sel [0] rfl rfl))
    · rintro e ds As hst17
      refine RA.of_St rfl hst17 fun junk => ?_
      refine RA_step rfl (OA_v (v := .bool q15) rfl (V_move rfl) ?_)
      obtain ⟨q18, hq18, H⟩ := g_lt H
      refine RA_cut 3 (fun e ds As => St [(1, .slice A4 r3.1.length c5), (31, .bool q18)] [Buf k52 52 A4 c5 r3.1] e ds As) ?_ ?_
      · by_cases h19 : q15 = true
        · refine RA_yesB rfl rfl rfl rfl (h19) (OA_v (v := .int .i64 r11.2.1) rfl (V_move rfl) ?_)
          refine RA_yesB rfl rfl rfl rfl (h19) (OA_v (v := .bool (decide (r11.2.1 = 2))) rfl (V_eql rfl rfl) ?_)
          refine RA_step rfl (OA_v rfl (V_pickT rfl (h19) rfl) ?_)
          refine RA_nil ?_
          exact at_normal (St.mk1 (aeq rfl (aeq (congrArg Value.bool (and_t hq18 (h19))) aeq0)) (Gh.sel [0] rfl rfl))
        · refine RA_noB rfl rfl rfl rfl (bno h19) rfl ?_
          refine RA_noB rfl rfl rfl rfl (bno h19) rfl ?_
          refine RA_step rfl (OA_v rfl (V_pickF rfl (bno h19) rfl) ?_)
          refine RA_nil ?_
          exact at_normal (St.mk1 (aeq rfl (aeq (congrArg Value.bool (and_f hq18 (bno h19))) aeq0)) (Gh.sel [0] rfl rfl))
      · rintro e ds As hst20
        refine RA.of_St rfl hst20 fun junk => ?_
        refine RA_step rfl (OA_v (v := .bool q18) rfl (V_move rfl) ?_)
        obtain ⟨q21, hq21, H⟩ := g_lt H
        refine RA_cut 4 (fun e ds As => St [(1, .slice A4 r3.1.length c5), (36, .bool q21)] [Buf k52 52 A4 c5 r3.1] e ds As) ?_ ?_
        · by_cases h22 : q18 = true
          · refine RA_yesB rfl rfl rfl rfl (h22) (OA_v (v := .slice A4 r3.1.length c5) rfl (V_move rfl) ?_)
            refine RA_yesB rfl rfl rfl rfl (h22) (OA_v (v := .int .i64 (r3.1.length : Int)) rfl (V_len Try.underlying35 rfl) ?_)
            refine RA_yesB rfl rfl rfl rfl (h22) (OA_v (v := .bool (decide ((r3.1.length : Int) = 3))) rfl (V_eql rfl rfl) ?_)
            refine RA_step rfl (OA_v rfl (V_pickT rfl (h22) rfl) ?_)
            refine RA_nil ?_
            exact at_normal (St.mk1 (aeq rfl (aeq (congrArg Value.bool (and_t hq21 (h22))) aeq0)) (Gh.sel [0] rfl rfl))
          · refine RA_noB rfl rfl rfl rfl (bno h22) rfl ?_
            refine RA_noB rfl rfl rfl rfl (bno h22) rfl ?_
            refine RA_noB rfl rfl rfl rfl (bno h22) rfl ?_
            refine RA_step rfl (OA_v rfl (V_pickF rfl (bno h22) rfl) ?_)
            refine RA_nil ?_
            exact at_normal (St.mk1 (aeq rfl (aeq (congrArg Value.bool (and_f hq21 (bno h22))) aeq0)) (Gh.sel [0] rfl rfl))
        · rintro e ds As hst23
          refine RA.of_St rfl hst23 fun junk => ?_
          refine RA_step rfl (OA_v (v := .bool q21) rfl (V_move rfl) ?_)
          obtain ⟨q24, H, Bq24⟩ := g_bind H
          refine RA_cut 6 (fun e ds As => St [(1, .slice A4 r3.1.length c5), (43, .bool q24)] [Buf k52 52 A4 c5 r3.1] e ds As) ?_ ?_
          · by_cases h25 : q21 = true
            · replace H := g_ift h25 H
              refine RA_yesB rfl rfl rfl rfl (h25) (OA_v (v := .slice A4 r3.1.length c5) rfl (V_move rfl) ?_)
              obtain ⟨⟨g26, g27⟩, H⟩ := g_pos H
              refine RA_yesB rfl rfl rfl rfl (h25) (OA_r rfl (VR_index (i := (1 : Int)) Try.underlying35 sz52 rfl rfl (Src.buf (k := 0) rfl) g26 g27) ?_)
              refine RA_yesB rfl rfl rfl rfl (h25) (OA_r rfl (VR_loadA_el (enc := enc52) (i := (1 : Int)) (j := (1 : Int).toNat * 2) (m := 0) (sz := 2) (vs := [.int .u64 ((rd r3.1 (1 : Int)).f0), .int .i64 ((rd r3.1 (1 : Int)).f1)]) Try.underlying52 rfl sz52 rfl rfl rfl (Src.buf (k := 0) rfl) g26 g27 (fun _ _ h => h) rfl) ?_)
              refine RA_yesB rfl rfl rfl rfl (h25) (OA_v (v := .agg #[.int .u64 1, .int .i64 2]) rfl (V_build (cells := [.int .u64 1, .int .i64 2]) zero52 Try.underlying52 plc52 (by kernel_rfl)) ?_)
              refine RA_yesB rfl rfl rfl rfl (h25) (OA_v (v := .bool (decide ((rd r3.1 (1 : Int)) = (S52.mk 1 2)))) rfl (V_eqlD (xs := [.int .u64 ((rd r3.1 (1 : Int)).f0), .int .i64 ((rd r3.1 (1 : Int)).f1)]) (ys := [.int .u64 1, .int .i64 2]) (r := ((((rd r3.1 (1 : Int)).f0) == 1) && ((((rd r3.1 (1 : Int)).f1) == 2) && true))) (p := (rd r3.1 (1 : Int)) = (S52.mk 1 2)) eqg52 rfl rfl (by kernel_rfl) (eqv52 (x := rd r3.1 (1 : Int)) (y := (S52.mk 1 2)))) ?_)
              refine RA_step rfl (OA_v rfl (V_pickT rfl (h25) rfl) ?_)
              have hr_ := Option.some.inj H
              subst hr_
              refine RA_nil ?_
              exact at_normal (St.mk1 (aeq rfl (aeq rfl aeq0)) (Gh.sel [0] rfl rfl))
            · replace H := g_iff h25 H
              refine RA_noB rfl rfl rfl rfl (bno h25) rfl ?_
              refine RA_noB rfl rfl rfl rfl (bno h25) rfl ?_
              refine RA_noB rfl rfl rfl rfl (bno h25) rfl ?_
              refine RA_noB rfl rfl rfl rfl (bno h25) rfl ?_
              refine RA_noB rfl rfl rfl rfl (bno h25) rfl ?_
              refine RA_step rfl (OA_v rfl (V_pickF rfl (bno h25) rfl) ?_)
              have hr_ := Option.some.inj H
              subst hr_
              refine RA_nil ?_
              exact at_normal (St.mk1 (aeq rfl (aeq rfl aeq0)) (Gh.sel [0] rfl rfl))
          · rintro e ds As hst28
            clear H
            have H := Bq24
            clear Bq24
            refine RA.of_St rfl hst28 fun junk => ?_
            refine RA_step rfl (OA_v (v := .bool q24) rfl (V_move rfl) ?_)
            obtain ⟨q29, H, Bq29⟩ := g_bind H
            refine RA_cut 6 (fun e ds As => St [(50, .bool q29)] [] e ds As) ?_ ?_
            · by_cases h30 : q24 = true
              · replace H := g_ift h30 H
                refine RA_yesB rfl rfl rfl rfl (h30) (OA_v (v := .slice A4 r3.1.length c5) rfl (V_move rfl) ?_)
                obtain ⟨⟨g31, g32⟩, H⟩ := g_pos H
                refine RA_yesB rfl rfl rfl rfl (h30) (OA_r rfl (VR_index (i := (2 : Int)) Try.underlying35 sz52 rfl rfl (Src.buf (k := 0) rfl) g31 g32) ?_)
                refine RA_yesB rfl rfl rfl rfl (h30) (OA_r rfl (VR_loadA_el (enc := enc52) (i := (2 : Int)) (j := (2 : Int).toNat * 2) (m := 0) (sz := 2) (vs := [.int .u64 ((rd r3.1 (2 : Int)).f0), .int .i64 ((rd r3.1 (2 : Int)).f1)]) Try.underlying52 rfl sz52 rfl rfl rfl (Src.buf (k := 0) rfl) g31 g32 (fun _ _ h => h) rfl) ?_)
                refine RA_yesB rfl rfl rfl rfl (h30) (OA_v (v := .agg #[.int .u64 3, .int .i64 2]) rfl (V_build (cells := [.int .u64 3, .int .i64 2]) zero52 Try.underlying52 plc52 (by kernel_rfl)) ?_)
                refine RA_yesB rfl rfl rfl rfl (h30) (OA_v (v := .bool (decide ((rd r3.1 (2 : Int)) = (S52.mk 3 2)))) rfl (V_eqlD (xs := [.int .u64 ((rd r3.1 (2 : Int)).f0), .int .i64 ((rd r3.1 (2 : Int)).f1)]) (ys := [.int .u64 3, .int .i64 2]) (r := ((((rd r3.1 (2 : Int)).f0) == 3) && ((((rd r3.1 (2 : Int)).f1) == 2) && true))) (p := (rd r3.1 (2 : Int)) = (S52.mk 3 2)) eqg52 rfl rfl (by kernel_rfl) (eqv52 (x := rd r3.1 (2 : Int)) (y := (S52.mk 3 2)))) ?_)
                refine RA_step rfl (OA_v rfl (V_pickT rfl (h30) rfl) ?_)
                have hr_ := Option.some.inj H
                subst hr_
                refine RA_nil ?_
                exact at_normal (St.mk1 (aeq rfl aeq0) (Gh.sel [] rfl rfl))
              · replace H := g_iff h30 H
                refine RA_noB rfl rfl rfl rfl (bno h30) rfl ?_
                refine RA_noB rfl rfl rfl rfl (bno h30) rfl ?_
                refine RA_noB rfl rfl rfl rfl (bno h30) rfl ?_
                refine RA_noB rfl rfl rfl rfl (bno h30) rfl ?_
                refine RA_noB rfl rfl rfl rfl (bno h30) rfl ?_
                refine RA_step rfl (OA_v rfl (V_pickF rfl (bno h30) rfl) ?_)
                have hr_ := Option.some.inj H
                subst hr_
                refine RA_nil ?_
                exact at_normal (St.mk1 (aeq rfl aeq0) (Gh.sel [] rfl rfl))
            · rintro e ds As hst33
              clear H
              have H := Bq29
              clear Bq29
              refine RA.of_St rfl hst33 fun junk => ?_
              refine RA_step rfl (OA_v (v := .bool q29) rfl (V_assign rfl) ?_)
              refine RA_nil ?_
              refine at_normal ?_
              refine SA_ret ?_
              have hr_ := Option.some.inj H
              subst hr_
              exact BQ_R1 [] rfl rfl (Gh.sel [] rfl rfl) ⟨rfl, rfl⟩

/-! ### function 6: wayfarer/wayfarerlaw04.HuffCosts -/
def F6.f (k : Nat) (l0 : (List Int)) (l1 : (List Int)) : Option (Bool) := (F28.f k l0 l1).bind (fun r3 => (F29.f k l0 l1).bind (fun r4 => lt ((decide (r3.1 = r4.1)) && (decide (r3.2 = r4.2))) fun q5 => (if q5 = true then ((F27.f k ).bind (fun r10 => some r10)) else (some false) : Option Bool).bind (fun q8 => some (q8))))
set_option maxHeartbeats 2000000 in
set_option maxRecDepth 100000 in
theorem F6.ok {k : Nat} {l0 : (List Int)} {l1 : (List Int)} {A0 : Option Addr} {c0 : Nat} {A1 : Option Addr} {c1 : Nat} {r : Bool} (H : F6.f k l0 l1 = some r) : SCA Try.prog 6 #[.slice A0 l0.length c0, .slice A1 l1.length c1] [Ro (Kd.int .i64) A0 c0 l0, Ro (Kd.int .i64) A1 c1 l1] (fun v B => v = .bool r ∧ B = []) := by
  refine SCA_of_body Try.func6 rfl rfl ?_
  unfold F6.f at H
  refine SA_seq ?_
  refine SA_region ?_
  refine RA_step rfl (OA_v (v := .bool false) rfl (V_assign rfl) ?_)
  refine RA_nil ?_
  refine at_normal ?_
  refine SA_seq ?_
  refine SA_region ?_
  refine RA_step rfl (OA_v (v := .slice A0 l0.length c0) rfl (V_move rfl) ?_)
  refine RA_step rfl (OA_v (v := .slice A1 l1.length c1) rfl (V_move rfl) ?_)
  obtain ⟨r3, C14, H⟩ := g_bind H
  refine RA_step rfl (OA_callA [0, 1] [0, 1] rfl (X_fn (vs := [.slice A0 l0.length c0, .slice A1 l1.length c1]) Try.func28 nm28 rfl rfl) rfl (F28.ok (l0 := l0) (A0 := A0) (c0 := c0) (l1 := l1) (A1 := A1) (c1 := c1) C14) rfl ?_)
  rintro _ _ ⟨rfl, rfl⟩
  refine RA_step rfl (OA_v (v := .tuple #[.int .i64 r3.1, .int .i64 r3.2]) rfl (V_move rfl) ?_)
  refine RA_step rfl (OA_v (v := .int .i64 r3.1) rfl (V_extract rfl rfl) ?_)
  refine RA_step rfl (OA_v (v := .int .i64 r3.2) rfl (V_extract rfl rfl) ?_)
  refine RA_step rfl (OA_v (v := .int .i64 r3.1) rfl (V_assign rfl) ?_)
  refine RA_step rfl (OA_v (v := .int .i64 r3.2) rfl (V_assign rfl) ?_)
  refine RA_nil ?_
  refine at_normal ?_
  refine SA_seq ?_
  refine SA_region ?_
  refine RA_step rfl (OA_v (v := .slice A0 l0.length c0) rfl (V_move rfl) ?_)
  refine RA_step rfl (OA_v (v := .slice A1 l1.length c1) rfl (V_move rfl) ?_)
  obtain ⟨r4, C13, H⟩ := g_bind H
  refine RA_step rfl (OA_callA [0, 1] [0, 1] rfl (X_fn (vs := [.slice A0 l0.length c0, .slice A1 l1.length c1]) Try.func29 nm29 rfl rfl) rfl (F29.ok (l0 := l0) (A0 := A0) (c0 := c0) (l1 := l1) (A1 := A1) (c1 := c1) C13) rfl ?_)
  rintro _ _ ⟨rfl, rfl⟩
  refine RA_step rfl (OA_v (v := .tuple #[.int .i64 r4.1, .int .i64 r4.2]) rfl (V_move rfl) ?_)
  refine RA_step rfl (OA_v (v := .int .i64 r4.1) rfl (V_extract rfl rfl) ?_)
  refine RA_step rfl (OA_v (v := .int .i64 r4.2) rfl (V_extract rfl rfl) ?_)
  refine RA_step rfl (OA_v (v := .int .i64 r4.1) rfl (V_assign rfl) ?_)
  refine RA_step rfl (OA_v (v := .int .i64 r4.2) rfl (V_assign rfl) ?_)
  refine RA_nil ?_
  refine at_normal ?_
  refine SA_seq ?_
  refine SA_region ?_
  refine RA_step rfl (OA_v (v := .int .i64 r3.1) rfl (V_move rfl) ?_)
  refine RA_step rfl (OA_v (v := .int .i64 r4.1) rfl (V_move rfl) ?_)
  refine RA_step rfl (OA_v (v := .bool (decide (r3.1 = r4.1))) rfl (V_eql rfl rfl) ?_)
  refine RA_step rfl (OA_v (v := .bool (decide (r3.1 = r4.1))) rfl (V_move rfl) ?_)
  obtain ⟨q5, hq5, H⟩ := g_lt H
  refine RA_cut 4 (fun e ds As => St [(28, .bool q5)] [] e ds As) ?_ ?_
  · by_cases h6 : r3.1 = r4.1
    · refine RA_yesB rfl rfl rfl rfl (dec_t h6) (OA_v (v := .int .i64 r3.2) rfl (V_move rfl) ?_)
      refine RA_yesB rfl rfl rfl rfl (dec_t h6) (OA_v (v := .int .i64 r4.2) rfl (V_move rfl) ?_)
      refine RA_yesB rfl rfl rfl rfl (dec_t h6) (OA_v (v := .bool (decide (r3.2 = r4.2))) rfl (V_eql rfl rfl) ?_)
      refine RA_step rfl (OA_v rfl (V_pickT rfl (dec_t h6) rfl) ?_)
      refine RA_nil ?_
      exact at_normal (St.mk1 (aeq (congrArg Value.bool (and_t hq5 (dec_t h6))) aeq0) (Gh.sel [] rfl rfl))
    · refine RA_noB rfl rfl rfl rfl (dec_f h6) rfl ?_
      refine RA_noB rfl rfl rfl rfl (dec_f h6) rfl ?_
      refine RA_noB rfl rfl rfl rfl (dec_f h6) rfl ?_
      refine RA_step rfl (OA_v rfl (V_pickF rfl (dec_f h6) rfl) ?_)
      refine RA_nil ?_
      exact at_normal (St.mk1 (aeq (congrArg Value.bool (and_f hq5 (dec_f h6))) aeq0) (Gh.sel [] rfl rfl))
  · rintro e ds As hst7
    refine RA.of_St rfl hst7 fun junk => ?_
    refine RA_step rfl (OA_v (v := .bool q5) rfl (V_move rfl) ?_)
    obtain ⟨q8, H, Bq8⟩ := g_bind H
    refine RA_cut 2 (fun e ds As => St [(31, .bool q8)] [] e ds As) ?_ ?_
    · by_cases h9 : q5 = true
      · replace H := g_ift h9 H
        obtain ⟨r10, C11, H⟩ := g_bind H
        refine RA_yesB rfl rfl rfl rfl (h9) (OA_callA [] [] rfl (X_fn (vs := []) Try.func27 nm27 rfl rfl) rfl (F27.ok C11) rfl ?_)
        rintro _ _ ⟨rfl, rfl⟩
        refine RA_step rfl (OA_v rfl (V_pickT rfl (h9) rfl) ?_)
        have hr_ := Option.some.inj H
        subst hr_
        refine RA_nil ?_
        exact at_normal (St.mk1 (aeq rfl aeq0) (Gh.sel [] rfl rfl))
      · replace H := g_iff h9 H
        refine RA_noB rfl rfl rfl rfl (bno h9) rfl ?_
        refine RA_step rfl (OA_v rfl (V_pickF rfl (bno h9) rfl) ?_)
        have hr_ := Option.some.inj H
        subst hr_
        refine RA_nil ?_
        exact at_normal (St.mk1 (aeq rfl aeq0) (Gh.sel [] rfl rfl))
    · rintro e ds As hst12
      clear H
      have H := Bq8
      clear Bq8
      refine RA.of_St rfl hst12 fun junk => ?_
      refine RA_step rfl (OA_v (v := .bool q8) rfl (V_assign rfl) ?_)
      refine RA_nil ?_
      refine at_normal ?_
      refine SA_ret ?_
      have hr_ := Option.some.inj H
      subst hr_
      exact BQ_R1 [] rfl rfl (Gh.sel [] rfl rfl) ⟨rfl, rfl⟩
end Go.Proofs.Ytocjoegcfojjhaa.Hc

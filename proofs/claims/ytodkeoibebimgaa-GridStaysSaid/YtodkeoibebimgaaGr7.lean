/- What functions compute, and that they do: 37, 43, 46, 47, 77w0, 88w0. -/
import Derived.Test.YtodkeoibebimgaaGr0
import Derived.Test.YtodkeoibebimgaaGr1
import Derived.Test.YtodkeoibebimgaaGr3
import Derived.Test.YtodkeoibebimgaaGr4
import Derived.Test.YtodkeoibebimgaaGr5
import Derived.Test.YtodkeoibebimgaaGr6
namespace Go.Proofs.Ytodkeoibebimgaa.Gr
open Go Go.RowKit Go.Proofs.Ytodkeoibebimgaa.SL
set_option linter.unusedVariables false
set_option linter.unusedSimpArgs false
attribute [local irreducible] IntKind.wrap minI maxI shrI shlI andI orI xorI andNotI cplI rd sub bytesOf strOf slA
/-! ### function 46: wayfarer/wayfarerref15.Write -/
def F46.l0 (l4 : (List S76)) : Nat → S67 → Int → Option (Out (S67 × Int) (S67))
  | 0, _, _ => none
  | k + 1, x10_23, x12_23 => if x12_23 < (l4.length : Int) then (if 0 ≤ x12_23 ∧ x12_23 < (l4.length : Int) then ((F68.f k (rd l4 x12_23)).bind (fun r34 => if (!r34) = true then (some (Out.ret (((S67.mk 0 0 ([] : (List S76))), 2)))) else (lt (IntKind.i64.wrap (x12_23 + 1)) fun n37 => F46.l0 l4 k x10_23 n37))) else none) else (some (Out.go x10_23))
def F46.f (k : Nat) (a0 : S67) (a1 : Int) (a2 : Int) (a3 : S70) (l4 : (List S76)) : Option (S67 × Int) := (F82.f k a0 a3 a1).bind (fun r9 => lt (r9 || (decide (a2 < 0))) fun q10 => lt (q10 || (decide (a2 ≥ a0.f0))) fun q13 => if q13 = true then (some (((S67.mk 0 0 ([] : (List S76))), 2))) else ((F46.l0 l4 k (S67.mk 0 0 ([] : (List S76))) 0 : Option (Out (S67 × Int) (S67))).bind (fun t18 => Out.el t18 (fun r_ => some r_) (fun s19 => (F36.f a0).bind (fun r40 => (F83b0.f r40 a1).bind (fun r48 => if (0 ≤ r48.1 ∧ 0 ≤ r48.2 ∧ r48.1 + r48.2 ≤ (r40.f2.length : Int)) then (if 0 ≤ a2 ∧ a2 ≤ r48.2 ∧ r48.2 ≤ r48.2 then (lt (over r40.f2 (r48.1 + a2).toNat (l4.take (r48.2 - a2).toNat)) fun n59 => ((F83b0.f (S67.mk r40.f0 r40.f1 n59) a1).bind (fun r60 => if (0 ≤ r60.1 ∧ 0 ≤ r60.2 ∧ r60.1 + r60.2 ≤ (n59.length : Int)) then ((F90w0.f k n59 r60.1 r60.2).bind (fun r65 => if r65.length = n59.length then (some (((S67.mk r40.f0 r40.f1 r65), 0))) else none)) else none))) else none) else none))))))
set_option maxHeartbeats 2000000 in
set_option maxRecDepth 100000 in
theorem F46.ok {k : Nat} {a0 : S67} {a1 : Int} {a2 : Int} {a3 : S70} {l4 : (List S76)} {A0_0 : Option Addr} {c0_0 : Nat} {A4 : Option Addr} {c4 : Nat} {r : S67 × Int} (H : F46.f k a0 a1 a2 a3 l4 = some r) : SCA Try.prog 46 #[.agg #[.int .i64 a0.f0, .int .i64 a0.f1, .slice A0_0 a0.f2.length c0_0], .int .i64 a1, .int .i64 a2, .agg #[.int .i64 a3.f0, .int .i64 a3.f1, .bool a3.f2, .bool a3.f3, .bool a3.f4, .bool a3.f5, .bool a3.f6, .bool a3.f7, .bool a3.f8, .bool a3.f9], .slice A4 l4.length c4] [Ro k76 A0_0 c0_0 a0.f2, Ro k76 A4 c4 l4] (fun v B => ∃ (A0_0_ : Option Addr) (c0_0_ : Nat), v = .tuple #[.agg #[.int .i64 r.1.f0, .int .i64 r.1.f1, .slice A0_0_ r.1.f2.length c0_0_], .int .i64 r.2] ∧ B = [Buf k76 76 A0_0_ c0_0_ r.1.f2]) := by
  refine SCA_of_body Try.func46 rfl rfl ?_
  unfold F46.f at H
  refine SA_seq ?_
  refine SA_region ?_
  refine RA_step rfl (OA_box rfl rfl fun b3 => ?_)
  refine RA_step rfl (OA_box rfl rfl fun b5 => ?_)
  refine RA_step rfl (OA_alloc rfl zero67 fun b7 => ?_)
  refine RA_step rfl (OA_v (v := .int .i64 0) rfl (V_assign rfl) ?_)
  refine RA_nil ?_
  refine at_normal ?_
  refine SA_seq ?_
  refine SA_seq ?_
  refine SA_region ?_
  refine RA_step rfl (OA_r rfl (VR_loadA_blk (b := b3) (m := 0) (k := 2) (vs := [.int .i64 a0.f0, .int .i64 a0.f1, .slice A0_0 a0.f2.length c0_0]) Try.underlying67 rfl sz67 rfl rfl rfl) ?_)
  refine RA_step rfl (OA_r rfl (VR_loadA_blk (b := b5) (m := 0) (k := 3) (vs := [.int .i64 a3.f0, .int .i64 a3.f1, .bool a3.f2, .bool a3.f3, .bool a3.f4, .bool a3.f5, .bool a3.f6, .bool a3.f7, .bool a3.f8, .bool a3.f9]) Try.underlying70 rfl sz70 rfl rfl rfl) ?_)
  refine RA_step rfl (OA_v (v := .int .i64 a1) rfl (V_move rfl) ?_)
  obtain ⟨r9, C71, H⟩ := g_bind H
  refine RA_step rfl (OA_callA [0] [0, 1, 2, 3, 4] rfl (X_fn (vs := [.agg #[.int .i64 a0.f0, .int .i64 a0.f1, .slice A0_0 a0.f2.length c0_0], .agg #[.int .i64 a3.f0, .int .i64 a3.f1, .bool a3.f2, .bool a3.f3, .bool a3.f4, .bool a3.f5, .bool a3.f6, .bool a3.f7, .bool a3.f8, .bool a3.f9], .int .i64 a1]) Try.func82 nm82 rfl rfl) rfl (F82.ok (a0 := a0) (A0_0 := A0_0) (c0_0 := c0_0) (a1 := a3) (a2 := a1) C71) rfl ?_)
  rintro _ _ ⟨rfl, rfl⟩
  refine RA_step rfl (OA_v (v := .bool r9) rfl (V_move rfl) ?_)
  obtain ⟨q10, hq10, H⟩ := g_lt H
  refine RA_cut 3 (fun e ds As => St [(1, .int .i64 a1), (2, .int .i64 a2), (4, .slice A4 l4.length c4), (5, .pointer (some ⟨b3, 0, none⟩)), (10, .pointer (some ⟨b7, 0, none⟩)), (21, .bool q10)] [Ro k76 A4 c4 l4, Blk b3 67 [.int .i64 a0.f0, .int .i64 a0.f1, .slice A0_0 a0.f2.length c0_0], Ro k76 A0_0 c0_0 a0.f2, Blk b7 67 [.int .i64 0, .int .i64 0, .slice none 0 0]] e ds As) ?_ ?_
  · by_cases h11 : r9 = true
    · refine RA_noB rfl rfl rfl rfl (h11) rfl ?_
      refine RA_noB rfl rfl rfl rfl (h11) rfl ?_
      refine RA_step rfl (OA_v rfl (V_pickT rfl (h11) rfl) ?_)
      refine RA_nil ?_
      exact at_normal (St.mk1 (aeq rfl (aeq rfl (aeq rfl (aeq rfl (aeq rfl (aeq (congrArg Value.bool (or_t hq10 (h11))) aeq0)))))) (Gh.sel [1, 2, 0, 4] rfl rfl))
    refine RA_yesB rfl rfl rfl rfl (bno h11) (OA_v (v := .int .i64 a2) rfl (V_move rfl) ?_)
    refine RA_yesB rfl rfl rfl rfl (bno h11) (OA_v (v := .bool (decide (a2 < 0))) rfl (V_lss rfl rfl) ?_)
    refine RA_step rfl (OA_v rfl (V_pickF rfl (bno h11) rfl) ?_)
    refine RA_nil ?_
    exact at_normal (St.mk1 (aeq rfl (aeq rfl (aeq rfl (aeq rfl (aeq rfl (aeq (congrArg Value.bool (or_f hq10 (bno h11))) aeq0)))))) (Gh.sel [1, 2, 0, 4] rfl rfl))
  rintro e ds As hst12
  refine RA.of_St rfl hst12 fun junk => ?_
  refine RA_step rfl (OA_v (v := .bool q10) rfl (V_move rfl) ?_)
  obtain ⟨q13, hq13, H⟩ := g_lt H
  refine RA_cut 5 (fun e ds As => St [(1, .int .i64 a1), (2, .int .i64 a2), (4, .slice A4 l4.length c4), (5, .pointer (some ⟨b3, 0, none⟩)), (10, .pointer (some ⟨b7, 0, none⟩)), (27, .bool q13)] [Ro k76 A4 c4 l4, Blk b3 67 [.int .i64 a0.f0, .int .i64 a0.f1, .slice A0_0 a0.f2.length c0_0], Ro k76 A0_0 c0_0 a0.f2, Blk b7 67 [.int .i64 0, .int .i64 0, .slice none 0 0]] e ds As) ?_ ?_
  · by_cases h14 : q10 = true
    · refine RA_noB rfl rfl rfl rfl (h14) rfl ?_
      refine RA_noB rfl rfl rfl rfl (h14) rfl ?_
      refine RA_noB rfl rfl rfl rfl (h14) rfl ?_
      refine RA_noB rfl rfl rfl rfl (h14) rfl ?_
      refine RA_step rfl (OA_v rfl (V_pickT rfl (h14) rfl) ?_)
      refine RA_nil ?_
      exact at_normal (St.mk1 (aeq rfl (aeq rfl (aeq rfl (aeq rfl (aeq rfl (aeq (congrArg Value.bool (or_t hq13 (h14))) aeq0)))))) (Gh.sel [0, 1, 2, 3] rfl rfl))
    refine RA_yesB rfl rfl rfl rfl (bno h14) (OA_v (v := .int .i64 a2) rfl (V_move rfl) ?_)
    refine RA_yesB rfl rfl rfl rfl (bno h14) (OA_v (v := .pointer (some ⟨b3, 0, none⟩)) rfl (V_fieldAddrN (B := ⟨b3, 0, none⟩) (m := 0) (o := 0) Try.underlying67 rfl nz3 rfl rfl) ?_)
    refine RA_yesB rfl rfl rfl rfl (bno h14) (OA_r rfl (VR_load_blk (b := b3) (m := 0) (k := 1) Try.underlying3 rfl rfl rfl rfl) ?_)
    refine RA_yesB rfl rfl rfl rfl (bno h14) (OA_v (v := .bool (decide (a2 ≥ a0.f0))) rfl (V_geq rfl rfl) ?_)
    refine RA_step rfl (OA_v rfl (V_pickF rfl (bno h14) rfl) ?_)
    refine RA_nil ?_
    exact at_normal (St.mk1 (aeq rfl (aeq rfl (aeq rfl (aeq rfl (aeq rfl (aeq (congrArg Value.bool (or_f hq13 (bno h14))) aeq0)))))) (Gh.sel [0, 1, 2, 3] rfl rfl))
  rintro e ds As hst15
  refine RA_nil ?_
  refine at_normal ?_
  refine SA.of_St hst15 fun junk => ?_
  by_cases h16 : q13 = true
  · replace H := g_ift h16 H
    refine SA_condTb rfl h16 ?_
    refine SA_seq ?_
    refine SA_region ?_
    refine RA_step rfl (OA_v (v := .agg #[.int .i64 0, .int .i64 0, .slice none 0 0]) rfl (V_build (cells := [.int .i64 0, .int .i64 0, .slice none 0 0]) zero67 Try.underlying67 plc67 (by kernel_rfl)) ?_)
    refine RA_step rfl (OA_st (b := b7) (m := 0) (k := 3) (vs := [.int .i64 0, .int .i64 0, .slice none 0 0]) (cs' := [.int .i64 0, .int .i64 0, .slice none 0 0]) rfl rfl rfl rfl rfl rfl sz67 rfl rfl ?_)
    refine RA_step rfl (OA_v (v := .int .i64 2) rfl (V_assign rfl) ?_)
    refine RA_nil ?_
    refine at_normal ?_
    refine SA_ret ?_
    refine thn_ret ?_
    have hr_ := Option.some.inj H
    subst hr_
    exact BQ_RL (rs := [.cell 10 67, .tmp 11]) (vs := [.agg #[.int .i64 0, .int .i64 0, .slice none 0 0], .int .i64 2]) [Buf k76 76 none 0 ([] : (List S76))] rfl ⟨RV.cell (k := 3) rfl rfl Try.underlying67 rfl sz67, RV.tmp rfl, trivial⟩ rfl ((Gh.nilBuf k76 76).trans (Gh.sel [4] rfl rfl)) ⟨none, 0, rfl, rfl⟩
  replace H := g_iff h16 H
  refine SA_condFb rfl h16 ?_
  refine SA_skip ?_
  refine at_normal ?_
  refine SA_seq ?_
  refine SA_seq ?_
  refine SA_region ?_
  refine RA_step rfl (OA_v (v := .int .i64 0) rfl (V_assign rfl) ?_)
  refine RA_nil ?_
  refine at_normal ?_
  obtain ⟨t18, H, Bt18⟩ := g_bind H
  refine SA_mid (fun e ds As => ∃ (s19 : S67), t18 = Out.go s19 ∧ ∃ (b20 : Nat), ∃ (A21 : Option Addr) (c22 : Nat), St [(1, .int .i64 a1), (2, .int .i64 a2), (4, .slice A4 l4.length c4), (5, .pointer (some ⟨b3, 0, none⟩)), (10, .pointer (some ⟨b20, 0, none⟩))] [Blk b20 67 [.int .i64 s19.f0, .int .i64 s19.f1, .slice A21 s19.f2.length c22], Buf k76 76 A21 c22 s19.f2, Ro k76 A4 c4 l4, Blk b3 67 [.int .i64 a0.f0, .int .i64 a0.f1, .slice A0_0 a0.f2.length c0_0], Ro k76 A0_0 c0_0 a0.f2] e ds As) ?_ ?_
  · refine SA_block ?_
    refine SA_loop (fun k_ e ds As => ∃ (x10_23 : S67) (x12_23 : Int), ∃ (b24 : Nat), ∃ (A25 : Option Addr) (c26 : Nat), F46.l0 l4 k_ x10_23 x12_23 = some t18 ∧ St [(1, .int .i64 a1), (2, .int .i64 a2), (4, .slice A4 l4.length c4), (5, .pointer (some ⟨b3, 0, none⟩)), (10, .pointer (some ⟨b24, 0, none⟩)), (12, .int .i64 x12_23)] [Ro k76 A4 c4 l4, Blk b3 67 [.int .i64 a0.f0, .int .i64 a0.f1, .slice A0_0 a0.f2.length c0_0], Ro k76 A0_0 c0_0 a0.f2, Blk b24 67 [.int .i64 x10_23.f0, .int .i64 x10_23.f1, .slice A25 x10_23.f2.length c26], Buf k76 76 A25 c26 x10_23.f2] e ds As) (k := k) ⟨_, _, b7, none, 0, H, St.mk1 (aeq rfl (aeq rfl (aeq rfl (aeq rfl (aeq rfl (aeq rfl aeq0)))))) ((Gh.nilBuf k76 76).trans (Gh.sel [0, 1, 2, 3, 4] rfl rfl))⟩ ?_
    clear H
    rintro k29 e ds As ⟨x10_23, x12_23, b24, A25, c26, H, hst30⟩
    obtain _ | k29 := k29
    · cases H
    rw [F46.l0] at H
    refine SA.of_St hst30 fun junk => ?_
    refine SA_seq ?_
    refine SA_seq ?_
    refine SA_region ?_
    refine RA_step rfl (OA_v (v := .int .i64 x12_23) rfl (V_move rfl) ?_)
    refine RA_step rfl (OA_v (v := .slice A4 l4.length c4) rfl (V_move rfl) ?_)
    refine RA_step rfl (OA_v (v := .int .i64 (l4.length : Int)) rfl (V_len Try.underlying65 rfl) ?_)
    refine RA_step rfl (OA_v (v := .bool (decide (x12_23 < (l4.length : Int)))) rfl (V_lss rfl rfl) ?_)
    refine RA_nil ?_
    refine at_normal ?_
    by_cases h31 : x12_23 < (l4.length : Int)
    · replace H := g_ift h31 H
      refine SA_condT rfl h31 ?_
      refine SA_skip ?_
      refine at_normal ?_
      refine SA_seq ?_
      refine SA_block ?_
      refine SA_seq ?_
      refine SA_region ?_
      refine RA_step rfl (OA_v (v := .slice A4 l4.length c4) rfl (V_move rfl) ?_)
      refine RA_step rfl (OA_v (v := .int .i64 x12_23) rfl (V_move rfl) ?_)
      obtain ⟨⟨g32, g33⟩, H⟩ := g_pos H
      refine RA_step rfl (OA_r rfl (VR_index (i := x12_23) Try.underlying65 sz76 rfl rfl (Src.ro (k := 0) rfl) g32 g33) ?_)
      refine RA_step rfl (OA_r rfl (VR_loadA_el (enc := enc76) (i := x12_23) (j := x12_23.toNat * 15) (m := 0) (sz := 15) (vs := (.int .i32 ((rd l4 x12_23).f0) :: .int .i32 (((rd l4 x12_23).f1).f0) :: .int .i32 (((rd l4 x12_23).f1).f1) :: .int .i32 (((rd l4 x12_23).f1).f2) :: .int .u8 ((rd l4 x12_23).f2) :: .int .i64 (((rd l4 x12_23).f3).f0) :: .int .i64 (((rd l4 x12_23).f3).f1) :: .bool (((rd l4 x12_23).f3).f2) :: .bool (((rd l4 x12_23).f3).f3) :: .bool (((rd l4 x12_23).f3).f4) :: .bool (((rd l4 x12_23).f3).f5) :: .bool (((rd l4 x12_23).f3).f6) :: .bool (((rd l4 x12_23).f3).f7) :: .bool (((rd l4 x12_23).f3).f8) :: .bool (((rd l4 x12_23).f3).f9) :: [])) Try.underlying76 rfl sz76 rfl rfl rfl (Src.ro (k := 0) rfl) g32 g33 (fun _ _ h => h) rfl) ?_)
      obtain ⟨r34, C38, H⟩ := g_bind H
      refine RA_step rfl (OA_callA [] [0, 1, 2, 3, 4] rfl (X_fn (vs := [.agg (List.toArray (.int .i32 ((rd l4 x12_23).f0) :: .int .i32 (((rd l4 x12_23).f1).f0) :: .int .i32 (((rd l4 x12_23).f1).f1) :: .int .i32 (((rd l4 x12_23).f1).f2) :: .int .u8 ((rd l4 x12_23).f2) :: .int .i64 (((rd l4 x12_23).f3).f0) :: .int .i64 (((rd l4 x12_23).f3).f1) :: .bool (((rd l4 x12_23).f3).f2) :: .bool (((rd l4 x12_23).f3).f3) :: .bool (((rd l4 x12_23).f3).f4) :: .bool (((rd l4 x12_23).f3).f5) :: .bool (((rd l4 x12_23).f3).f6) :: .bool (((rd l4 x12_23).f3).f7) :: .bool (((rd l4 x12_23).f3).f8) :: .bool (((rd l4 x12_23).f3).f9) :: []))]) Try.func68 nm68 rfl rfl) rfl (F68.ok (a0 := rd l4 x12_23) C38) rfl ?_)
      rintro _ _ ⟨rfl, rfl⟩
      refine RA_step rfl (OA_v (v := .bool (!r34)) rfl (V_not rfl) ?_)
      refine RA_nil ?_
      refine at_normal ?_
      by_cases h35 : (!r34) = true
      · replace H := g_ift h35 H
        refine SA_condTb rfl h35 ?_
        refine SA_seq ?_
        refine SA_region ?_
        refine RA_step rfl (OA_v (v := .agg #[.int .i64 0, .int .i64 0, .slice none 0 0]) rfl (V_build (cells := [.int .i64 0, .int .i64 0, .slice none 0 0]) zero67 Try.underlying67 plc67 (by kernel_rfl)) ?_)
        refine RA_step rfl (OA_st (b := b24) (m := 0) (k := 3) (vs := [.int .i64 0, .int .i64 0, .slice none 0 0]) (cs' := [.int .i64 0, .int .i64 0, .slice none 0 0]) rfl rfl rfl rfl rfl rfl sz67 rfl rfl ?_)
        refine RA_step rfl (OA_v (v := .int .i64 2) rfl (V_assign rfl) ?_)
        refine RA_nil ?_
        refine at_normal ?_
        refine SA_ret ?_
        refine inb_ret ?_
        refine thn_ret ?_
        refine thn_ret ?_
        refine inb_ret ?_
        refine thn_ret ?_
        refine thn_ret ?_
        have hr_ := Option.some.inj H
        subst hr_
        have hb_ := el_ret Bt18
        have hr_ := Option.some.inj hb_
        clear hb_
        subst hr_
        exact BQ_RL (rs := [.cell 10 67, .tmp 11]) (vs := [.agg #[.int .i64 0, .int .i64 0, .slice none 0 0], .int .i64 2]) [Buf k76 76 none 0 ([] : (List S76))] rfl ⟨RV.cell (k := 3) rfl rfl Try.underlying67 rfl sz67, RV.tmp rfl, trivial⟩ rfl ((Gh.nilBuf k76 76).trans (Gh.sel [5] rfl rfl)) ⟨none, 0, rfl, rfl⟩
      replace H := g_iff h35 H
      refine SA_condFb rfl h35 ?_
      refine SA_skip ?_
      refine inb_normal ?_
      refine at_normal ?_
      refine SA_region ?_
      refine RA_step rfl (OA_v (v := .int .i64 x12_23) rfl (V_move rfl) ?_)
      refine RA_step rfl (OA_v (v := .int .i64 (IntKind.i64.wrap (x12_23 + 1))) rfl (V_add rfl rfl) ?_)
      obtain ⟨n37, hn37, H⟩ := g_lt H
      refine RA_step rfl (OA_v (v := .int .i64 n37) rfl (V_assign (v := .int .i64 n37) (congrArg (Value.int .i64) hn37.symm)) ?_)
      refine RA_nil ?_
      exact at_normal ⟨k29, Nat.lt_succ_self _, _, _, b24, A25, c26, H, St.mk1 (aeq rfl (aeq rfl (aeq rfl (aeq rfl (aeq rfl (aeq rfl aeq0)))))) (Gh.sel [0, 1, 2, 3, 4] rfl rfl)⟩
    replace H := g_iff h31 H
    refine SA_condF rfl h31 ?_
    refine SA_exit ?_
    refine thn_exit ?_
    refine thn_exit ?_
    refine inb_hit ?_
    have hr_ := Option.some.inj H
    subst hr_
    exact at_normal ⟨x10_23, rfl, b24, A25, c26, St.mk1 (aeq rfl (aeq rfl (aeq rfl (aeq rfl (aeq rfl aeq0))))) (Gh.sel [3, 4, 0, 1, 2] rfl rfl)⟩
  rintro e ds As ⟨s19, ht, b20, A21, c22, hst39⟩
  clear H
  subst ht
  replace Bt18 := el_go Bt18
  have H := Bt18
  clear Bt18
  refine at_normal ?_
  refine SA.of_St hst39 fun junk => ?_
  refine SA_seq ?_
  refine SA_region ?_
  refine RA_step rfl (OA_r rfl (VR_loadA_blk (b := b3) (m := 0) (k := 3) (vs := [.int .i64 a0.f0, .int .i64 a0.f1, .slice A0_0 a0.f2.length c0_0]) Try.underlying67 rfl sz67 rfl rfl rfl) ?_)
  obtain ⟨r40, C70, H⟩ := g_bind H
  refine RA_step rfl (OA_callA [4] [0, 1, 2, 3, 4] rfl (X_fn (vs := [.agg #[.int .i64 a0.f0, .int .i64 a0.f1, .slice A0_0 a0.f2.length c0_0]]) Try.func36 nm36 rfl rfl) rfl (F36.ok (a0 := a0) (A0_0 := A0_0) (c0_0 := c0_0) C70) rfl ?_)
  rintro _ _ ⟨A41, c42, rfl, rfl⟩
  refine RA_step rfl (OA_alloc rfl zero67 fun b44 => ?_)
  refine RA_step rfl (OA_st (b := b44) (m := 0) (k := 6) (vs := [.int .i64 r40.f0, .int .i64 r40.f1, .slice A41 r40.f2.length c42]) (cs' := [.int .i64 r40.f0, .int .i64 r40.f1, .slice A41 r40.f2.length c42]) rfl rfl rfl rfl rfl rfl sz67 rfl rfl ?_)
  refine RA_nil ?_
  refine at_normal ?_
  refine SA_seq ?_
  refine SA.fact (cap_of (k := 0) rfl) fun hc46 => ?_
  refine SA.fact (cap_of (k := 2) rfl) fun hc47 => ?_
  refine SA_region ?_
  refine RA_step rfl (OA_r rfl (VR_loadA_blk (b := b44) (m := 0) (k := 6) (vs := [.int .i64 r40.f0, .int .i64 r40.f1, .slice A41 r40.f2.length c42]) Try.underlying67 rfl sz67 rfl rfl rfl) ?_)
  refine RA_step rfl (OA_v (v := .int .i64 a1) rfl (V_move rfl) ?_)
  obtain ⟨r48, C69, H⟩ := g_bind H
  obtain ⟨⟨hl52a, hl52b, hl52c⟩, H⟩ := g_pos H
  refine RA_step rfl (OA_callA [0] [1, 2, 3, 4, 5, 6] rfl (X_fn (vs := [.agg #[.int .i64 r40.f0, .int .i64 r40.f1, .slice A41 r40.f2.length c42], .int .i64 a1]) Try.func83 nm83 rfl rfl) rfl (F83b0.ok (a0 := r40) (A0_0 := A41) (c0_0 := c42) (a1 := a1) C69) rfl ?_)
  rintro _ _ ⟨V49, v50, hW51, rfl, rfl⟩
  refine RA_step rfl (OA_v (v := .int .i64 a2) rfl (V_move rfl) ?_)
  obtain ⟨⟨g53, g54, g55⟩, H⟩ := g_pos H
  refine RA_step rfl (OA_v (v := .slice (slA V49 a2 ((v50 : Nat) : Int) 15) (r48.2 - a2).toNat (((v50 : Nat) : Int).toNat - a2.toNat)) rfl (V_sliceW (l := r48.1) (m := r48.2) (a := a2) (b := r48.2) (q := ((v50 : Nat) : Int)) hW51 Try.underlying65 sz76 rfl rfl rfl rfl (.inr ⟨_, rfl⟩) (.inl ⟨rfl, rfl, rfl⟩) (.inl ⟨rfl, rfl⟩) g53 g54 g55) ?_)
  have hW58 : Win A41 (slA V49 a2 ((v50 : Nat) : Int) 15) 15 (r48.1 + a2) (r48.2 - a2) (((v50 : Nat) : Int).toNat - a2.toNat) := Win.sub hW51 g53 g54 g55 (.inl rfl)
  refine RA_step rfl (OA_v (v := .slice A4 l4.length c4) rfl (V_move rfl) ?_)
  obtain ⟨n59, hn59, H⟩ := g_lt H
  have hl_n59 : n59.length = r40.f2.length := by rw [hn59]; exact over_len (by rw [List.length_take]; omega)
  refine RA_step rfl (OA_copyV (k := 0) (l := r48.1 + a2) (m := r48.2 - a2) (xs := r40.f2) (ys := l4) n59 hn59 hW58 rfl Try.underlying65 sz76 rfl rfl rfl (by omega) rfl (Cpy.slice (Src.ro (k := 3) rfl)) ?_)
  try rewrite [← hl_n59]
  refine RA_nil ?_
  refine at_normal ?_
  refine SA_seq ?_
  refine SA_region ?_
  refine RA_step rfl (OA_r rfl (VR_loadA_blk (b := b44) (m := 0) (k := 6) (vs := [.int .i64 r40.f0, .int .i64 r40.f1, .slice A41 n59.length c42]) Try.underlying67 rfl sz67 rfl rfl rfl) ?_)
  refine RA_step rfl (OA_v (v := .int .i64 a1) rfl (V_move rfl) ?_)
  obtain ⟨r60, C68, H⟩ := g_bind H
  obtain ⟨⟨hl64a, hl64b, hl64c⟩, H⟩ := g_pos H
  refine RA_step rfl (OA_callA [0] [1, 2, 3, 4, 5, 6] rfl (X_fn (vs := [.agg #[.int .i64 r40.f0, .int .i64 r40.f1, .slice A41 n59.length c42], .int .i64 a1]) Try.func83 nm83 rfl rfl) rfl (F83b0.ok (a0 := (S67.mk r40.f0 r40.f1 n59)) (A0_0 := A41) (c0_0 := c42) (a1 := a1) C68) rfl ?_)
  rintro _ _ ⟨V61, v62, hW63, rfl, rfl⟩
  obtain ⟨r65, C67, H⟩ := g_bind H
  obtain ⟨hl66, H⟩ := g_pos H
  refine RA_step rfl (OA_callA [0] [1, 2, 3, 4, 5, 6] rfl (X_fn (vs := [.slice V61 r60.2.toNat v62]) Try.func90 nm90 rfl rfl) rfl (F90w0.ok (l0 := n59) (o0 := r60.1) (n0 := r60.2) (A0 := A41) (c0 := c42) (V0 := V61) (v0 := v62) (hw0 := hW63) C67) rfl ?_)
  rintro _ _ ⟨rfl, rfl⟩
  try rewrite [← hl66]
  refine RA_nil ?_
  refine at_normal ?_
  refine SA_seq ?_
  refine SA_region ?_
  refine RA_step rfl (OA_r rfl (VR_loadA_blk (b := b44) (m := 0) (k := 6) (vs := [.int .i64 r40.f0, .int .i64 r40.f1, .slice A41 r65.length c42]) Try.underlying67 rfl sz67 rfl rfl rfl) ?_)
  refine RA_step rfl (OA_st (b := b20) (m := 0) (k := 1) (vs := [.int .i64 r40.f0, .int .i64 r40.f1, .slice A41 r65.length c42]) (cs' := [.int .i64 r40.f0, .int .i64 r40.f1, .slice A41 r65.length c42]) rfl rfl rfl rfl rfl rfl sz67 rfl rfl ?_)
  refine RA_step rfl (OA_v (v := .int .i64 0) rfl (V_assign rfl) ?_)
  refine RA_nil ?_
  refine at_normal ?_
  refine SA_ret ?_
  have hr_ := Option.some.inj H
  subst hr_
  exact BQ_RL (rs := [.cell 10 67, .tmp 11]) (vs := [.agg #[.int .i64 r40.f0, .int .i64 r40.f1, .slice A41 r65.length c42], .int .i64 0]) [Buf k76 76 A41 c42 r65] rfl ⟨RV.cell (k := 1) rfl rfl Try.underlying67 rfl sz67, RV.tmp rfl, trivial⟩ rfl (Gh.sel [0] rfl rfl) ⟨A41, c42, rfl, rfl⟩

/-! ### function 77: (wayfarer/grid.Row).Erase -/
def F77w0.f (k : Nat) (l0 : (List S76)) (o0 : Int) (n0 : Int) (a1 : Int) (a2 : Int) (a3 : S70) : Option ((List S76)) := if 0 ≤ o0 ∧ 0 ≤ n0 ∧ o0 + n0 ≤ (l0.length : Int) then (if 0 ≤ a1 ∧ a1 ≤ a2 ∧ a2 ≤ n0 then ((F105w0.f k l0 (o0 + a1) (a2 - a1) a3).bind (fun r305 => if r305.length = l0.length then ((F81w0.f k r305 o0 n0).bind (fun r366 => if r366.length = r305.length then (some (r366)) else none)) else none)) else none) else none
set_option maxHeartbeats 2000000 in
set_option maxRecDepth 100000 in
theorem F77w0.ok {k : Nat} {l0 : (List S76)} {o0 : Int} {n0 : Int} {a1 : Int} {a2 : Int} {a3 : S70} {A0 V0 : Option Addr} {c0 v0 : Nat} (hw0 : Win A0 V0 15 o0 n0 v0) {r : (List S76)} (H : F77w0.f k l0 o0 n0 a1 a2 a3 = some r) : SCA Try.prog 77 #[.slice V0 n0.toNat v0, .int .i64 a1, .int .i64 a2, .agg #[.int .i64 a3.f0, .int .i64 a3.f1, .bool a3.f2, .bool a3.f3, .bool a3.f4, .bool a3.f5, .bool a3.f6, .bool a3.f7, .bool a3.f8, .bool a3.f9]] [Buf k76 76 A0 c0 l0] (fun v B => v = .tuple #[] ∧ B = [Buf k76 76 A0 c0 r]) := by
  refine SCA_of_body Try.func77 rfl rfl ?_
  unfold F77w0.f at H
  obtain ⟨⟨g369, g370, g371⟩, H⟩ := g_pos H
  have hcv_hw0 := hw0.cap
  refine SA_seq ?_
  refine SA_region ?_
  refine RA_step rfl (OA_box rfl rfl fun b2 => ?_)
  refine RA_nil ?_
  refine at_normal ?_
  refine SA_seq ?_
  refine SA.fact (cap_of (k := 0) rfl) fun hc4 => ?_
  refine SA_drawHq [0, 1, 2, 3, 4] #[[], [], [], [0, 1, 2], [], [0, 1, 2, 3, 4]] [1] [0] mixed rfl rfl rfl (PanOk.thn PanOk.body) fun I0 hS h0 hh0 w0 sH dd pk => ?_
  refine DH_take (v := .slice V0 n0.toNat v0) 0 (by kernel_rfl) rfl rfl (.no rfl) pk sH rfl (VR.ofV (V_move rfl)) ?_
  refine DH_take (v := .int .i64 a1) 1 (by kernel_rfl) rfl rfl (.no rfl) pk sH rfl (VR.ofV (V_move rfl)) ?_
  refine DH_take (v := .int .i64 a2) 2 (by kernel_rfl) rfl rfl (.no rfl) pk sH rfl (VR.ofV (V_move rfl)) ?_
  obtain ⟨⟨g185, g186, g187⟩, H⟩ := g_pos H
  refine DH_take (v := .slice (slA V0 a1 ((v0 : Nat) : Int) 15) (a2 - a1).toNat (((v0 : Nat) : Int).toNat - a1.toNat)) 3 (by kernel_rfl) rfl rfl (.no rfl) pk sH rfl (VR.ofV (V_sliceW (l := o0) (m := n0) (a := a1) (b := a2) (q := ((v0 : Nat) : Int)) hw0 Try.underlying148 sz76 rfl rfl rfl rfl (.inr ⟨_, rfl⟩) (.inr ⟨_, rfl⟩) (.inl ⟨rfl, rfl⟩) g185 g186 g187)) ?_
  have hW190 : Win A0 (slA V0 a1 ((v0 : Nat) : Int) 15) 15 (o0 + a1) (a2 - a1) (((v0 : Nat) : Int).toNat - a1.toNat) := Win.sub hw0 g185 g186 g187 (.inl rfl)
  refine DH_take 4 (by kernel_rfl) rfl rfl (.no rfl) pk sH rfl (VR_loadA_blk (b := b2) (m := 0) (k := 0) (vs := [.int .i64 a3.f0, .int .i64 a3.f1, .bool a3.f2, .bool a3.f3, .bool a3.f4, .bool a3.f5, .bool a3.f6, .bool a3.f7, .bool a3.f8, .bool a3.f9]) Try.underlying70 rfl sz70 rfl rfl rfl) ?_
  obtain ⟨r305, C307, H⟩ := g_bind H
  obtain ⟨hl306, H⟩ := g_pos H
  refine DH_one 5 dd (by kernel_rfl) rfl (.no rfl) (OA_callA [0] [] rfl (X_fn (vs := [.slice (slA V0 a1 ((v0 : Nat) : Int) 15) (a2 - a1).toNat (((v0 : Nat) : Int).toNat - a1.toNat), .agg #[.int .i64 a3.f0, .int .i64 a3.f1, .bool a3.f2, .bool a3.f3, .bool a3.f4, .bool a3.f5, .bool a3.f6, .bool a3.f7, .bool a3.f8, .bool a3.f9]]) Try.func105 nm105 rfl rfl) rfl (F105w0.ok (l0 := l0) (o0 := o0 + a1) (n0 := a2 - a1) (A0 := A0) (c0 := c0) (V0 := slA V0 a1 ((v0 : Nat) : Int) 15) (v0 := ((v0 : Nat) : Int).toNat - a1.toNat) (hw0 := hW190) (a1 := a3) C307) rfl ?_)
  rintro _ _ ⟨rfl, rfl⟩
  try rewrite [← hl306]
  try rewrite [← hl306] at sH
  refine DH_open dd sH ?_
  refine DN_done (by kernel_rfl) ?_
  refine at_normal ?_
  refine SA_region ?_
  refine RA_step rfl (OA_v (v := .slice V0 n0.toNat v0) rfl (V_move rfl) ?_)
  obtain ⟨r366, C368, H⟩ := g_bind H
  obtain ⟨hl367, H⟩ := g_pos H
  refine RA_step rfl (OA_callA [1] [0] rfl (X_fn (vs := [.slice V0 n0.toNat v0]) Try.func81 nm81 rfl rfl) rfl (F81w0.ok (l0 := r305) (o0 := o0) (n0 := n0) (A0 := A0) (c0 := c0) (V0 := V0) (v0 := v0) (hw0 := hw0) C368) rfl ?_)
  rintro _ _ ⟨rfl, rfl⟩
  try rewrite [← hl367]
  refine RA_nil ?_
  have hr_ := Option.some.inj H
  subst hr_
  exact BQ_n0 [Buf k76 76 A0 c0 r366] rfl (Gh.sel [0] rfl rfl) ⟨rfl, rfl⟩

/-! ### function 37: wayfarer/grid.Erase -/
def F37.f (k : Nat) (a0 : S67) (a1 : Int) (a2 : Int) (a3 : Int) (a4 : S70) : Option (S67 × Int) := (F76.f k a0 a1 a4).bind (fun r8 => if (0 ≤ r8.2.1.1 ∧ 0 ≤ r8.2.1.2 ∧ r8.2.1.1 + r8.2.1.2 ≤ (r8.1.f2.length : Int)) then (lt ((!r8.2.2) || (decide (a2 < 0))) fun q18 => lt (q18 || (decide (a2 > a3))) fun q21 => lt (q21 || (decide (a3 > a0.f0))) fun q24 => if q24 = true then (some (((S67.mk 0 0 ([] : (List S76))), 2))) else ((F77w0.f k r8.1.f2 r8.2.1.1 r8.2.1.2 a2 a3 a4).bind (fun r30 => if r30.length = r8.1.f2.length then (some (((S67.mk r8.1.f0 r8.1.f1 r30), 0))) else none))) else none)
set_option maxHeartbeats 2000000 in
set_option maxRecDepth 100000 in
theorem F37.ok {k : Nat} {a0 : S67} {a1 : Int} {a2 : Int} {a3 : Int} {a4 : S70} {A0_0 : Option Addr} {c0_0 : Nat} {r : S67 × Int} (H : F37.f k a0 a1 a2 a3 a4 = some r) : SCA Try.prog 37 #[.agg #[.int .i64 a0.f0, .int .i64 a0.f1, .slice A0_0 a0.f2.length c0_0], .int .i64 a1, .int .i64 a2, .int .i64 a3, .agg #[.int .i64 a4.f0, .int .i64 a4.f1, .bool a4.f2, .bool a4.f3, .bool a4.f4, .bool a4.f5, .bool a4.f6, .bool a4.f7, .bool a4.f8, .bool a4.f9]] [Ro k76 A0_0 c0_0 a0.f2] (fun v B => ∃ (A0_0_ : Option Addr) (c0_0_ : Nat), v = .tuple #[.agg #[.int .i64 r.1.f0, .int .i64 r.1.f1, .slice A0_0_ r.1.f2.length c0_0_], .int .i64 r.2] ∧ B = [Buf k76 76 A0_0_ c0_0_ r.1.f2]) := by
  refine SCA_of_body Try.func37 rfl rfl ?_
  unfold F37.f at H
  refine SA_seq ?_
  refine SA_region ?_
  refine RA_step rfl (OA_box rfl rfl fun b2 => ?_)
  refine RA_step rfl (OA_box rfl rfl fun b4 => ?_)
  refine RA_step rfl (OA_alloc rfl zero67 fun b6 => ?_)
  refine RA_step rfl (OA_v (v := .int .i64 0) rfl (V_assign rfl) ?_)
  refine RA_nil ?_
  refine at_normal ?_
  refine SA_seq ?_
  refine SA_region ?_
  refine RA_step rfl (OA_r rfl (VR_loadA_blk (b := b2) (m := 0) (k := 1) (vs := [.int .i64 a0.f0, .int .i64 a0.f1, .slice A0_0 a0.f2.length c0_0]) Try.underlying67 rfl sz67 rfl rfl rfl) ?_)
  refine RA_step rfl (OA_v (v := .int .i64 a1) rfl (V_move rfl) ?_)
  refine RA_step rfl (OA_r rfl (VR_loadA_blk (b := b4) (m := 0) (k := 2) (vs := [.int .i64 a4.f0, .int .i64 a4.f1, .bool a4.f2, .bool a4.f3, .bool a4.f4, .bool a4.f5, .bool a4.f6, .bool a4.f7, .bool a4.f8, .bool a4.f9]) Try.underlying70 rfl sz70 rfl rfl rfl) ?_)
  obtain ⟨r8, C33, H⟩ := g_bind H
  obtain ⟨⟨hl15a, hl15b, hl15c⟩, H⟩ := g_pos H
  refine RA_step rfl (OA_callA [0] [0, 1, 2, 3] rfl (X_fn (vs := [.agg #[.int .i64 a0.f0, .int .i64 a0.f1, .slice A0_0 a0.f2.length c0_0], .int .i64 a1, .agg #[.int .i64 a4.f0, .int .i64 a4.f1, .bool a4.f2, .bool a4.f3, .bool a4.f4, .bool a4.f5, .bool a4.f6, .bool a4.f7, .bool a4.f8, .bool a4.f9]]) Try.func76 nm76 rfl rfl) rfl (F76.ok (a0 := a0) (A0_0 := A0_0) (c0_0 := c0_0) (a1 := a1) (a2 := a4) C33) rfl ?_)
  rintro _ _ ⟨A9, c10, V12, v13, hW14, rfl, rfl⟩
  refine RA_step rfl (OA_v (v := .tuple #[.agg #[.int .i64 r8.1.f0, .int .i64 r8.1.f1, .slice A9 r8.1.f2.length c10], .slice V12 r8.2.1.2.toNat v13, .bool r8.2.2]) rfl (V_move rfl) ?_)
  refine RA_step rfl (OA_v (v := .agg #[.int .i64 r8.1.f0, .int .i64 r8.1.f1, .slice A9 r8.1.f2.length c10]) rfl (V_extract rfl rfl) ?_)
  refine RA_step rfl (OA_v (v := .slice V12 r8.2.1.2.toNat v13) rfl (V_extract rfl rfl) ?_)
  refine RA_step rfl (OA_v (v := .bool r8.2.2) rfl (V_extract rfl rfl) ?_)
  refine RA_step rfl (OA_alloc rfl zero67 fun b16 => ?_)
  refine RA_step rfl (OA_st (b := b16) (m := 0) (k := 5) (vs := [.int .i64 r8.1.f0, .int .i64 r8.1.f1, .slice A9 r8.1.f2.length c10]) (cs' := [.int .i64 r8.1.f0, .int .i64 r8.1.f1, .slice A9 r8.1.f2.length c10]) rfl rfl rfl rfl rfl rfl sz67 rfl rfl ?_)
  refine RA_step rfl (OA_v (v := .slice V12 r8.2.1.2.toNat v13) rfl (V_assign rfl) ?_)
  refine RA_step rfl (OA_v (v := .bool r8.2.2) rfl (V_assign rfl) ?_)
  refine RA_nil ?_
  refine at_normal ?_
  refine SA_seq ?_
  refine SA_seq ?_
  refine SA_region ?_
  refine RA_step rfl (OA_v (v := .bool r8.2.2) rfl (V_move rfl) ?_)
  refine RA_step rfl (OA_v (v := .bool (!r8.2.2)) rfl (V_not rfl) ?_)
  refine RA_step rfl (OA_v (v := .bool (!r8.2.2)) rfl (V_move rfl) ?_)
  obtain ⟨q18, hq18, H⟩ := g_lt H
  refine RA_cut 3 (fun e ds As => St [(2, .int .i64 a2), (3, .int .i64 a3), (5, .pointer (some ⟨b2, 0, none⟩)), (9, .pointer (some ⟨b4, 0, none⟩)), (10, .pointer (some ⟨b6, 0, none⟩)), (12, .pointer (some ⟨b16, 0, none⟩)), (13, .slice V12 r8.2.1.2.toNat v13), (28, .bool q18)] [Blk b2 67 [.int .i64 a0.f0, .int .i64 a0.f1, .slice A0_0 a0.f2.length c0_0], Ro k76 A0_0 c0_0 a0.f2, Blk b4 70 [.int .i64 a4.f0, .int .i64 a4.f1, .bool a4.f2, .bool a4.f3, .bool a4.f4, .bool a4.f5, .bool a4.f6, .bool a4.f7, .bool a4.f8, .bool a4.f9], Blk b6 67 [.int .i64 0, .int .i64 0, .slice none 0 0], Blk b16 67 [.int .i64 r8.1.f0, .int .i64 r8.1.f1, .slice A9 r8.1.f2.length c10], Buf k76 76 A9 c10 r8.1.f2] e ds As) ?_ ?_
  · by_cases h19 : (!r8.2.2) = true
    · refine RA_noB rfl rfl rfl rfl (h19) rfl ?_
      refine RA_noB rfl rfl rfl rfl (h19) rfl ?_
      refine RA_step rfl (OA_v rfl (V_pickT rfl (h19) rfl) ?_)
      refine RA_nil ?_
      exact at_normal (St.mk1 (aeq rfl (aeq rfl (aeq rfl (aeq rfl (aeq rfl (aeq rfl (aeq rfl (aeq (congrArg Value.bool (or_t hq18 (h19))) aeq0)))))))) (Gh.sel [2, 1, 3, 4, 5, 0] rfl rfl))
    refine RA_yesB rfl rfl rfl rfl (bno h19) (OA_v (v := .int .i64 a2) rfl (V_move rfl) ?_)
    refine RA_yesB rfl rfl rfl rfl (bno h19) (OA_v (v := .bool (decide (a2 < 0))) rfl (V_lss rfl rfl) ?_)
    refine RA_step rfl (OA_v rfl (V_pickF rfl (bno h19) rfl) ?_)
    refine RA_nil ?_
    exact at_normal (St.mk1 (aeq rfl (aeq rfl (aeq rfl (aeq rfl (aeq rfl (aeq rfl (aeq rfl (aeq (congrArg Value.bool (or_f hq18 (bno h19))) aeq0)))))))) (Gh.sel [2, 1, 3, 4, 5, 0] rfl rfl))
  rintro e ds As hst20
  refine RA.of_St rfl hst20 fun junk => ?_
  refine RA_step rfl (OA_v (v := .bool q18) rfl (V_move rfl) ?_)
  obtain ⟨q21, hq21, H⟩ := g_lt H
  refine RA_cut 4 (fun e ds As => St [(2, .int .i64 a2), (3, .int .i64 a3), (5, .pointer (some ⟨b2, 0, none⟩)), (9, .pointer (some ⟨b4, 0, none⟩)), (10, .pointer (some ⟨b6, 0, none⟩)), (12, .pointer (some ⟨b16, 0, none⟩)), (13, .slice V12 r8.2.1.2.toNat v13), (33, .bool q21)] [Blk b2 67 [.int .i64 a0.f0, .int .i64 a0.f1, .slice A0_0 a0.f2.length c0_0], Ro k76 A0_0 c0_0 a0.f2, Blk b4 70 [.int .i64 a4.f0, .int .i64 a4.f1, .bool a4.f2, .bool a4.f3, .bool a4.f4, .bool a4.f5, .bool a4.f6, .bool a4.f7, .bool a4.f8, .bool a4.f9], Blk b6 67 [.int .i64 0, .int .i64 0, .slice none 0 0], Blk b16 67 [.int .i64 r8.1.f0, .int .i64 r8.1.f1, .slice A9 r8.1.f2.length c10], Buf k76 76 A9 c10 r8.1.f2] e ds As) ?_ ?_
  · by_cases h22 : q18 = true
    · refine RA_noB rfl rfl rfl rfl (h22) rfl ?_
      refine RA_noB rfl rfl rfl rfl (h22) rfl ?_
      refine RA_noB rfl rfl rfl rfl (h22) rfl ?_
      refine RA_step rfl (OA_v rfl (V_pickT rfl (h22) rfl) ?_)
      refine RA_nil ?_
      exact at_normal (St.mk1 (aeq rfl (aeq rfl (aeq rfl (aeq rfl (aeq rfl (aeq rfl (aeq rfl (aeq (congrArg Value.bool (or_t hq21 (h22))) aeq0)))))))) (Gh.sel [0, 1, 2, 3, 4, 5] rfl rfl))
    refine RA_yesB rfl rfl rfl rfl (bno h22) (OA_v (v := .int .i64 a2) rfl (V_move rfl) ?_)
    refine RA_yesB rfl rfl rfl rfl (bno h22) (OA_v (v := .int .i64 a3) rfl (V_move rfl) ?_)
    refine RA_yesB rfl rfl rfl rfl (bno h22) (OA_v (v := .bool (decide (a2 > a3))) rfl (V_gtr rfl rfl) ?_)
    refine RA_step rfl (OA_v rfl (V_pickF rfl (bno h22) rfl) ?_)
    refine RA_nil ?_
    exact at_normal (St.mk1 (aeq rfl (aeq rfl (aeq rfl (aeq rfl (aeq rfl (aeq rfl (aeq rfl (aeq (congrArg Value.bool (or_f hq21 (bno h22))) aeq0)))))))) (Gh.sel [0, 1, 2, 3, 4, 5] rfl rfl))
  rintro e ds As hst23
  refine RA.of_St rfl hst23 fun junk => ?_
  refine RA_step rfl (OA_v (v := .bool q21) rfl (V_move rfl) ?_)
  obtain ⟨q24, hq24, H⟩ := g_lt H
  refine RA_cut 5 (fun e ds As => St [(2, .int .i64 a2), (3, .int .i64 a3), (9, .pointer (some ⟨b4, 0, none⟩)), (10, .pointer (some ⟨b6, 0, none⟩)), (12, .pointer (some ⟨b16, 0, none⟩)), (13, .slice V12 r8.2.1.2.toNat v13), (39, .bool q24)] [Blk b4 70 [.int .i64 a4.f0, .int .i64 a4.f1, .bool a4.f2, .bool a4.f3, .bool a4.f4, .bool a4.f5, .bool a4.f6, .bool a4.f7, .bool a4.f8, .bool a4.f9], Blk b6 67 [.int .i64 0, .int .i64 0, .slice none 0 0], Blk b16 67 [.int .i64 r8.1.f0, .int .i64 r8.1.f1, .slice A9 r8.1.f2.length c10], Buf k76 76 A9 c10 r8.1.f2] e ds As) ?_ ?_
  · by_cases h25 : q21 = true
    · refine RA_noB rfl rfl rfl rfl (h25) rfl ?_
      refine RA_noB rfl rfl rfl rfl (h25) rfl ?_
      refine RA_noB rfl rfl rfl rfl (h25) rfl ?_
      refine RA_noB rfl rfl rfl rfl (h25) rfl ?_
      refine RA_step rfl (OA_v rfl (V_pickT rfl (h25) rfl) ?_)
      refine RA_nil ?_
      exact at_normal (St.mk1 (aeq rfl (aeq rfl (aeq rfl (aeq rfl (aeq rfl (aeq rfl (aeq (congrArg Value.bool (or_t hq24 (h25))) aeq0))))))) (Gh.sel [2, 3, 4, 5] rfl rfl))
    refine RA_yesB rfl rfl rfl rfl (bno h25) (OA_v (v := .int .i64 a3) rfl (V_move rfl) ?_)
    refine RA_yesB rfl rfl rfl rfl (bno h25) (OA_v (v := .pointer (some ⟨b2, 0, none⟩)) rfl (V_fieldAddrN (B := ⟨b2, 0, none⟩) (m := 0) (o := 0) Try.underlying67 rfl nz3 rfl rfl) ?_)
    refine RA_yesB rfl rfl rfl rfl (bno h25) (OA_r rfl (VR_load_blk (b := b2) (m := 0) (k := 0) Try.underlying3 rfl rfl rfl rfl) ?_)
    refine RA_yesB rfl rfl rfl rfl (bno h25) (OA_v (v := .bool (decide (a3 > a0.f0))) rfl (V_gtr rfl rfl) ?_)
    refine RA_step rfl (OA_v rfl (V_pickF rfl (bno h25) rfl) ?_)
    refine RA_nil ?_
    exact at_normal (St.mk1 (aeq rfl (aeq rfl (aeq rfl (aeq rfl (aeq rfl (aeq rfl (aeq (congrArg Value.bool (or_f hq24 (bno h25))) aeq0))))))) (Gh.sel [2, 3, 4, 5] rfl rfl))
  rintro e ds As hst26
  refine RA_nil ?_
  refine at_normal ?_
  refine SA.of_St hst26 fun junk => ?_
  by_cases h27 : q24 = true
  · replace H := g_ift h27 H
    refine SA_condTb rfl h27 ?_
    refine SA_seq ?_
    refine SA_region ?_
    refine RA_step rfl (OA_v (v := .agg #[.int .i64 0, .int .i64 0, .slice none 0 0]) rfl (V_build (cells := [.int .i64 0, .int .i64 0, .slice none 0 0]) zero67 Try.underlying67 plc67 (by kernel_rfl)) ?_)
    refine RA_step rfl (OA_st (b := b6) (m := 0) (k := 1) (vs := [.int .i64 0, .int .i64 0, .slice none 0 0]) (cs' := [.int .i64 0, .int .i64 0, .slice none 0 0]) rfl rfl rfl rfl rfl rfl sz67 rfl rfl ?_)
    refine RA_step rfl (OA_v (v := .int .i64 2) rfl (V_assign rfl) ?_)
    refine RA_nil ?_
    refine at_normal ?_
    refine SA_ret ?_
    refine thn_ret ?_
    have hr_ := Option.some.inj H
    subst hr_
    exact BQ_RL (rs := [.cell 10 67, .tmp 11]) (vs := [.agg #[.int .i64 0, .int .i64 0, .slice none 0 0], .int .i64 2]) [Buf k76 76 none 0 ([] : (List S76))] rfl ⟨RV.cell (k := 1) rfl rfl Try.underlying67 rfl sz67, RV.tmp rfl, trivial⟩ rfl ((Gh.nilBuf k76 76).trans (Gh.sel [4] rfl rfl)) ⟨none, 0, rfl, rfl⟩
  replace H := g_iff h27 H
  refine SA_condFb rfl h27 ?_
  refine SA_skip ?_
  refine at_normal ?_
  refine SA_seq ?_
  refine SA.fact (cap_of (k := 3) rfl) fun hc29 => ?_
  refine SA_region ?_
  refine RA_step rfl (OA_v (v := .slice V12 r8.2.1.2.toNat v13) rfl (V_move rfl) ?_)
  refine RA_step rfl (OA_v (v := .int .i64 a2) rfl (V_move rfl) ?_)
  refine RA_step rfl (OA_v (v := .int .i64 a3) rfl (V_move rfl) ?_)
  refine RA_step rfl (OA_r rfl (VR_loadA_blk (b := b4) (m := 0) (k := 0) (vs := [.int .i64 a4.f0, .int .i64 a4.f1, .bool a4.f2, .bool a4.f3, .bool a4.f4, .bool a4.f5, .bool a4.f6, .bool a4.f7, .bool a4.f8, .bool a4.f9]) Try.underlying70 rfl sz70 rfl rfl rfl) ?_)
  obtain ⟨r30, C32, H⟩ := g_bind H
  obtain ⟨hl31, H⟩ := g_pos H
  refine RA_step rfl (OA_callA [3] [0, 1, 2] rfl (X_fn (vs := [.slice V12 r8.2.1.2.toNat v13, .int .i64 a2, .int .i64 a3, .agg #[.int .i64 a4.f0, .int .i64 a4.f1, .bool a4.f2, .bool a4.f3, .bool a4.f4, .bool a4.f5, .bool a4.f6, .bool a4.f7, .bool a4.f8, .bool a4.f9]]) Try.func77 nm77 rfl rfl) rfl (F77w0.ok (l0 := r8.1.f2) (o0 := r8.2.1.1) (n0 := r8.2.1.2) (A0 := A9) (c0 := c10) (V0 := V12) (v0 := v13) (hw0 := hW14) (a1 := a2) (a2 := a3) (a3 := a4) C32) rfl ?_)
  rintro _ _ ⟨rfl, rfl⟩
  try rewrite [← hl31]
  refine RA_nil ?_
  refine at_normal ?_
  refine SA_seq ?_
  refine SA_region ?_
  refine RA_step rfl (OA_r rfl (VR_loadA_blk (b := b16) (m := 0) (k := 3) (vs := [.int .i64 r8.1.f0, .int .i64 r8.1.f1, .slice A9 r30.length c10]) Try.underlying67 rfl sz67 rfl rfl rfl) ?_)
  refine RA_step rfl (OA_st (b := b6) (m := 0) (k := 2) (vs := [.int .i64 r8.1.f0, .int .i64 r8.1.f1, .slice A9 r30.length c10]) (cs' := [.int .i64 r8.1.f0, .int .i64 r8.1.f1, .slice A9 r30.length c10]) rfl rfl rfl rfl rfl rfl sz67 rfl rfl ?_)
  refine RA_step rfl (OA_v (v := .int .i64 0) rfl (V_assign rfl) ?_)
  refine RA_nil ?_
  refine at_normal ?_
  refine SA_ret ?_
  have hr_ := Option.some.inj H
  subst hr_
  exact BQ_RL (rs := [.cell 10 67, .tmp 11]) (vs := [.agg #[.int .i64 r8.1.f0, .int .i64 r8.1.f1, .slice A9 r30.length c10], .int .i64 0]) [Buf k76 76 A9 c10 r30] rfl ⟨RV.cell (k := 2) rfl rfl Try.underlying67 rfl sz67, RV.tmp rfl, trivial⟩ rfl (Gh.sel [0] rfl rfl) ⟨A9, c10, rfl, rfl⟩

/-! ### function 47: wayfarer/wayfarerref15.Erase -/
def F47.l0 (a1 : Int) (a3 : Int) (a4 : S70) (r20 : S67) : Nat → Int → (List S76) → Option ((List S76))
  | 0, _, _ => none
  | k + 1, x13_26, z12_2_26 => if z12_2_26.length = r20.f2.length then (if x13_26 < a3 then ((F83b0.f (S67.mk r20.f0 r20.f1 z12_2_26) a1).bind (fun r151 => if (0 ≤ r151.1 ∧ 0 ≤ r151.2 ∧ r151.1 + r151.2 ≤ (z12_2_26.length : Int)) then ((F70.f a4).bind (fun r331 => if 0 ≤ x13_26 ∧ x13_26 < r151.2 then (lt (z12_2_26.set (r151.1 + x13_26).toNat r331) fun n451 => (lt (IntKind.i64.wrap (x13_26 + 1)) fun n512 => F47.l0 a1 a3 a4 r20 k n512 n451)) else none)) else none)) else (some z12_2_26)) else none
def F47.f (k : Nat) (a0 : S67) (a1 : Int) (a2 : Int) (a3 : Int) (a4 : S70) : Option (S67 × Int) := (F82.f k a0 a4 a1).bind (fun r8 => lt (r8 || (decide (a2 < 0))) fun q9 => lt (q9 || (decide (a2 > a3))) fun q12 => lt (q12 || (decide (a3 > a0.f0))) fun q15 => if q15 = true then (some (((S67.mk 0 0 ([] : (List S76))), 2))) else ((F36.f a0).bind (fun r20 => (F47.l0 a1 a3 a4 r20 k a2 r20.f2 : Option ((List S76))).bind (fun t26 => if t26.length = r20.f2.length then ((F83b0.f (S67.mk r20.f0 r20.f1 t26) a1).bind (fun r516 => if (0 ≤ r516.1 ∧ 0 ≤ r516.2 ∧ r516.1 + r516.2 ≤ (t26.length : Int)) then ((F90w0.f k t26 r516.1 r516.2).bind (fun r521 => if r521.length = t26.length then (some (((S67.mk r20.f0 r20.f1 r521), 0))) else none)) else none)) else none))))
set_option maxHeartbeats 2000000 in
set_option maxRecDepth 100000 in
theorem F47.ok {k : Nat} {a0 : S67} {a1 : Int} {a2 : Int} {a3 : Int} {a4 : S70} {A0_0 : Option Addr} {c0_0 : Nat} {r : S67 × Int} (H : F47.f k a0 a1 a2 a3 a4 = some r) : SCA Try.prog 47 #[.agg #[.int .i64 a0.f0, .int .i64 a0.f1, .slice A0_0 a0.f2.length c0_0], .int .i64 a1, .int .i64 a2, .int .i64 a3, .agg #[.int .i64 a4.f0, .int .i64 a4.f1, .bool a4.f2, .bool a4.f3, .bool a4.f4, .bool a4.f5, .bool a4.f6, .bool a4.f7, .bool a4.f8, .bool a4.f9]] [Ro k76 A0_0 c0_0 a0.f2] (fun v B => ∃ (A0_0_ : Option Addr) (c0_0_ : Nat), v = .tuple #[.agg #[.int .i64 r.1.f0, .int .i64 r.1.f1, .slice A0_0_ r.1.f2.length c0_0_], .int .i64 r.2] ∧ B = [Buf k76 76 A0_0_ c0_0_ r.1.f2]) := by
  refine SCA_of_body Try.func47 rfl rfl ?_
  unfold F47.f at H
  refine SA_seq ?_
  refine SA_region ?_
  refine RA_step rfl (OA_box rfl rfl fun b2 => ?_)
  refine RA_step rfl (OA_box rfl rfl fun b4 => ?_)
  refine RA_step rfl (OA_alloc rfl zero67 fun b6 => ?_)
  refine RA_step rfl (OA_v (v := .int .i64 0) rfl (V_assign rfl) ?_)
  refine RA_nil ?_
  refine at_normal ?_
  refine SA_seq ?_
  refine SA_seq ?_
  refine SA_region ?_
  refine RA_step rfl (OA_r rfl (VR_loadA_blk (b := b2) (m := 0) (k := 1) (vs := [.int .i64 a0.f0, .int .i64 a0.f1, .slice A0_0 a0.f2.length c0_0]) Try.underlying67 rfl sz67 rfl rfl rfl) ?_)
  refine RA_step rfl (OA_r rfl (VR_loadA_blk (b := b4) (m := 0) (k := 2) (vs := [.int .i64 a4.f0, .int .i64 a4.f1, .bool a4.f2, .bool a4.f3, .bool a4.f4, .bool a4.f5, .bool a4.f6, .bool a4.f7, .bool a4.f8, .bool a4.f9]) Try.underlying70 rfl sz70 rfl rfl rfl) ?_)
  refine RA_step rfl (OA_v (v := .int .i64 a1) rfl (V_move rfl) ?_)
  obtain ⟨r8, C527, H⟩ := g_bind H
  refine RA_step rfl (OA_callA [0] [0, 1, 2, 3] rfl (X_fn (vs := [.agg #[.int .i64 a0.f0, .int .i64 a0.f1, .slice A0_0 a0.f2.length c0_0], .agg #[.int .i64 a4.f0, .int .i64 a4.f1, .bool a4.f2, .bool a4.f3, .bool a4.f4, .bool a4.f5, .bool a4.f6, .bool a4.f7, .bool a4.f8, .bool a4.f9], .int .i64 a1]) Try.func82 nm82 rfl rfl) rfl (F82.ok (a0 := a0) (A0_0 := A0_0) (c0_0 := c0_0) (a1 := a4) (a2 := a1) C527) rfl ?_)
  rintro _ _ ⟨rfl, rfl⟩
  refine RA_step rfl (OA_v (v := .bool r8) rfl (V_move rfl) ?_)
  obtain ⟨q9, hq9, H⟩ := g_lt H
  refine RA_cut 3 (fun e ds As => St [(1, .int .i64 a1), (2, .int .i64 a2), (3, .int .i64 a3), (5, .pointer (some ⟨b2, 0, none⟩)), (9, .pointer (some ⟨b4, 0, none⟩)), (10, .pointer (some ⟨b6, 0, none⟩)), (21, .bool q9)] [Blk b2 67 [.int .i64 a0.f0, .int .i64 a0.f1, .slice A0_0 a0.f2.length c0_0], Ro k76 A0_0 c0_0 a0.f2, Blk b4 70 [.int .i64 a4.f0, .int .i64 a4.f1, .bool a4.f2, .bool a4.f3, .bool a4.f4, .bool a4.f5, .bool a4.f6, .bool a4.f7, .bool a4.f8, .bool a4.f9], Blk b6 67 [.int .i64 0, .int .i64 0, .slice none 0 0]] e ds As) ?_ ?_
  · by_cases h10 : r8 = true
    · refine RA_noB rfl rfl rfl rfl (h10) rfl ?_
      refine RA_noB rfl rfl rfl rfl (h10) rfl ?_
      refine RA_step rfl (OA_v rfl (V_pickT rfl (h10) rfl) ?_)
      refine RA_nil ?_
      exact at_normal (St.mk1 (aeq rfl (aeq rfl (aeq rfl (aeq rfl (aeq rfl (aeq rfl (aeq (congrArg Value.bool (or_t hq9 (h10))) aeq0))))))) (Gh.sel [1, 0, 2, 3] rfl rfl))
    refine RA_yesB rfl rfl rfl rfl (bno h10) (OA_v (v := .int .i64 a2) rfl (V_move rfl) ?_)
    refine RA_yesB rfl rfl rfl rfl (bno h10) (OA_v (v := .bool (decide (a2 < 0))) rfl (V_lss rfl rfl) ?_)
    refine RA_step rfl (OA_v rfl (V_pickF rfl (bno h10) rfl) ?_)
    refine RA_nil ?_
    exact at_normal (St.mk1 (aeq rfl (aeq rfl (aeq rfl (aeq rfl (aeq rfl (aeq rfl (aeq (congrArg Value.bool (or_f hq9 (bno h10))) aeq0))))))) (Gh.sel [1, 0, 2, 3] rfl rfl))
  rintro e ds As hst11
  refine RA.of_St rfl hst11 fun junk => ?_
  refine RA_step rfl (OA_v (v := .bool q9) rfl (V_move rfl) ?_)
  obtain ⟨q12, hq12, H⟩ := g_lt H
  refine RA_cut 4 (fun e ds As => St [(1, .int .i64 a1), (2, .int .i64 a2), (3, .int .i64 a3), (5, .pointer (some ⟨b2, 0, none⟩)), (9, .pointer (some ⟨b4, 0, none⟩)), (10, .pointer (some ⟨b6, 0, none⟩)), (26, .bool q12)] [Blk b2 67 [.int .i64 a0.f0, .int .i64 a0.f1, .slice A0_0 a0.f2.length c0_0], Ro k76 A0_0 c0_0 a0.f2, Blk b4 70 [.int .i64 a4.f0, .int .i64 a4.f1, .bool a4.f2, .bool a4.f3, .bool a4.f4, .bool a4.f5, .bool a4.f6, .bool a4.f7, .bool a4.f8, .bool a4.f9], Blk b6 67 [.int .i64 0, .int .i64 0, .slice none 0 0]] e ds As) ?_ ?_
  · by_cases h13 : q9 = true
    · refine RA_noB rfl rfl rfl rfl (h13) rfl ?_
      refine RA_noB rfl rfl rfl rfl (h13) rfl ?_
      refine RA_noB rfl rfl rfl rfl (h13) rfl ?_
      refine RA_step rfl (OA_v rfl (V_pickT rfl (h13) rfl) ?_)
      refine RA_nil ?_
      exact at_normal (St.mk1 (aeq rfl (aeq rfl (aeq rfl (aeq rfl (aeq rfl (aeq rfl (aeq (congrArg Value.bool (or_t hq12 (h13))) aeq0))))))) (Gh.sel [0, 1, 2, 3] rfl rfl))
    refine RA_yesB rfl rfl rfl rfl (bno h13) (OA_v (v := .int .i64 a2) rfl (V_move rfl) ?_)
    refine RA_yesB rfl rfl rfl rfl (bno h13) (OA_v (v := .int .i64 a3) rfl (V_move rfl) ?_)
    refine RA_yesB rfl rfl rfl rfl (bno h13) (OA_v (v := .bool (decide (a2 > a3))) rfl (V_gtr rfl rfl) ?_)
    refine RA_step rfl (OA_v rfl (V_pickF rfl (bno h13) rfl) ?_)
    refine RA_nil ?_
    exact at_normal (St.mk1 (aeq rfl (aeq rfl (aeq rfl (aeq rfl (aeq rfl (aeq rfl (aeq (congrArg Value.bool (or_f hq12 (bno h13))) aeq0))))))) (Gh.sel [0, 1, 2, 3] rfl rfl))
  rintro e ds As hst14
  refine RA.of_St rfl hst14 fun junk => ?_
  refine RA_step rfl (OA_v (v := .bool q12) rfl (V_move rfl) ?_)
  obtain ⟨q15, hq15, H⟩ := g_lt H
  refine RA_cut 5 (fun e ds As => St [(1, .int .i64 a1), (2, .int .i64 a2), (3, .int .i64 a3), (5, .pointer (some ⟨b2, 0, none⟩)), (9, .pointer (some ⟨b4, 0, none⟩)), (10, .pointer (some ⟨b6, 0, none⟩)), (32, .bool q15)] [Blk b2 67 [.int .i64 a0.f0, .int .i64 a0.f1, .slice A0_0 a0.f2.length c0_0], Ro k76 A0_0 c0_0 a0.f2, Blk b4 70 [.int .i64 a4.f0, .int .i64 a4.f1, .bool a4.f2, .bool a4.f3, .bool a4.f4, .bool a4.f5, .bool a4.f6, .bool a4.f7, .bool a4.f8, .bool a4.f9], Blk b6 67 [.int .i64 0, .int .i64 0, .slice none 0 0]] e ds As) ?_ ?_
  · by_cases h16 : q12 = true
    · refine RA_noB rfl rfl rfl rfl (h16) rfl ?_
      refine RA_noB rfl rfl rfl rfl (h16) rfl ?_
      refine RA_noB rfl rfl rfl rfl (h16) rfl ?_
      refine RA_noB rfl rfl rfl rfl (h16) rfl ?_
      refine RA_step rfl (OA_v rfl (V_pickT rfl (h16) rfl) ?_)
      refine RA_nil ?_
      exact at_normal (St.mk1 (aeq rfl (aeq rfl (aeq rfl (aeq rfl (aeq rfl (aeq rfl (aeq (congrArg Value.bool (or_t hq15 (h16))) aeq0))))))) (Gh.sel [0, 1, 2, 3] rfl rfl))
    refine RA_yesB rfl rfl rfl rfl (bno h16) (OA_v (v := .int .i64 a3) rfl (V_move rfl) ?_)
    refine RA_yesB rfl rfl rfl rfl (bno h16) (OA_v (v := .pointer (some ⟨b2, 0, none⟩)) rfl (V_fieldAddrN (B := ⟨b2, 0, none⟩) (m := 0) (o := 0) Try.underlying67 rfl nz3 rfl rfl) ?_)
    refine RA_yesB rfl rfl rfl rfl (bno h16) (OA_r rfl (VR_load_blk (b := b2) (m := 0) (k := 0) Try.underlying3 rfl rfl rfl rfl) ?_)
    refine RA_yesB rfl rfl rfl rfl (bno h16) (OA_v (v := .bool (decide (a3 > a0.f0))) rfl (V_gtr rfl rfl) ?_)
    refine RA_step rfl (OA_v rfl (V_pickF rfl (bno h16) rfl) ?_)
    refine RA_nil ?_
    exact at_normal (St.mk1 (aeq rfl (aeq rfl (aeq rfl (aeq rfl (aeq rfl (aeq rfl (aeq (congrArg Value.bool (or_f hq15 (bno h16))) aeq0))))))) (Gh.sel [0, 1, 2, 3] rfl rfl))
  rintro e ds As hst17
  refine RA_nil ?_
  refine at_normal ?_
  refine SA.of_St hst17 fun junk => ?_
  by_cases h18 : q15 = true
  · replace H := g_ift h18 H
    refine SA_condTb rfl h18 ?_
    refine SA_seq ?_
    refine SA_region ?_
    refine RA_step rfl (OA_v (v := .agg #[.int .i64 0, .int .i64 0, .slice none 0 0]) rfl (V_build (cells := [.int .i64 0, .int .i64 0, .slice none 0 0]) zero67 Try.underlying67 plc67 (by kernel_rfl)) ?_)
    refine RA_step rfl (OA_st (b := b6) (m := 0) (k := 3) (vs := [.int .i64 0, .int .i64 0, .slice none 0 0]) (cs' := [.int .i64 0, .int .i64 0, .slice none 0 0]) rfl rfl rfl rfl rfl rfl sz67 rfl rfl ?_)
    refine RA_step rfl (OA_v (v := .int .i64 2) rfl (V_assign rfl) ?_)
    refine RA_nil ?_
    refine at_normal ?_
    refine SA_ret ?_
    refine thn_ret ?_
    have hr_ := Option.some.inj H
    subst hr_
    exact BQ_RL (rs := [.cell 10 67, .tmp 11]) (vs := [.agg #[.int .i64 0, .int .i64 0, .slice none 0 0], .int .i64 2]) [Buf k76 76 none 0 ([] : (List S76))] rfl ⟨RV.cell (k := 3) rfl rfl Try.underlying67 rfl sz67, RV.tmp rfl, trivial⟩ rfl ((Gh.nilBuf k76 76).trans (Gh.sel [4] rfl rfl)) ⟨none, 0, rfl, rfl⟩
  replace H := g_iff h18 H
  refine SA_condFb rfl h18 ?_
  refine SA_skip ?_
  refine at_normal ?_
  refine SA_seq ?_
  refine SA_region ?_
  refine RA_step rfl (OA_r rfl (VR_loadA_blk (b := b2) (m := 0) (k := 0) (vs := [.int .i64 a0.f0, .int .i64 a0.f1, .slice A0_0 a0.f2.length c0_0]) Try.underlying67 rfl sz67 rfl rfl rfl) ?_)
  obtain ⟨r20, C526, H⟩ := g_bind H
  refine RA_step rfl (OA_callA [1] [0, 1, 2, 3] rfl (X_fn (vs := [.agg #[.int .i64 a0.f0, .int .i64 a0.f1, .slice A0_0 a0.f2.length c0_0]]) Try.func36 nm36 rfl rfl) rfl (F36.ok (a0 := a0) (A0_0 := A0_0) (c0_0 := c0_0) C526) rfl ?_)
  rintro _ _ ⟨A21, c22, rfl, rfl⟩
  refine RA_step rfl (OA_alloc rfl zero67 fun b24 => ?_)
  refine RA_step rfl (OA_st (b := b24) (m := 0) (k := 5) (vs := [.int .i64 r20.f0, .int .i64 r20.f1, .slice A21 r20.f2.length c22]) (cs' := [.int .i64 r20.f0, .int .i64 r20.f1, .slice A21 r20.f2.length c22]) rfl rfl rfl rfl rfl rfl sz67 rfl rfl ?_)
  refine RA_nil ?_
  refine at_normal ?_
  refine SA_seq ?_
  refine SA_seq ?_
  refine SA_region ?_
  refine RA_step rfl (OA_v (v := .int .i64 a2) rfl (V_move rfl) ?_)
  refine RA_step rfl (OA_v (v := .int .i64 a2) rfl (V_assign rfl) ?_)
  refine RA_nil ?_
  refine at_normal ?_
  obtain ⟨t26, H, Bt26⟩ := g_bind H
  refine SA_mid (fun e ds As => St [(1, .int .i64 a1), (10, .pointer (some ⟨b6, 0, none⟩)), (12, .pointer (some ⟨b24, 0, none⟩))] [Blk b6 67 [.int .i64 0, .int .i64 0, .slice none 0 0], Blk b24 67 [.int .i64 r20.f0, .int .i64 r20.f1, .slice A21 t26.length c22], Buf k76 76 A21 c22 t26] e ds As) ?_ ?_
  · refine SA_block ?_
    refine SA_loop (fun k_ e ds As => ∃ (x13_26 : Int) (z12_2_26 : (List S76)), F47.l0 a1 a3 a4 r20 k_ x13_26 z12_2_26 = some t26 ∧ St [(1, .int .i64 a1), (3, .int .i64 a3), (9, .pointer (some ⟨b4, 0, none⟩)), (10, .pointer (some ⟨b6, 0, none⟩)), (12, .pointer (some ⟨b24, 0, none⟩)), (13, .int .i64 x13_26)] [Blk b4 70 [.int .i64 a4.f0, .int .i64 a4.f1, .bool a4.f2, .bool a4.f3, .bool a4.f4, .bool a4.f5, .bool a4.f6, .bool a4.f7, .bool a4.f8, .bool a4.f9], Blk b6 67 [.int .i64 0, .int .i64 0, .slice none 0 0], Blk b24 67 [.int .i64 r20.f0, .int .i64 r20.f1, .slice A21 z12_2_26.length c22], Buf k76 76 A21 c22 z12_2_26] e ds As) (k := k) ⟨_, _, H, St.mk1 (aeq rfl (aeq rfl (aeq rfl (aeq rfl (aeq rfl (aeq rfl aeq0)))))) (Gh.sel [3, 4, 5, 0] rfl rfl)⟩ ?_
    clear H
    rintro k27 e ds As ⟨x13_26, z12_2_26, H, hst28⟩
    obtain _ | k27 := k27
    · cases H
    rw [F47.l0] at H
    obtain ⟨hl513, H⟩ := g_pos H
    refine SA.of_St hst28 fun junk => ?_
    refine SA_seq ?_
    refine SA_seq ?_
    refine SA_region ?_
    refine RA_step rfl (OA_v (v := .int .i64 x13_26) rfl (V_move rfl) ?_)
    refine RA_step rfl (OA_v (v := .int .i64 a3) rfl (V_move rfl) ?_)
    refine RA_step rfl (OA_v (v := .bool (decide (x13_26 < a3))) rfl (V_lss rfl rfl) ?_)
    refine RA_nil ?_
    refine at_normal ?_
    by_cases h29 : x13_26 < a3
    · replace H := g_ift h29 H
      refine SA_condT rfl h29 ?_
      refine SA_skip ?_
      refine at_normal ?_
      refine SA_seq ?_
      refine SA_block ?_
      refine SA.fact (cap_of (k := 3) rfl) fun hc30 => ?_
      refine SA_drawHq [0, 1, 3, 4] #[[], [], [0, 1], [], [], [0, 1, 4], [0, 1, 3, 4], [0, 1, 3, 4]] [0, 2] [1, 3] mixed rfl rfl rfl (PanOk.inb (PanOk.thn (PanOk.thn (PanOk.inb (PanOk.thn (PanOk.thn PanOk.body)))))) fun I0 hS h0 hh0 w0 sH dd pk => ?_
      refine DH_take 0 (by kernel_rfl) rfl rfl (.no rfl) pk sH rfl (VR_loadA_blk (b := b24) (m := 0) (k := 1) (vs := [.int .i64 r20.f0, .int .i64 r20.f1, .slice A21 z12_2_26.length c22]) Try.underlying67 rfl sz67 rfl rfl rfl) ?_
      refine DH_take (v := .int .i64 a1) 1 (by kernel_rfl) rfl rfl (.no rfl) pk sH rfl (VR.ofV (V_move rfl)) ?_
      refine DH_take (v := .int .i64 x13_26) 3 (by kernel_rfl) rfl rfl (.no rfl) pk sH rfl (VR.ofV (V_move rfl)) ?_
      refine DH_take 4 (by kernel_rfl) rfl rfl (.no rfl) pk sH rfl (VR_loadA_blk (b := b4) (m := 0) (k := 0) (vs := [.int .i64 a4.f0, .int .i64 a4.f1, .bool a4.f2, .bool a4.f3, .bool a4.f4, .bool a4.f5, .bool a4.f6, .bool a4.f7, .bool a4.f8, .bool a4.f9]) Try.underlying70 rfl sz70 rfl rfl rfl) ?_
      obtain ⟨r151, C156, H⟩ := g_bind H
      obtain ⟨⟨hl155a, hl155b, hl155c⟩, H⟩ := g_pos H
      refine DH_one 2 dd (by kernel_rfl) rfl (.no rfl) (OA_callA [1] [0] rfl (X_fn (vs := [.agg #[.int .i64 r20.f0, .int .i64 r20.f1, .slice A21 z12_2_26.length c22], .int .i64 a1]) Try.func83 nm83 rfl rfl) rfl (F83b0.ok (a0 := (S67.mk r20.f0 r20.f1 z12_2_26)) (A0_0 := A21) (c0_0 := c22) (a1 := a1) C156) rfl ?_)
      rintro _ _ ⟨V152, v153, hW154, rfl, rfl⟩
      obtain ⟨r331, C332, H⟩ := g_bind H
      refine DH_one 5 dd (by kernel_rfl) rfl (.no rfl) (OA_callA [] [0, 1] rfl (X_fn (vs := [.agg #[.int .i64 a4.f0, .int .i64 a4.f1, .bool a4.f2, .bool a4.f3, .bool a4.f4, .bool a4.f5, .bool a4.f6, .bool a4.f7, .bool a4.f8, .bool a4.f9]]) Try.func70 nm70 rfl rfl) rfl (F70.ok (a0 := a4) C332) rfl ?_)
      rintro _ _ ⟨rfl, rfl⟩
      obtain ⟨⟨g391, g392⟩, H⟩ := g_pos H
      have g393 : 0 ≤ r151.1 + x13_26 := by omega
      have g394 : r151.1 + x13_26 < (z12_2_26.length : Int) := by omega
      refine DH_one 6 dd (by kernel_rfl) rfl (.no rfl) (OA_r rfl (VR_indexW (l := r151.1) (m := r151.2) (i := x13_26) (sz := 15) hW154 Try.underlying65 sz76 rfl rfl (Src.buf (k := 0) rfl) g391 g392 (by omega)) ?_)
      obtain ⟨n451, hn451, H⟩ := g_lt H
      have hl_n451 : n451.length = z12_2_26.length := by rw [hn451]; exact List.length_set
      refine DH_one 7 dd (by kernel_rfl) rfl (.no rfl) (OA_stEl (k := 0) (i := r151.1 + x13_26) (j := (r151.1 + x13_26).toNat * 15) (m := 0) (sz := 15) (xs := z12_2_26) (vs := (.int .i32 r331.f0 :: .int .i32 r331.f1.f0 :: .int .i32 r331.f1.f1 :: .int .i32 r331.f1.f2 :: .int .u8 r331.f2 :: .int .i64 r331.f3.f0 :: .int .i64 r331.f3.f1 :: .bool r331.f3.f2 :: .bool r331.f3.f3 :: .bool r331.f3.f4 :: .bool r331.f3.f5 :: .bool r331.f3.f6 :: .bool r331.f3.f7 :: .bool r331.f3.f8 :: .bool r331.f3.f9 :: [])) r331 rfl rfl rfl rfl rfl rfl rfl rfl sz76 g393 g394 rfl (fun _ _ h_ => by subst h_; rfl) ?_)
      rewrite [← hn451]
      try rewrite [← hl_n451]
      try rewrite [← hl_n451] at sH
      refine DH_open dd sH ?_
      refine DN_done (by kernel_rfl) ?_
      refine inb_normal ?_
      refine at_normal ?_
      refine SA_region ?_
      refine RA_step rfl (OA_v (v := .int .i64 x13_26) rfl (V_move rfl) ?_)
      refine RA_step rfl (OA_v (v := .int .i64 (IntKind.i64.wrap (x13_26 + 1))) rfl (V_add rfl rfl) ?_)
      obtain ⟨n512, hn512, H⟩ := g_lt H
      refine RA_step rfl (OA_v (v := .int .i64 n512) rfl (V_assign (v := .int .i64 n512) (congrArg (Value.int .i64) hn512.symm)) ?_)
      refine RA_nil ?_
      exact at_normal ⟨k27, Nat.lt_succ_self _, _, _, H, St.mk1 (aeq rfl (aeq rfl (aeq rfl (aeq rfl (aeq rfl (aeq rfl aeq0)))))) (Gh.sel [0, 3, 1, 2] rfl rfl)⟩
    replace H := g_iff h29 H
    refine SA_condF rfl h29 ?_
    refine SA_exit ?_
    refine thn_exit ?_
    refine thn_exit ?_
    refine inb_hit ?_
    have hr_ := Option.some.inj H
    subst hr_
    exact at_normal (St.mk1 (aeq rfl (aeq rfl (aeq rfl aeq0))) (Gh.sel [1, 2, 3] rfl rfl))
  rintro e ds As hst514
  clear H
  have H := Bt26
  clear Bt26
  obtain ⟨hl525, H⟩ := g_pos H
  refine at_normal ?_
  refine SA.of_St hst514 fun junk => ?_
  refine SA_seq ?_
  refine SA.fact (cap_of (k := 2) rfl) fun hc515 => ?_
  refine SA_region ?_
  refine RA_step rfl (OA_r rfl (VR_loadA_blk (b := b24) (m := 0) (k := 1) (vs := [.int .i64 r20.f0, .int .i64 r20.f1, .slice A21 t26.length c22]) Try.underlying67 rfl sz67 rfl rfl rfl) ?_)
  refine RA_step rfl (OA_v (v := .int .i64 a1) rfl (V_move rfl) ?_)
  obtain ⟨r516, C524, H⟩ := g_bind H
  obtain ⟨⟨hl520a, hl520b, hl520c⟩, H⟩ := g_pos H
  refine RA_step rfl (OA_callA [2] [0, 1] rfl (X_fn (vs := [.agg #[.int .i64 r20.f0, .int .i64 r20.f1, .slice A21 t26.length c22], .int .i64 a1]) Try.func83 nm83 rfl rfl) rfl (F83b0.ok (a0 := (S67.mk r20.f0 r20.f1 t26)) (A0_0 := A21) (c0_0 := c22) (a1 := a1) C524) rfl ?_)
  rintro _ _ ⟨V517, v518, hW519, rfl, rfl⟩
  obtain ⟨r521, C523, H⟩ := g_bind H
  obtain ⟨hl522, H⟩ := g_pos H
  refine RA_step rfl (OA_callA [0] [1, 2] rfl (X_fn (vs := [.slice V517 r516.2.toNat v518]) Try.func90 nm90 rfl rfl) rfl (F90w0.ok (l0 := t26) (o0 := r516.1) (n0 := r516.2) (A0 := A21) (c0 := c22) (V0 := V517) (v0 := v518) (hw0 := hW519) C523) rfl ?_)
  rintro _ _ ⟨rfl, rfl⟩
  try rewrite [← hl522]
  refine RA_nil ?_
  refine at_normal ?_
  refine SA_seq ?_
  refine SA_region ?_
  refine RA_step rfl (OA_r rfl (VR_loadA_blk (b := b24) (m := 0) (k := 2) (vs := [.int .i64 r20.f0, .int .i64 r20.f1, .slice A21 r521.length c22]) Try.underlying67 rfl sz67 rfl rfl rfl) ?_)
  refine RA_step rfl (OA_st (b := b6) (m := 0) (k := 1) (vs := [.int .i64 r20.f0, .int .i64 r20.f1, .slice A21 r521.length c22]) (cs' := [.int .i64 r20.f0, .int .i64 r20.f1, .slice A21 r521.length c22]) rfl rfl rfl rfl rfl rfl sz67 rfl rfl ?_)
  refine RA_step rfl (OA_v (v := .int .i64 0) rfl (V_assign rfl) ?_)
  refine RA_nil ?_
  refine at_normal ?_
  refine SA_ret ?_
  have hr_ := Option.some.inj H
  subst hr_
  exact BQ_RL (rs := [.cell 10 67, .tmp 11]) (vs := [.agg #[.int .i64 r20.f0, .int .i64 r20.f1, .slice A21 r521.length c22], .int .i64 0]) [Buf k76 76 A21 c22 r521] rfl ⟨RV.cell (k := 1) rfl rfl Try.underlying67 rfl sz67, RV.tmp rfl, trivial⟩ rfl (Gh.sel [0] rfl rfl) ⟨A21, c22, rfl, rfl⟩

/-! ### function 88: (wayfarer/grid.Row).Shift -/
def F88w0.f (k : Nat) (l0 : (List S76)) (o0 : Int) (n0 : Int) (a1 : Int) (a2 : Int) (a3 : S70) : Option ((List S76)) := if 0 ≤ o0 ∧ 0 ≤ n0 ∧ o0 + n0 ≤ (l0.length : Int) then (if 0 ≤ a1 ∧ a1 ≤ n0 ∧ n0 ≤ n0 then (lt (maxI (IntKind.i64.wrap (0 - (n0 - a1))) (minI a2 (n0 - a1))) fun n11 => if n11 ≥ 0 then (if 0 ≤ n11 ∧ n11 ≤ (n0 - a1) ∧ (n0 - a1) ≤ (n0 - a1) then (lt (over l0 ((o0 + a1) + n11).toNat ((sub l0 (o0 + a1) ((o0 + a1) + (n0 - a1))).take ((n0 - a1) - n11).toNat)) fun n19 => (if 0 ≤ (0 : Int) ∧ (0 : Int) ≤ n11 ∧ n11 ≤ (n0 - a1) then ((F105w0.f k n19 ((o0 + a1) + (0 : Int)) (n11 - (0 : Int)) a3).bind (fun r260 => if r260.length = n19.length then ((F81w0.f k r260 o0 n0).bind (fun r321 => if r321.length = r260.length then (some (r321)) else none)) else none)) else none)) else none) else (if 0 ≤ (IntKind.i64.wrap (0 - n11)) ∧ (IntKind.i64.wrap (0 - n11)) ≤ (n0 - a1) ∧ (n0 - a1) ≤ (n0 - a1) then (lt (over l0 (o0 + a1).toNat ((sub l0 ((o0 + a1) + (IntKind.i64.wrap (0 - n11))) (((o0 + a1) + (IntKind.i64.wrap (0 - n11))) + ((n0 - a1) - (IntKind.i64.wrap (0 - n11))))).take (n0 - a1).toNat)) fun n330 => (if 0 ≤ (IntKind.i64.wrap ((n0 - a1) + n11)) ∧ (IntKind.i64.wrap ((n0 - a1) + n11)) ≤ (n0 - a1) ∧ (n0 - a1) ≤ (n0 - a1) then ((F105w0.f k n330 ((o0 + a1) + (IntKind.i64.wrap ((n0 - a1) + n11))) ((n0 - a1) - (IntKind.i64.wrap ((n0 - a1) + n11))) a3).bind (fun r751 => if r751.length = n330.length then ((F81w0.f k r751 o0 n0).bind (fun r812 => if r812.length = r751.length then (some (r812)) else none)) else none)) else none)) else none)) else none) else none
set_option maxHeartbeats 2000000 in
set_option maxRecDepth 100000 in
theorem F88w0.ok {k : Nat} {l0 : (List S76)} {o0 : Int} {n0 : Int} {a1 : Int} {a2 : Int} {a3 : S70} {A0 V0 : Option Addr} {c0 v0 : Nat} (hw0 : Win A0 V0 15 o0 n0 v0) {r : (List S76)} (H : F88w0.f k l0 o0 n0 a1 a2 a3 = some r) : SCA Try.prog 88 #[.slice V0 n0.toNat v0, .int .i64 a1, .int .i64 a2, .agg #[.int .i64 a3.f0, .int .i64 a3.f1, .bool a3.f2, .bool a3.f3, .bool a3.f4, .bool a3.f5, .bool a3.f6, .bool a3.f7, .bool a3.f8, .bool a3.f9]] [Buf k76 76 A0 c0 l0] (fun v B => v = .tuple #[] ∧ B = [Buf k76 76 A0 c0 r]) := by
  refine SCA_of_body Try.func88 rfl rfl ?_
  unfold F88w0.f at H
  obtain ⟨⟨g815, g816, g817⟩, H⟩ := g_pos H
  have hcv_hw0 := hw0.cap
  refine SA_seq ?_
  refine SA_region ?_
  refine RA_step rfl (OA_box rfl rfl fun b2 => ?_)
  refine RA_nil ?_
  refine at_normal ?_
  refine SA_seq ?_
  refine SA.fact (cap_of (k := 0) rfl) fun hc4 => ?_
  refine SA_region ?_
  refine RA_step rfl (OA_v (v := .slice V0 n0.toNat v0) rfl (V_move rfl) ?_)
  refine RA_step rfl (OA_v (v := .int .i64 a1) rfl (V_move rfl) ?_)
  obtain ⟨⟨g5, g6, g7⟩, H⟩ := g_pos H
  refine RA_step rfl (OA_v (v := .slice (slA V0 a1 ((v0 : Nat) : Int) 15) (n0 - a1).toNat (((v0 : Nat) : Int).toNat - a1.toNat)) rfl (V_sliceW (l := o0) (m := n0) (a := a1) (b := n0) (q := ((v0 : Nat) : Int)) hw0 Try.underlying148 sz76 rfl rfl rfl rfl (.inr ⟨_, rfl⟩) (.inl ⟨rfl, rfl, rfl⟩) (.inl ⟨rfl, rfl⟩) g5 g6 g7) ?_)
  have hW10 : Win A0 (slA V0 a1 ((v0 : Nat) : Int) 15) 15 (o0 + a1) (n0 - a1) (((v0 : Nat) : Int).toNat - a1.toNat) := Win.sub hw0 g5 g6 g7 (.inl rfl)
  refine RA_step rfl (OA_v (v := .slice (slA V0 a1 ((v0 : Nat) : Int) 15) (n0 - a1).toNat (((v0 : Nat) : Int).toNat - a1.toNat)) rfl (V_assign rfl) ?_)
  refine RA_nil ?_
  refine at_normal ?_
  refine SA_seq ?_
  refine SA_region ?_
  refine RA_step rfl (OA_v (v := .slice (slA V0 a1 ((v0 : Nat) : Int) 15) (n0 - a1).toNat (((v0 : Nat) : Int).toNat - a1.toNat)) rfl (V_move rfl) ?_)
  refine RA_step rfl (OA_v (v := .int .i64 (n0 - a1)) rfl (V_lenW hW10 Try.underlying148 rfl) ?_)
  refine RA_step rfl (OA_v (v := .int .i64 (IntKind.i64.wrap (0 - (n0 - a1)))) rfl (V_neg rfl) ?_)
  refine RA_step rfl (OA_v (v := .int .i64 a2) rfl (V_move rfl) ?_)
  refine RA_step rfl (OA_v (v := .slice (slA V0 a1 ((v0 : Nat) : Int) 15) (n0 - a1).toNat (((v0 : Nat) : Int).toNat - a1.toNat)) rfl (V_move rfl) ?_)
  refine RA_step rfl (OA_v (v := .int .i64 (n0 - a1)) rfl (V_lenW hW10 Try.underlying148 rfl) ?_)
  refine RA_step rfl (OA_v (v := .int .i64 (minI a2 (n0 - a1))) rfl (V_min rfl rfl) ?_)
  refine RA_step rfl (OA_v (v := .int .i64 (maxI (IntKind.i64.wrap (0 - (n0 - a1))) (minI a2 (n0 - a1)))) rfl (V_max rfl rfl) ?_)
  obtain ⟨n11, hn11, H⟩ := g_lt H
  refine RA_step rfl (OA_v (v := .int .i64 n11) rfl (V_assign (v := .int .i64 n11) (congrArg (Value.int .i64) hn11.symm)) ?_)
  refine RA_nil ?_
  refine at_normal ?_
  refine SA_seq ?_
  refine SA_seq ?_
  refine SA_region ?_
  refine RA_step rfl (OA_v (v := .int .i64 n11) rfl (V_move rfl) ?_)
  refine RA_step rfl (OA_v (v := .bool (decide (n11 ≥ 0))) rfl (V_geq rfl rfl) ?_)
  refine RA_nil ?_
  refine at_normal ?_
  by_cases h12 : n11 ≥ 0
  · replace H := g_ift h12 H
    refine SA_condT rfl h12 ?_
    refine SA_seq ?_
    refine SA_region ?_
    refine RA_step rfl (OA_v (v := .slice (slA V0 a1 ((v0 : Nat) : Int) 15) (n0 - a1).toNat (((v0 : Nat) : Int).toNat - a1.toNat)) rfl (V_move rfl) ?_)
    refine RA_step rfl (OA_v (v := .int .i64 n11) rfl (V_move rfl) ?_)
    obtain ⟨⟨g13, g14, g15⟩, H⟩ := g_pos H
    refine RA_step rfl (OA_v (v := .slice (slA (slA V0 a1 ((v0 : Nat) : Int) 15) n11 ((((v0 : Nat) : Int).toNat - a1.toNat : Nat) : Int) 15) ((n0 - a1) - n11).toNat (((((v0 : Nat) : Int).toNat - a1.toNat : Nat) : Int).toNat - n11.toNat)) rfl (V_sliceW (l := o0 + a1) (m := n0 - a1) (a := n11) (b := n0 - a1) (q := ((((v0 : Nat) : Int).toNat - a1.toNat : Nat) : Int)) hW10 Try.underlying148 sz76 rfl rfl rfl rfl (.inr ⟨_, rfl⟩) (.inl ⟨rfl, rfl, rfl⟩) (.inl ⟨rfl, rfl⟩) g13 g14 g15) ?_)
    have hW18 : Win A0 (slA (slA V0 a1 ((v0 : Nat) : Int) 15) n11 ((((v0 : Nat) : Int).toNat - a1.toNat : Nat) : Int) 15) 15 ((o0 + a1) + n11) ((n0 - a1) - n11) (((((v0 : Nat) : Int).toNat - a1.toNat : Nat) : Int).toNat - n11.toNat) := Win.sub hW10 g13 g14 g15 (.inl rfl)
    refine RA_step rfl (OA_v (v := .slice (slA V0 a1 ((v0 : Nat) : Int) 15) (n0 - a1).toNat (((v0 : Nat) : Int).toNat - a1.toNat)) rfl (V_move rfl) ?_)
    obtain ⟨n19, hn19, H⟩ := g_lt H
    have hl_n19 : n19.length = l0.length := by rw [hn19]; exact over_len (by rw [List.length_take]; omega)
    refine RA_step rfl (OA_copyV (k := 0) (l := (o0 + a1) + n11) (m := (n0 - a1) - n11) (xs := l0) (ys := sub l0 (o0 + a1) ((o0 + a1) + (n0 - a1))) n19 hn19 hW18 rfl Try.underlying148 sz76 rfl rfl rfl (by omega) rfl (Cpy.win (Src.buf (k := 0) rfl) hW10 rfl (by omega)) ?_)
    try rewrite [← hl_n19]
    refine RA_nil ?_
    refine at_normal ?_
    refine SA_drawHq [0, 1, 2, 3] #[[], [], [0, 1], [], [0, 1, 2, 3]] [1] [0] mixed rfl rfl rfl (PanOk.thn PanOk.body) fun I0 hS h0 hh0 w0 sH dd pk => ?_
    refine DH_take (v := .slice (slA V0 a1 ((v0 : Nat) : Int) 15) (n0 - a1).toNat (((v0 : Nat) : Int).toNat - a1.toNat)) 0 (by kernel_rfl) rfl rfl (.no rfl) pk sH rfl (VR.ofV (V_move rfl)) ?_
    refine DH_take (v := .int .i64 n11) 1 (by kernel_rfl) rfl rfl (.no rfl) pk sH rfl (VR.ofV (V_move rfl)) ?_
    obtain ⟨⟨g140, g141, g142⟩, H⟩ := g_pos H
    refine DH_take (v := .slice (slA (slA V0 a1 ((v0 : Nat) : Int) 15) (0 : Int) ((((v0 : Nat) : Int).toNat - a1.toNat : Nat) : Int) 15) (n11 - (0 : Int)).toNat (((((v0 : Nat) : Int).toNat - a1.toNat : Nat) : Int).toNat - (0 : Int).toNat)) 2 (by kernel_rfl) rfl rfl (.no rfl) pk sH rfl (VR.ofV (V_sliceW (l := o0 + a1) (m := n0 - a1) (a := (0 : Int)) (b := n11) (q := ((((v0 : Nat) : Int).toNat - a1.toNat : Nat) : Int)) hW10 Try.underlying148 sz76 rfl rfl rfl rfl (.inl ⟨rfl, rfl⟩) (.inr ⟨_, rfl⟩) (.inl ⟨rfl, rfl⟩) g140 g141 g142)) ?_
    have hW145 : Win A0 (slA (slA V0 a1 ((v0 : Nat) : Int) 15) (0 : Int) ((((v0 : Nat) : Int).toNat - a1.toNat : Nat) : Int) 15) 15 ((o0 + a1) + (0 : Int)) (n11 - (0 : Int)) (((((v0 : Nat) : Int).toNat - a1.toNat : Nat) : Int).toNat - (0 : Int).toNat) := Win.sub hW10 g140 g141 g142 (.inl rfl)
    refine DH_take 3 (by kernel_rfl) rfl rfl (.no rfl) pk sH rfl (VR_loadA_blk (b := b2) (m := 0) (k := 0) (vs := [.int .i64 a3.f0, .int .i64 a3.f1, .bool a3.f2, .bool a3.f3, .bool a3.f4, .bool a3.f5, .bool a3.f6, .bool a3.f7, .bool a3.f8, .bool a3.f9]) Try.underlying70 rfl sz70 rfl rfl rfl) ?_
    obtain ⟨r260, C262, H⟩ := g_bind H
    obtain ⟨hl261, H⟩ := g_pos H
    refine DH_one 4 dd (by kernel_rfl) rfl (.no rfl) (OA_callA [0] [] rfl (X_fn (vs := [.slice (slA (slA V0 a1 ((v0 : Nat) : Int) 15) (0 : Int) ((((v0 : Nat) : Int).toNat - a1.toNat : Nat) : Int) 15) (n11 - (0 : Int)).toNat (((((v0 : Nat) : Int).toNat - a1.toNat : Nat) : Int).toNat - (0 : Int).toNat), .agg #[.int .i64 a3.f0, .int .i64 a3.f1, .bool a3.f2, .bool a3.f3, .bool a3.f4, .bool a3.f5, .bool a3.f6, .bool a3.f7, .bool a3.f8, .bool a3.f9]]) Try.func105 nm105 rfl rfl) rfl (F105w0.ok (l0 := n19) (o0 := (o0 + a1) + (0 : Int)) (n0 := n11 - (0 : Int)) (A0 := A0) (c0 := c0) (V0 := slA (slA V0 a1 ((v0 : Nat) : Int) 15) (0 : Int) ((((v0 : Nat) : Int).toNat - a1.toNat : Nat) : Int) 15) (v0 := ((((v0 : Nat) : Int).toNat - a1.toNat : Nat) : Int).toNat - (0 : Int).toNat) (hw0 := hW145) (a1 := a3) C262) rfl ?_)
    rintro _ _ ⟨rfl, rfl⟩
    try rewrite [← hl261]
    try rewrite [← hl261] at sH
    refine DH_open dd sH ?_
    refine DN_done (by kernel_rfl) ?_
    refine at_normal ?_
    refine SA.of_St (l := [(0, .slice V0 n0.toNat v0)]) (B := [Buf k76 76 A0 c0 r260]) (St.mk1 (aeq rfl aeq0) (Gh.sel [1] (by kernel_rfl) (by kernel_rfl))) fun junk => ?_
    refine SA_region ?_
    refine RA_step rfl (OA_v (v := .slice V0 n0.toNat v0) rfl (V_move rfl) ?_)
    obtain ⟨r321, C323, H⟩ := g_bind H
    obtain ⟨hl322, H⟩ := g_pos H
    refine RA_step rfl (OA_callA [0] [] rfl (X_fn (vs := [.slice V0 n0.toNat v0]) Try.func81 nm81 rfl rfl) rfl (F81w0.ok (l0 := r260) (o0 := o0) (n0 := n0) (A0 := A0) (c0 := c0) (V0 := V0) (v0 := v0) (hw0 := hw0) C323) rfl ?_)
    rintro _ _ ⟨rfl, rfl⟩
    try rewrite [← hl322]
    refine RA_nil ?_
    have hr_ := Option.some.inj H
    subst hr_
    exact BQ_n0 [Buf k76 76 A0 c0 r321] rfl (Gh.sel [0] rfl rfl) ⟨rfl, rfl⟩
  replace H := g_iff h12 H
  refine SA_condF rfl h12 ?_
  refine SA_seq ?_
  refine SA_region ?_
  refine RA_step rfl (OA_v (v := .slice (slA V0 a1 ((v0 : Nat) : Int) 15) (n0 - a1).toNat (((v0 : Nat) : Int).toNat - a1.toNat)) rfl (V_move rfl) ?_)
  refine RA_step rfl (OA_v (v := .slice (slA V0 a1 ((v0 : Nat) : Int) 15) (n0 - a1).toNat (((v0 : Nat) : Int).toNat - a1.toNat)) rfl (V_move rfl) ?_)
  refine RA_step rfl (OA_v (v := .int .i64 n11) rfl (V_move rfl) ?_)
  refine RA_step rfl (OA_v (v := .int .i64 (IntKind.i64.wrap (0 - n11))) rfl (V_neg rfl) ?_)
  obtain ⟨⟨g324, g325, g326⟩, H⟩ := g_pos H
  refine RA_step rfl (OA_v (v := .slice (slA (slA V0 a1 ((v0 : Nat) : Int) 15) (IntKind.i64.wrap (0 - n11)) ((((v0 : Nat) : Int).toNat - a1.toNat : Nat) : Int) 15) ((n0 - a1) - (IntKind.i64.wrap (0 - n11))).toNat (((((v0 : Nat) : Int).toNat - a1.toNat : Nat) : Int).toNat - (IntKind.i64.wrap (0 - n11)).toNat)) rfl (V_sliceW (l := o0 + a1) (m := n0 - a1) (a := IntKind.i64.wrap (0 - n11)) (b := n0 - a1) (q := ((((v0 : Nat) : Int).toNat - a1.toNat : Nat) : Int)) hW10 Try.underlying148 sz76 rfl rfl rfl rfl (.inr ⟨_, rfl⟩) (.inl ⟨rfl, rfl, rfl⟩) (.inl ⟨rfl, rfl⟩) g324 g325 g326) ?_)
  have hW329 : Win A0 (slA (slA V0 a1 ((v0 : Nat) : Int) 15) (IntKind.i64.wrap (0 - n11)) ((((v0 : Nat) : Int).toNat - a1.toNat : Nat) : Int) 15) 15 ((o0 + a1) + (IntKind.i64.wrap (0 - n11))) ((n0 - a1) - (IntKind.i64.wrap (0 - n11))) (((((v0 : Nat) : Int).toNat - a1.toNat : Nat) : Int).toNat - (IntKind.i64.wrap (0 - n11)).toNat) := Win.sub hW10 g324 g325 g326 (.inl rfl)
  obtain ⟨n330, hn330, H⟩ := g_lt H
  have hl_n330 : n330.length = l0.length := by rw [hn330]; exact over_len (by rw [List.length_take]; omega)
  refine RA_step rfl (OA_copyV (k := 0) (l := o0 + a1) (m := n0 - a1) (xs := l0) (ys := sub l0 ((o0 + a1) + (IntKind.i64.wrap (0 - n11))) (((o0 + a1) + (IntKind.i64.wrap (0 - n11))) + ((n0 - a1) - (IntKind.i64.wrap (0 - n11))))) n330 hn330 hW10 rfl Try.underlying148 sz76 rfl rfl rfl (by omega) rfl (Cpy.win (Src.buf (k := 0) rfl) hW329 rfl (by omega)) ?_)
  try rewrite [← hl_n330]
  refine RA_nil ?_
  refine at_normal ?_
  refine SA_drawHq [0, 1, 2, 3, 4, 5, 6] #[[], [], [1], [], [1, 2, 3], [0, 1, 2, 3, 4], [], [0, 1, 2, 3, 4, 5, 6]] [1] [0] mixed rfl rfl rfl (PanOk.thn PanOk.body) fun I0 hS h0 hh0 w0 sH dd pk => ?_
  refine DH_take (v := .slice (slA V0 a1 ((v0 : Nat) : Int) 15) (n0 - a1).toNat (((v0 : Nat) : Int).toNat - a1.toNat)) 0 (by kernel_rfl) rfl rfl (.no rfl) pk sH rfl (VR.ofV (V_move rfl)) ?_
  refine DH_take (v := .slice (slA V0 a1 ((v0 : Nat) : Int) 15) (n0 - a1).toNat (((v0 : Nat) : Int).toNat - a1.toNat)) 1 (by kernel_rfl) rfl rfl (.no rfl) pk sH rfl (VR.ofV (V_move rfl)) ?_
  refine DH_take (v := .int .i64 (n0 - a1)) 2 (by kernel_rfl) rfl rfl (.no rfl) pk sH rfl (VR.ofV (V_lenW hW10 Try.underlying148 rfl)) ?_
  refine DH_take (v := .int .i64 n11) 3 (by kernel_rfl) rfl rfl (.no rfl) pk sH rfl (VR.ofV (V_move rfl)) ?_
  refine DH_take (v := .int .i64 (IntKind.i64.wrap ((n0 - a1) + n11))) 4 (by kernel_rfl) rfl rfl (.no rfl) pk sH rfl (VR.ofV (V_add rfl rfl)) ?_
  obtain ⟨⟨g631, g632, g633⟩, H⟩ := g_pos H
  refine DH_take (v := .slice (slA (slA V0 a1 ((v0 : Nat) : Int) 15) (IntKind.i64.wrap ((n0 - a1) + n11)) ((((v0 : Nat) : Int).toNat - a1.toNat : Nat) : Int) 15) ((n0 - a1) - (IntKind.i64.wrap ((n0 - a1) + n11))).toNat (((((v0 : Nat) : Int).toNat - a1.toNat : Nat) : Int).toNat - (IntKind.i64.wrap ((n0 - a1) + n11)).toNat)) 5 (by kernel_rfl) rfl rfl (.no rfl) pk sH rfl (VR.ofV (V_sliceW (l := o0 + a1) (m := n0 - a1) (a := IntKind.i64.wrap ((n0 - a1) + n11)) (b := n0 - a1) (q := ((((v0 : Nat) : Int).toNat - a1.toNat : Nat) : Int)) hW10 Try.underlying148 sz76 rfl rfl rfl rfl (.inr ⟨_, rfl⟩) (.inl ⟨rfl, rfl, rfl⟩) (.inl ⟨rfl, rfl⟩) g631 g632 g633)) ?_
  have hW636 : Win A0 (slA (slA V0 a1 ((v0 : Nat) : Int) 15) (IntKind.i64.wrap ((n0 - a1) + n11)) ((((v0 : Nat) : Int).toNat - a1.toNat : Nat) : Int) 15) 15 ((o0 + a1) + (IntKind.i64.wrap ((n0 - a1) + n11))) ((n0 - a1) - (IntKind.i64.wrap ((n0 - a1) + n11))) (((((v0 : Nat) : Int).toNat - a1.toNat : Nat) : Int).toNat - (IntKind.i64.wrap ((n0 - a1) + n11)).toNat) := Win.sub hW10 g631 g632 g633 (.inl rfl)
  refine DH_take 6 (by kernel_rfl) rfl rfl (.no rfl) pk sH rfl (VR_loadA_blk (b := b2) (m := 0) (k := 0) (vs := [.int .i64 a3.f0, .int .i64 a3.f1, .bool a3.f2, .bool a3.f3, .bool a3.f4, .bool a3.f5, .bool a3.f6, .bool a3.f7, .bool a3.f8, .bool a3.f9]) Try.underlying70 rfl sz70 rfl rfl rfl) ?_
  obtain ⟨r751, C753, H⟩ := g_bind H
  obtain ⟨hl752, H⟩ := g_pos H
  refine DH_one 7 dd (by kernel_rfl) rfl (.no rfl) (OA_callA [0] [] rfl (X_fn (vs := [.slice (slA (slA V0 a1 ((v0 : Nat) : Int) 15) (IntKind.i64.wrap ((n0 - a1) + n11)) ((((v0 : Nat) : Int).toNat - a1.toNat : Nat) : Int) 15) ((n0 - a1) - (IntKind.i64.wrap ((n0 - a1) + n11))).toNat (((((v0 : Nat) : Int).toNat - a1.toNat : Nat) : Int).toNat - (IntKind.i64.wrap ((n0 - a1) + n11)).toNat), .agg #[.int .i64 a3.f0, .int .i64 a3.f1, .bool a3.f2, .bool a3.f3, .bool a3.f4, .bool a3.f5, .bool a3.f6, .bool a3.f7, .bool a3.f8, .bool a3.f9]]) Try.func105 nm105 rfl rfl) rfl (F105w0.ok (l0 := n330) (o0 := (o0 + a1) + (IntKind.i64.wrap ((n0 - a1) + n11))) (n0 := (n0 - a1) - (IntKind.i64.wrap ((n0 - a1) + n11))) (A0 := A0) (c0 := c0) (V0 := slA (slA V0 a1 ((v0 : Nat) : Int) 15) (IntKind.i64.wrap ((n0 - a1) + n11)) ((((v0 : Nat) : Int).toNat - a1.toNat : Nat) : Int) 15) (v0 := ((((v0 : Nat) : Int).toNat - a1.toNat : Nat) : Int).toNat - (IntKind.i64.wrap ((n0 - a1) + n11)).toNat) (hw0 := hW636) (a1 := a3) C753) rfl ?_)
  rintro _ _ ⟨rfl, rfl⟩
  try rewrite [← hl752]
  try rewrite [← hl752] at sH
  refine DH_open dd sH ?_
  refine DN_done (by kernel_rfl) ?_
  refine at_normal ?_
  refine SA.of_St (l := [(0, .slice V0 n0.toNat v0)]) (B := [Buf k76 76 A0 c0 r751]) (St.mk1 (aeq rfl aeq0) (Gh.sel [1] (by kernel_rfl) (by kernel_rfl))) fun junk => ?_
  refine SA_region ?_
  refine RA_step rfl (OA_v (v := .slice V0 n0.toNat v0) rfl (V_move rfl) ?_)
  obtain ⟨r812, C814, H⟩ := g_bind H
  obtain ⟨hl813, H⟩ := g_pos H
  refine RA_step rfl (OA_callA [0] [] rfl (X_fn (vs := [.slice V0 n0.toNat v0]) Try.func81 nm81 rfl rfl) rfl (F81w0.ok (l0 := r751) (o0 := o0) (n0 := n0) (A0 := A0) (c0 := c0) (V0 := V0) (v0 := v0) (hw0 := hw0) C814) rfl ?_)
  rintro _ _ ⟨rfl, rfl⟩
  try rewrite [← hl813]
  refine RA_nil ?_
  have hr_ := Option.some.inj H
  subst hr_
  exact BQ_n0 [Buf k76 76 A0 c0 r812] rfl (Gh.sel [0] rfl rfl) ⟨rfl, rfl⟩

/-! ### function 43: wayfarer/grid.Shift -/
def F43.f (k : Nat) (a0 : S67) (a1 : Int) (a2 : Int) (a3 : Int) (a4 : S70) : Option (S67 × Int) := (F76.f k a0 a1 a4).bind (fun r8 => if (0 ≤ r8.2.1.1 ∧ 0 ≤ r8.2.1.2 ∧ r8.2.1.1 + r8.2.1.2 ≤ (r8.1.f2.length : Int)) then (lt ((!r8.2.2) || (decide (a2 < 0))) fun q18 => lt (q18 || (decide (a2 ≥ a0.f0))) fun q21 => if q21 = true then (some (((S67.mk 0 0 ([] : (List S76))), 2))) else ((F88w0.f k r8.1.f2 r8.2.1.1 r8.2.1.2 a2 a3 a4).bind (fun r27 => if r27.length = r8.1.f2.length then (some (((S67.mk r8.1.f0 r8.1.f1 r27), 0))) else none))) else none)
set_option maxHeartbeats 2000000 in
set_option maxRecDepth 100000 in
theorem F43.ok {k : Nat} {a0 : S67} {a1 : Int} {a2 : Int} {a3 : Int} {a4 : S70} {A0_0 : Option Addr} {c0_0 : Nat} {r : S67 × Int} (H : F43.f k a0 a1 a2 a3 a4 = some r) : SCA Try.prog 43 #[.agg #[.int .i64 a0.f0, .int .i64 a0.f1, .slice A0_0 a0.f2.length c0_0], .int .i64 a1, .int .i64 a2, .int .i64 a3, .agg #[.int .i64 a4.f0, .int .i64 a4.f1, .bool a4.f2, .bool a4.f3, .bool a4.f4, .bool a4.f5, .bool a4.f6, .bool a4.f7, .bool a4.f8, .bool a4.f9]] [Ro k76 A0_0 c0_0 a0.f2] (fun v B => ∃ (A0_0_ : Option Addr) (c0_0_ : Nat), v = .tuple #[.agg #[.int .i64 r.1.f0, .int .i64 r.1.f1, .slice A0_0_ r.1.f2.length c0_0_], .int .i64 r.2] ∧ B = [Buf k76 76 A0_0_ c0_0_ r.1.f2]) := by
  refine SCA_of_body Try.func43 rfl rfl ?_
  unfold F43.f at H
  refine SA_seq ?_
  refine SA_region ?_
  refine RA_step rfl (OA_box rfl rfl fun b2 => ?_)
  refine RA_step rfl (OA_box rfl rfl fun b4 => ?_)
  refine RA_step rfl (OA_alloc rfl zero67 fun b6 => ?_)
  refine RA_step rfl (OA_v (v := .int .i64 0) rfl (V_assign rfl) ?_)
  refine RA_nil ?_
  refine at_normal ?_
  refine SA_seq ?_
  refine SA_region ?_
  refine RA_step rfl (OA_r rfl (VR_loadA_blk (b := b2) (m := 0) (k := 1) (vs := [.int .i64 a0.f0, .int .i64 a0.f1, .slice A0_0 a0.f2.length c0_0]) Try.underlying67 rfl sz67 rfl rfl rfl) ?_)
  refine RA_step rfl (OA_v (v := .int .i64 a1) rfl (V_move rfl) ?_)
  refine RA_step rfl (OA_r rfl (VR_loadA_blk (b := b4) (m := 0) (k := 2) (vs := [.int .i64 a4.f0, .int .i64 a4.f1, .bool a4.f2, .bool a4.f3, .bool a4.f4, .bool a4.f5, .bool a4.f6, .bool a4.f7, .bool a4.f8, .bool a4.f9]) Try.underlying70 rfl sz70 rfl rfl rfl) ?_)
  obtain ⟨r8, C30, H⟩ := g_bind H
  obtain ⟨⟨hl15a, hl15b, hl15c⟩, H⟩ := g_pos H
  refine RA_step rfl (OA_callA [0] [0, 1, 2, 3] rfl (X_fn (vs := [.agg #[.int .i64 a0.f0, .int .i64 a0.f1, .slice A0_0 a0.f2.length c0_0], .int .i64 a1, .agg #[.int .i64 a4.f0, .int .i64 a4.f1, .bool a4.f2, .bool a4.f3, .bool a4.f4, .bool a4.f5, .bool a4.f6, .bool a4.f7, .bool a4.f8, .bool a4.f9]]) Try.func76 nm76 rfl rfl) rfl (F76.ok (a0 := a0) (A0_0 := A0_0) (c0_0 := c0_0) (a1 := a1) (a2 := a4) C30) rfl ?_)
  rintro _ _ ⟨A9, c10, V12, v13, hW14, rfl, rfl⟩
  refine RA_step rfl (OA_v (v := .tuple #[.agg #[.int .i64 r8.1.f0, .int .i64 r8.1.f1, .slice A9 r8.1.f2.length c10], .slice V12 r8.2.1.2.toNat v13, .bool r8.2.2]) rfl (V_move rfl) ?_)
  refine RA_step rfl (OA_v (v := .agg #[.int .i64 r8.1.f0, .int .i64 r8.1.f1, .slice A9 r8.1.f2.length c10]) rfl (V_extract rfl rfl) ?_)
  refine RA_step rfl (OA_v (v := .slice V12 r8.2.1.2.toNat v13) rfl (V_extract rfl rfl) ?_)
  refine RA_step rfl (OA_v (v := .bool r8.2.2) rfl (V_extract rfl rfl) ?_)
  refine RA_step rfl (OA_alloc rfl zero67 fun b16 => ?_)
  refine RA_step rfl (OA_st (b := b16) (m := 0) (k := 5) (vs := [.int .i64 r8.1.f0, .int .i64 r8.1.f1, .slice A9 r8.1.f2.length c10]) (cs' := [.int .i64 r8.1.f0, .int .i64 r8.1.f1, .slice A9 r8.1.f2.length c10]) rfl rfl rfl rfl rfl rfl sz67 rfl rfl ?_)
  refine RA_step rfl (OA_v (v := .slice V12 r8.2.1.2.toNat v13) rfl (V_assign rfl) ?_)
  refine RA_step rfl (OA_v (v := .bool r8.2.2) rfl (V_assign rfl) ?_)
  refine RA_nil ?_
  refine at_normal ?_
  refine SA_seq ?_
  refine SA_seq ?_
  refine SA_region ?_
  refine RA_step rfl (OA_v (v := .bool r8.2.2) rfl (V_move rfl) ?_)
  refine RA_step rfl (OA_v (v := .bool (!r8.2.2)) rfl (V_not rfl) ?_)
  refine RA_step rfl (OA_v (v := .bool (!r8.2.2)) rfl (V_move rfl) ?_)
  obtain ⟨q18, hq18, H⟩ := g_lt H
  refine RA_cut 3 (fun e ds As => St [(2, .int .i64 a2), (3, .int .i64 a3), (5, .pointer (some ⟨b2, 0, none⟩)), (9, .pointer (some ⟨b4, 0, none⟩)), (10, .pointer (some ⟨b6, 0, none⟩)), (12, .pointer (some ⟨b16, 0, none⟩)), (13, .slice V12 r8.2.1.2.toNat v13), (28, .bool q18)] [Blk b2 67 [.int .i64 a0.f0, .int .i64 a0.f1, .slice A0_0 a0.f2.length c0_0], Ro k76 A0_0 c0_0 a0.f2, Blk b4 70 [.int .i64 a4.f0, .int .i64 a4.f1, .bool a4.f2, .bool a4.f3, .bool a4.f4, .bool a4.f5, .bool a4.f6, .bool a4.f7, .bool a4.f8, .bool a4.f9], Blk b6 67 [.int .i64 0, .int .i64 0, .slice none 0 0], Blk b16 67 [.int .i64 r8.1.f0, .int .i64 r8.1.f1, .slice A9 r8.1.f2.length c10], Buf k76 76 A9 c10 r8.1.f2] e ds As) ?_ ?_
  · by_cases h19 : (!r8.2.2) = true
    · refine RA_noB rfl rfl rfl rfl (h19) rfl ?_
      refine RA_noB rfl rfl rfl rfl (h19) rfl ?_
      refine RA_step rfl (OA_v rfl (V_pickT rfl (h19) rfl) ?_)
      refine RA_nil ?_
      exact at_normal (St.mk1 (aeq rfl (aeq rfl (aeq rfl (aeq rfl (aeq rfl (aeq rfl (aeq rfl (aeq (congrArg Value.bool (or_t hq18 (h19))) aeq0)))))))) (Gh.sel [2, 1, 3, 4, 5, 0] rfl rfl))
    refine RA_yesB rfl rfl rfl rfl (bno h19) (OA_v (v := .int .i64 a2) rfl (V_move rfl) ?_)
    refine RA_yesB rfl rfl rfl rfl (bno h19) (OA_v (v := .bool (decide (a2 < 0))) rfl (V_lss rfl rfl) ?_)
    refine RA_step rfl (OA_v rfl (V_pickF rfl (bno h19) rfl) ?_)
    refine RA_nil ?_
    exact at_normal (St.mk1 (aeq rfl (aeq rfl (aeq rfl (aeq rfl (aeq rfl (aeq rfl (aeq rfl (aeq (congrArg Value.bool (or_f hq18 (bno h19))) aeq0)))))))) (Gh.sel [2, 1, 3, 4, 5, 0] rfl rfl))
  rintro e ds As hst20
  refine RA.of_St rfl hst20 fun junk => ?_
  refine RA_step rfl (OA_v (v := .bool q18) rfl (V_move rfl) ?_)
  obtain ⟨q21, hq21, H⟩ := g_lt H
  refine RA_cut 5 (fun e ds As => St [(2, .int .i64 a2), (3, .int .i64 a3), (9, .pointer (some ⟨b4, 0, none⟩)), (10, .pointer (some ⟨b6, 0, none⟩)), (12, .pointer (some ⟨b16, 0, none⟩)), (13, .slice V12 r8.2.1.2.toNat v13), (34, .bool q21)] [Blk b4 70 [.int .i64 a4.f0, .int .i64 a4.f1, .bool a4.f2, .bool a4.f3, .bool a4.f4, .bool a4.f5, .bool a4.f6, .bool a4.f7, .bool a4.f8, .bool a4.f9], Blk b6 67 [.int .i64 0, .int .i64 0, .slice none 0 0], Blk b16 67 [.int .i64 r8.1.f0, .int .i64 r8.1.f1, .slice A9 r8.1.f2.length c10], Buf k76 76 A9 c10 r8.1.f2] e ds As) ?_ ?_
  · by_cases h22 : q18 = true
    · refine RA_noB rfl rfl rfl rfl (h22) rfl ?_
      refine RA_noB rfl rfl rfl rfl (h22) rfl ?_
      refine RA_noB rfl rfl rfl rfl (h22) rfl ?_
      refine RA_noB rfl rfl rfl rfl (h22) rfl ?_
      refine RA_step rfl (OA_v rfl (V_pickT rfl (h22) rfl) ?_)
      refine RA_nil ?_
      exact at_normal (St.mk1 (aeq rfl (aeq rfl (aeq rfl (aeq rfl (aeq rfl (aeq rfl (aeq (congrArg Value.bool (or_t hq21 (h22))) aeq0))))))) (Gh.sel [2, 3, 4, 5] rfl rfl))
    refine RA_yesB rfl rfl rfl rfl (bno h22) (OA_v (v := .int .i64 a2) rfl (V_move rfl) ?_)
    refine RA_yesB rfl rfl rfl rfl (bno h22) (OA_v (v := .pointer (some ⟨b2, 0, none⟩)) rfl (V_fieldAddrN (B := ⟨b2, 0, none⟩) (m := 0) (o := 0) Try.underlying67 rfl nz3 rfl rfl) ?_)
    refine RA_yesB rfl rfl rfl rfl (bno h22) (OA_r rfl (VR_load_blk (b := b2) (m := 0) (k := 0) Try.underlying3 rfl rfl rfl rfl) ?_)
    refine RA_yesB rfl rfl rfl rfl (bno h22) (OA_v (v := .bool (decide (a2 ≥ a0.f0))) rfl (V_geq rfl rfl) ?_)
    refine RA_step rfl (OA_v rfl (V_pickF rfl (bno h22) rfl) ?_)
    refine RA_nil ?_
    exact at_normal (St.mk1 (aeq rfl (aeq rfl (aeq rfl (aeq rfl (aeq rfl (aeq rfl (aeq (congrArg Value.bool (or_f hq21 (bno h22))) aeq0))))))) (Gh.sel [2, 3, 4, 5] rfl rfl))
  rintro e ds As hst23
  refine RA_nil ?_
  refine at_normal ?_
  refine SA.of_St hst23 fun junk => ?_
  by_cases h24 : q21 = true
  · replace H := g_ift h24 H
    refine SA_condTb rfl h24 ?_
    refine SA_seq ?_
    refine SA_region ?_
    refine RA_step rfl (OA_v (v := .agg #[.int .i64 0, .int .i64 0, .slice none 0 0]) rfl (V_build (cells := [.int .i64 0, .int .i64 0, .slice none 0 0]) zero67 Try.underlying67 plc67 (by kernel_rfl)) ?_)
    refine RA_step rfl (OA_st (b := b6) (m := 0) (k := 1) (vs := [.int .i64 0, .int .i64 0, .slice none 0 0]) (cs' := [.int .i64 0, .int .i64 0, .slice none 0 0]) rfl rfl rfl rfl rfl rfl sz67 rfl rfl ?_)
    refine RA_step rfl (OA_v (v := .int .i64 2) rfl (V_assign rfl) ?_)
    refine RA_nil ?_
    refine at_normal ?_
    refine SA_ret ?_
    refine thn_ret ?_
    have hr_ := Option.some.inj H
    subst hr_
    exact BQ_RL (rs := [.cell 10 67, .tmp 11]) (vs := [.agg #[.int .i64 0, .int .i64 0, .slice none 0 0], .int .i64 2]) [Buf k76 76 none 0 ([] : (List S76))] rfl ⟨RV.cell (k := 1) rfl rfl Try.underlying67 rfl sz67, RV.tmp rfl, trivial⟩ rfl ((Gh.nilBuf k76 76).trans (Gh.sel [4] rfl rfl)) ⟨none, 0, rfl, rfl⟩
  replace H := g_iff h24 H
  refine SA_condFb rfl h24 ?_
  refine SA_skip ?_
  refine at_normal ?_
  refine SA_seq ?_
  refine SA.fact (cap_of (k := 3) rfl) fun hc26 => ?_
  refine SA_region ?_
  refine RA_step rfl (OA_v (v := .slice V12 r8.2.1.2.toNat v13) rfl (V_move rfl) ?_)
  refine RA_step rfl (OA_v (v := .int .i64 a2) rfl (V_move rfl) ?_)
  refine RA_step rfl (OA_v (v := .int .i64 a3) rfl (V_move rfl) ?_)
  refine RA_step rfl (OA_r rfl (VR_loadA_blk (b := b4) (m := 0) (k := 0) (vs := [.int .i64 a4.f0, .int .i64 a4.f1, .bool a4.f2, .bool a4.f3, .bool a4.f4, .bool a4.f5, .bool a4.f6, .bool a4.f7, .bool a4.f8, .bool a4.f9]) Try.underlying70 rfl sz70 rfl rfl rfl) ?_)
  obtain ⟨r27, C29, H⟩ := g_bind H
  obtain ⟨hl28, H⟩ := g_pos H
  refine RA_step rfl (OA_callA [3] [0, 1, 2] rfl (X_fn (vs := [.slice V12 r8.2.1.2.toNat v13, .int .i64 a2, .int .i64 a3, .agg #[.int .i64 a4.f0, .int .i64 a4.f1, .bool a4.f2, .bool a4.f3, .bool a4.f4, .bool a4.f5, .bool a4.f6, .bool a4.f7, .bool a4.f8, .bool a4.f9]]) Try.func88 nm88 rfl rfl) rfl (F88w0.ok (l0 := r8.1.f2) (o0 := r8.2.1.1) (n0 := r8.2.1.2) (A0 := A9) (c0 := c10) (V0 := V12) (v0 := v13) (hw0 := hW14) (a1 := a2) (a2 := a3) (a3 := a4) C29) rfl ?_)
  rintro _ _ ⟨rfl, rfl⟩
  try rewrite [← hl28]
  refine RA_nil ?_
  refine at_normal ?_
  refine SA_seq ?_
  refine SA_region ?_
  refine RA_step rfl (OA_r rfl (VR_loadA_blk (b := b16) (m := 0) (k := 3) (vs := [.int .i64 r8.1.f0, .int .i64 r8.1.f1, .slice A9 r27.length c10]) Try.underlying67 rfl sz67 rfl rfl rfl) ?_)
  refine RA_step rfl (OA_st (b := b6) (m := 0) (k := 2) (vs := [.int .i64 r8.1.f0, .int .i64 r8.1.f1, .slice A9 r27.length c10]) (cs' := [.int .i64 r8.1.f0, .int .i64 r8.1.f1, .slice A9 r27.length c10]) rfl rfl rfl rfl rfl rfl sz67 rfl rfl ?_)
  refine RA_step rfl (OA_v (v := .int .i64 0) rfl (V_assign rfl) ?_)
  refine RA_nil ?_
  refine at_normal ?_
  refine SA_ret ?_
  have hr_ := Option.some.inj H
  subst hr_
  exact BQ_RL (rs := [.cell 10 67, .tmp 11]) (vs := [.agg #[.int .i64 r8.1.f0, .int .i64 r8.1.f1, .slice A9 r27.length c10], .int .i64 0]) [Buf k76 76 A9 c10 r27] rfl ⟨RV.cell (k := 2) rfl rfl Try.underlying67 rfl sz67, RV.tmp rfl, trivial⟩ rfl (Gh.sel [0] rfl rfl) ⟨A9, c10, rfl, rfl⟩
end Go.Proofs.Ytodkeoibebimgaa.Gr

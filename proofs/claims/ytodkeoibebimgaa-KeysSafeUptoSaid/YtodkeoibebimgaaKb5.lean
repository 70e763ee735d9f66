/- What functions compute, and that they do: 7, 16, 19, 34. -/
import Derived.Test.YtodkeoibebimgaaKb0
import Derived.Test.YtodkeoibebimgaaKb1
import Derived.Test.YtodkeoibebimgaaKb4
namespace Go.Proofs.Ytodkeoibebimgaa.Kb
open Go Go.RowKit Go.Proofs.Ytodkeoibebimgaa.SL
set_option linter.unusedVariables false
set_option linter.unusedSimpArgs false
attribute [local irreducible] IntKind.wrap minI maxI shrI shlI andI orI xorI andNotI cplI rd sub bytesOf strOf slA
/-! ### function 34: wayfarer/keys.All -/
def F34.l0 (a0 : S83) (l1 : (List S25)) : Nat → (List Int) → Int → Option (Out ((List Int) × Int) ((List Int)))
  | 0, _, _ => none
  | k + 1, x6_15, x16_15 => if x16_15 < (l1.length : Int) then (if 0 ≤ x16_15 ∧ x16_15 < (l1.length : Int) then ((F14.f k (rd l1 x16_15) a0.f11 a0.f12).bind (fun r30 => if r30.2 ≠ 0 then (some (Out.ret ((([] : (List Int)), r30.2)))) else ((F58.f x6_15 r30.1).bind (fun r36 => F34.l0 a0 l1 k r36 (IntKind.i64.wrap (x16_15 + 1)))))) else none) else (some (Out.go x6_15))
def F34.f (k : Nat) (a0 : S83) (l1 : (List S25)) : Option ((List Int) × Int) := (F74.f k a0).bind (fun r8 => if (!r8) = true then (some ((([] : (List Int)), 2))) else ((F34.l0 a0 l1 k ([]) 0 : Option (Out ((List Int) × Int) ((List Int)))).bind (fun t11 => Out.el t11 (fun r_ => some r_) (fun s12 => some ((s12, 0))))))
set_option maxHeartbeats 2000000 in
set_option maxRecDepth 100000 in
theorem F34.ok {k : Nat} {a0 : S83} {l1 : (List S25)} {A0_0 : Option Addr} {c0_0 : Nat} {A0_1 : Option Addr} {c0_1 : Nat} {A0_2 : Option Addr} {c0_2 : Nat} {A0_3 : Option Addr} {c0_3 : Nat} {A1 : Option Addr} {c1 : Nat} {r : (List Int) × Int} (H : F34.f k a0 l1 = some r) : SCA Try.prog 34 #[.agg (List.toArray (.int .i64 a0.f0.f0 :: .int .i64 a0.f0.f1 :: .slice A0_0 a0.f0.f2.length c0_0 :: .int .i64 a0.f1 :: .int .i64 a0.f2 :: .bool a0.f3 :: .int .i64 a0.f4.f0 :: .int .i64 a0.f4.f1 :: .bool a0.f4.f2 :: .bool a0.f4.f3 :: .bool a0.f4.f4 :: .bool a0.f4.f5 :: .bool a0.f4.f6 :: .bool a0.f4.f7 :: .bool a0.f4.f8 :: .bool a0.f4.f9 :: .int .i64 a0.f5 :: .int .i64 a0.f6 :: .slice A0_1 a0.f7.length c0_1 :: .bool a0.f8 :: .bool a0.f9 :: .bool a0.f10 :: .bool a0.f11 :: .bool a0.f12 :: .bool a0.f13 :: .int .i64 a0.f14.f0 :: .int .i64 a0.f14.f1 :: .bool a0.f14.f2 :: .bool a0.f14.f3 :: .int .i64 a0.f14.f4.f0 :: .int .i64 a0.f14.f4.f1 :: .bool a0.f14.f4.f2 :: .bool a0.f14.f4.f3 :: .bool a0.f14.f4.f4 :: .bool a0.f14.f4.f5 :: .bool a0.f14.f4.f6 :: .bool a0.f14.f4.f7 :: .bool a0.f14.f4.f8 :: .bool a0.f14.f4.f9 :: .bool a0.f15 :: .int .i64 a0.f16.f0 :: .int .i64 a0.f16.f1 :: .slice A0_2 a0.f16.f2.length c0_2 :: .slice A0_3 a0.f17.length c0_3 :: [])), .slice A1 l1.length c1] [Ro k76 A0_0 c0_0 a0.f0.f2, Ro (Kd.int .i64) A0_1 c0_1 a0.f7, Ro k76 A0_2 c0_2 a0.f16.f2, Ro (Kd.int .i32) A0_3 c0_3 a0.f17, Ro k25 A1 c1 l1] (fun v B => ∃ (A0_0_ : Option Addr) (c0_0_ : Nat), v = .tuple #[.slice A0_0_ r.1.length c0_0_, .int .i64 r.2] ∧ B = [Buf (Kd.int .u8) 5 A0_0_ c0_0_ r.1]) := by
  refine SCA_of_body Try.func34 rfl rfl ?_
  unfold F34.f at H
  refine SA_seq ?_
  refine SA_region ?_
  refine RA_step rfl (OA_box rfl rfl fun b6 => ?_)
  refine RA_step rfl (OA_v (v := .slice none 0 0) rfl (V_assign rfl) ?_)
  refine RA_step rfl (OA_v (v := .int .i64 0) rfl (V_assign rfl) ?_)
  refine RA_nil ?_
  refine at_normal ?_
  refine SA_seq ?_
  refine SA_seq ?_
  refine SA_region ?_
  refine RA_step rfl (OA_r rfl (VR_loadA_blk (b := b6) (m := 0) (k := 5) (vs := (.int .i64 a0.f0.f0 :: .int .i64 a0.f0.f1 :: .slice A0_0 a0.f0.f2.length c0_0 :: .int .i64 a0.f1 :: .int .i64 a0.f2 :: .bool a0.f3 :: .int .i64 a0.f4.f0 :: .int .i64 a0.f4.f1 :: .bool a0.f4.f2 :: .bool a0.f4.f3 :: .bool a0.f4.f4 :: .bool a0.f4.f5 :: .bool a0.f4.f6 :: .bool a0.f4.f7 :: .bool a0.f4.f8 :: .bool a0.f4.f9 :: .int .i64 a0.f5 :: .int .i64 a0.f6 :: .slice A0_1 a0.f7.length c0_1 :: .bool a0.f8 :: .bool a0.f9 :: .bool a0.f10 :: .bool a0.f11 :: .bool a0.f12 :: .bool a0.f13 :: .int .i64 a0.f14.f0 :: .int .i64 a0.f14.f1 :: .bool a0.f14.f2 :: .bool a0.f14.f3 :: .int .i64 a0.f14.f4.f0 :: .int .i64 a0.f14.f4.f1 :: .bool a0.f14.f4.f2 :: .bool a0.f14.f4.f3 :: .bool a0.f14.f4.f4 :: .bool a0.f14.f4.f5 :: .bool a0.f14.f4.f6 :: .bool a0.f14.f4.f7 :: .bool a0.f14.f4.f8 :: .bool a0.f14.f4.f9 :: .bool a0.f15 :: .int .i64 a0.f16.f0 :: .int .i64 a0.f16.f1 :: .slice A0_2 a0.f16.f2.length c0_2 :: .slice A0_3 a0.f17.length c0_3 :: [])) Try.underlying83 rfl sz83 rfl rfl rfl) ?_)
  obtain ⟨r8, C43, H⟩ := g_bind H
  refine RA_step rfl (OA_callA [0, 1, 2, 3] [0, 1, 2, 3, 4, 5] rfl (X_fn (vs := [.agg (List.toArray (.int .i64 a0.f0.f0 :: .int .i64 a0.f0.f1 :: .slice A0_0 a0.f0.f2.length c0_0 :: .int .i64 a0.f1 :: .int .i64 a0.f2 :: .bool a0.f3 :: .int .i64 a0.f4.f0 :: .int .i64 a0.f4.f1 :: .bool a0.f4.f2 :: .bool a0.f4.f3 :: .bool a0.f4.f4 :: .bool a0.f4.f5 :: .bool a0.f4.f6 :: .bool a0.f4.f7 :: .bool a0.f4.f8 :: .bool a0.f4.f9 :: .int .i64 a0.f5 :: .int .i64 a0.f6 :: .slice A0_1 a0.f7.length c0_1 :: .bool a0.f8 :: .bool a0.f9 :: .bool a0.f10 :: .bool a0.f11 :: .bool a0.f12 :: .bool a0.f13 :: .int .i64 a0.f14.f0 :: .int .i64 a0.f14.f1 :: .bool a0.f14.f2 :: .bool a0.f14.f3 :: .int .i64 a0.f14.f4.f0 :: .int .i64 a0.f14.f4.f1 :: .bool a0.f14.f4.f2 :: .bool a0.f14.f4.f3 :: .bool a0.f14.f4.f4 :: .bool a0.f14.f4.f5 :: .bool a0.f14.f4.f6 :: .bool a0.f14.f4.f7 :: .bool a0.f14.f4.f8 :: .bool a0.f14.f4.f9 :: .bool a0.f15 :: .int .i64 a0.f16.f0 :: .int .i64 a0.f16.f1 :: .slice A0_2 a0.f16.f2.length c0_2 :: .slice A0_3 a0.f17.length c0_3 :: []))]) Try.func74 nm74 rfl rfl) rfl (F74.ok (a0 := a0) (A0_0 := A0_0) (c0_0 := c0_0) (A0_1 := A0_1) (c0_1 := c0_1) (A0_2 := A0_2) (c0_2 := c0_2) (A0_3 := A0_3) (c0_3 := c0_3) C43) rfl ?_)
  rintro _ _ ⟨rfl, rfl⟩
  refine RA_step rfl (OA_v (v := .bool (!r8)) rfl (V_not rfl) ?_)
  refine RA_nil ?_
  refine at_normal ?_
  by_cases h9 : (!r8) = true
  · replace H := g_ift h9 H
    refine SA_condTb rfl h9 ?_
    refine SA_seq ?_
    refine SA_region ?_
    refine RA_step rfl (OA_v (v := .slice none 0 0) rfl (V_assign rfl) ?_)
    refine RA_step rfl (OA_v (v := .int .i64 2) rfl (V_assign rfl) ?_)
    refine RA_nil ?_
    refine at_normal ?_
    refine SA_ret ?_
    refine thn_ret ?_
    have hr_ := Option.some.inj H
    subst hr_
    exact BQ_R2 [Buf (Kd.int .u8) 5 none 0 ([] : (List Int))] rfl rfl rfl ((Gh.nilBuf (Kd.int .u8) 5).trans (Gh.sel [6] rfl rfl)) ⟨none, 0, rfl, rfl⟩
  · replace H := g_iff h9 H
    refine SA_condFb rfl h9 ?_
    refine SA_skip ?_
    refine at_normal ?_
    refine SA_seq ?_
    refine SA_region ?_
    refine RA_step rfl (OA_v (v := .slice none 0 0) rfl (V_assign rfl) ?_)
    refine RA_nil ?_
    refine at_normal ?_
    refine SA_seq ?_
    refine SA_seq ?_
    refine SA_region ?_
    refine RA_step rfl (OA_v (v := .slice A1 l1.length c1) rfl (V_move rfl) ?_)
    refine RA_step rfl (OA_v (v := .int .i64 (l1.length : Int)) rfl (V_len Try.underlying84 rfl) ?_)
    refine RA_step rfl (OA_v (v := .int .i64 0) rfl (V_move rfl) ?_)
    refine RA_nil ?_
    refine at_normal ?_
    obtain ⟨t11, H, Bt11⟩ := g_bind H
    refine SA_mid (fun e ds As => ∃ (s12 : (List Int)), t11 = Out.go s12 ∧ ∃ (A13 : Option Addr) (c14 : Nat), St [(6, .slice A13 s12.length c14)] [Buf (Kd.int .u8) 5 A13 c14 s12] e ds As) ?_ ?_
    · refine SA_block ?_
      refine SA_loop (fun k_ e ds As => ∃ (x6_15 : (List Int)) (x16_15 : Int), ∃ (A16 : Option Addr) (c17 : Nat), F34.l0 a0 l1 k_ x6_15 x16_15 = some t11 ∧ St [(2, .pointer (some ⟨b6, 0, none⟩)), (6, .slice A16 x6_15.length c17), (14, .slice A1 l1.length c1), (15, .int .i64 (l1.length : Int)), (16, .int .i64 x16_15)] [Blk b6 83 (.int .i64 a0.f0.f0 :: .int .i64 a0.f0.f1 :: .slice A0_0 a0.f0.f2.length c0_0 :: .int .i64 a0.f1 :: .int .i64 a0.f2 :: .bool a0.f3 :: .int .i64 a0.f4.f0 :: .int .i64 a0.f4.f1 :: .bool a0.f4.f2 :: .bool a0.f4.f3 :: .bool a0.f4.f4 :: .bool a0.f4.f5 :: .bool a0.f4.f6 :: .bool a0.f4.f7 :: .bool a0.f4.f8 :: .bool a0.f4.f9 :: .int .i64 a0.f5 :: .int .i64 a0.f6 :: .slice A0_1 a0.f7.length c0_1 :: .bool a0.f8 :: .bool a0.f9 :: .bool a0.f10 :: .bool a0.f11 :: .bool a0.f12 :: .bool a0.f13 :: .int .i64 a0.f14.f0 :: .int .i64 a0.f14.f1 :: .bool a0.f14.f2 :: .bool a0.f14.f3 :: .int .i64 a0.f14.f4.f0 :: .int .i64 a0.f14.f4.f1 :: .bool a0.f14.f4.f2 :: .bool a0.f14.f4.f3 :: .bool a0.f14.f4.f4 :: .bool a0.f14.f4.f5 :: .bool a0.f14.f4.f6 :: .bool a0.f14.f4.f7 :: .bool a0.f14.f4.f8 :: .bool a0.f14.f4.f9 :: .bool a0.f15 :: .int .i64 a0.f16.f0 :: .int .i64 a0.f16.f1 :: .slice A0_2 a0.f16.f2.length c0_2 :: .slice A0_3 a0.f17.length c0_3 :: []), Ro k76 A0_0 c0_0 a0.f0.f2, Ro (Kd.int .i64) A0_1 c0_1 a0.f7, Ro k76 A0_2 c0_2 a0.f16.f2, Ro (Kd.int .i32) A0_3 c0_3 a0.f17, Buf (Kd.int .u8) 5 A16 c17 x6_15, Ro k25 A1 c1 l1] e ds As) (k := k) ⟨_, _, none, 0, H, St.mk1 (aeq rfl (aeq rfl (aeq rfl (aeq rfl (aeq rfl aeq0))))) ((Gh.nilBuf (Kd.int .u8) 5).trans (Gh.sel [5, 0, 1, 2, 3, 6, 4] rfl rfl))⟩ ?_
      clear H
      rintro k20 e ds As ⟨x6_15, x16_15, A16, c17, H, hst21⟩
      obtain _ | k20 := k20
      · cases H
      rw [F34.l0] at H
      refine SA.of_St hst21 fun junk => ?_
      refine SA_seq ?_
      refine SA_region ?_
      refine RA_step rfl (OA_v (v := .bool (decide (x16_15 < (l1.length : Int)))) rfl (V_lss rfl rfl) ?_)
      refine RA_nil ?_
      refine at_normal ?_
      refine SA_seq ?_
      by_cases h22 : x16_15 < (l1.length : Int)
      · replace H := g_ift h22 H
        refine SA_condT rfl h22 ?_
        refine SA_skip ?_
        refine at_normal ?_
        refine SA_seq ?_
        refine SA_block ?_
        refine SA_seq ?_
        refine SA_region ?_
        obtain ⟨⟨g23, g24⟩, H⟩ := g_pos H
        refine RA_step rfl (OA_r rfl (VR_index (i := x16_15) Try.underlying84 sz25 rfl rfl (Src.ro (k := 6) rfl) g23 g24) ?_)
        refine RA_step rfl (OA_loadSlA (i := x16_15) (j := x16_15.toNat * 5) (m := 0) (sz := 5) (k := 5) (fun vs_ Bs_ => ∃ (A25 : Option Addr) (c26 : Nat), vs_ = [.int .u8 ((rd l1 x16_15).f0), .slice A25 ((rd l1 x16_15).f1).length c26, .int .i64 ((rd l1 x16_15).f2), .int .i64 ((rd l1 x16_15).f3), .int .u8 ((rd l1 x16_15).f4)] ∧ Bs_ = [Ro (Kd.int .u8) A25 c26 ((rd l1 x16_15).f1)]) rfl Try.underlying25 rfl sz25 rfl rfl rfl (Src.ro (k := 6) rfl) g23 g24 (fun _ _ ⟨_, ⟨A25, c26, e_, eb_⟩, hp_⟩ => ⟨_, ⟨A25, c26, by subst e_; rfl, rfl⟩, fun B_ hB_ => hp_ B_ (by subst eb_; first | exact hB_ | (simp only [List.mem_cons, List.not_mem_nil, or_false] at hB_ ⊢; first | exact hB_ | simp [hB_]))⟩) (fun _ _ ⟨_, _, e_, _⟩ => by subst e_; rfl) ?_)
        rintro _ _ ⟨A25, c26, rfl, rfl⟩
        refine RA_step rfl (OA_alloc rfl zero25 fun b28 => ?_)
        refine RA_step rfl (OA_st (b := b28) (m := 0) (k := 8) (vs := [.int .u8 ((rd l1 x16_15).f0), .slice A25 ((rd l1 x16_15).f1).length c26, .int .i64 ((rd l1 x16_15).f2), .int .i64 ((rd l1 x16_15).f3), .int .u8 ((rd l1 x16_15).f4)]) (cs' := [.int .u8 ((rd l1 x16_15).f0), .slice A25 ((rd l1 x16_15).f1).length c26, .int .i64 ((rd l1 x16_15).f2), .int .i64 ((rd l1 x16_15).f3), .int .u8 ((rd l1 x16_15).f4)]) rfl rfl rfl rfl rfl rfl sz25 rfl rfl ?_)
        refine RA_nil ?_
        refine at_normal ?_
        refine SA_seq ?_
        refine SA_region ?_
        refine RA_step rfl (OA_r rfl (VR_loadA_blk (b := b28) (m := 0) (k := 8) (vs := [.int .u8 ((rd l1 x16_15).f0), .slice A25 ((rd l1 x16_15).f1).length c26, .int .i64 ((rd l1 x16_15).f2), .int .i64 ((rd l1 x16_15).f3), .int .u8 ((rd l1 x16_15).f4)]) Try.underlying25 rfl sz25 rfl rfl rfl) ?_)
        refine RA_step rfl (OA_v (v := .pointer (some ((⟨b6, 0, none⟩ : Addr).add 22))) rfl (V_fieldAddrN (B := ⟨b6, 0, none⟩) (m := 0) (o := 22) Try.underlying83 rfl nz4 rfl rfl) ?_)
        refine RA_step rfl (OA_r rfl (VR_load_blk (b := b6) (m := 22) (k := 0) Try.underlying4 rfl rfl rfl rfl) ?_)
        refine RA_step rfl (OA_v (v := .pointer (some ((⟨b6, 0, none⟩ : Addr).add 23))) rfl (V_fieldAddrN (B := ⟨b6, 0, none⟩) (m := 0) (o := 23) Try.underlying83 rfl nz4 rfl rfl) ?_)
        refine RA_step rfl (OA_r rfl (VR_load_blk (b := b6) (m := 23) (k := 0) Try.underlying4 rfl rfl rfl rfl) ?_)
        obtain ⟨r30, C41, H⟩ := g_bind H
        refine RA_step rfl (OA_callA [7] [0, 1, 2, 3, 4, 5, 6, 7, 8] rfl (X_fn (vs := [.agg #[.int .u8 ((rd l1 x16_15).f0), .slice A25 ((rd l1 x16_15).f1).length c26, .int .i64 ((rd l1 x16_15).f2), .int .i64 ((rd l1 x16_15).f3), .int .u8 ((rd l1 x16_15).f4)], .bool a0.f11, .bool a0.f12]) Try.func14 nm14 rfl rfl) rfl (F14.ok (a0 := (rd l1 x16_15)) (A0_0 := A25) (c0_0 := c26) (a1 := a0.f11) (a2 := a0.f12) C41) rfl ?_)
        rintro _ _ ⟨A31, c32, rfl, rfl⟩
        refine RA_step rfl (OA_v (v := .tuple #[.slice A31 r30.1.length c32, .int .i64 r30.2]) rfl (V_move rfl) ?_)
        refine RA_step rfl (OA_v (v := .slice A31 r30.1.length c32) rfl (V_extract rfl rfl) ?_)
        refine RA_step rfl (OA_v (v := .int .i64 r30.2) rfl (V_extract rfl rfl) ?_)
        refine RA_step rfl (OA_v (v := .slice A31 r30.1.length c32) rfl (V_assign rfl) ?_)
        refine RA_step rfl (OA_v (v := .int .i64 r30.2) rfl (V_assign rfl) ?_)
        refine RA_nil ?_
        refine at_normal ?_
        refine SA_seq ?_
        refine SA_seq ?_
        refine SA_region ?_
        refine RA_step rfl (OA_v (v := .int .i64 r30.2) rfl (V_move rfl) ?_)
        refine RA_step rfl (OA_v (v := .bool (decide (r30.2 ≠ 0))) rfl (V_neq rfl rfl) ?_)
        refine RA_nil ?_
        refine at_normal ?_
        by_cases h34 : r30.2 ≠ 0
        · replace H := g_ift h34 H
          refine SA_condT rfl h34 ?_
          refine SA_seq ?_
          refine SA_region ?_
          refine RA_step rfl (OA_v (v := .int .i64 r30.2) rfl (V_move rfl) ?_)
          refine RA_step rfl (OA_v (v := .slice none 0 0) rfl (V_assign rfl) ?_)
          refine RA_step rfl (OA_v (v := .int .i64 r30.2) rfl (V_assign rfl) ?_)
          refine RA_nil ?_
          refine at_normal ?_
          refine SA_ret ?_
          refine thn_ret ?_
          refine inb_ret ?_
          refine thn_ret ?_
          refine thn_ret ?_
          refine inb_ret ?_
          refine thn_ret ?_
          refine thn_ret ?_
          have hr_ := Option.some.inj H
          subst hr_
          have hb_ := el_ret Bt11
          have hr_ := Option.some.inj hb_
          clear hb_
          subst hr_
          exact BQ_R2 [Buf (Kd.int .u8) 5 none 0 ([] : (List Int))] rfl rfl rfl ((Gh.nilBuf (Kd.int .u8) 5).trans (Gh.sel [10] rfl rfl)) ⟨none, 0, rfl, rfl⟩
        · replace H := g_iff h34 H
          refine SA_condF rfl h34 ?_
          refine SA_skip ?_
          refine at_normal ?_
          refine SA_region ?_
          refine RA_step rfl (OA_v (v := .slice A16 x6_15.length c17) rfl (V_move rfl) ?_)
          refine RA_step rfl (OA_v (v := .slice A31 r30.1.length c32) rfl (V_move rfl) ?_)
          obtain ⟨r36, C40, H⟩ := g_bind H
          refine RA_step rfl (OA.ghost (Gh.freeze (k := 6) rfl) (OA.ghost (Gh.freeze (k := 0) rfl) (OA_callA [6, 0] [0, 1, 2, 3, 4, 5, 6, 7, 8, 9] rfl (X_fn (vs := [.slice A16 x6_15.length c17, .slice A31 r30.1.length c32]) Try.func58 nm58 rfl rfl) rfl (F58.ok (l0 := x6_15) (A0 := A16) (c0 := c17) (l1 := r30.1) (A1 := A31) (c1 := c32) C40) rfl ?_)))
          rintro _ _ ⟨A37, c38, rfl, rfl⟩
          refine RA_step rfl (OA_v (v := .slice A37 r36.length c38) rfl (V_assign rfl) ?_)
          refine RA_nil ?_
          refine inb_normal ?_
          refine at_normal ?_
          refine SA_region ?_
          refine RA_step rfl (OA_v (v := .int .i64 (IntKind.i64.wrap (x16_15 + 1))) rfl (V_add rfl rfl) ?_)
          refine RA_step rfl (OA_v (v := .int .i64 (IntKind.i64.wrap (x16_15 + 1))) rfl (V_move rfl) ?_)
          refine RA_nil ?_
          exact at_normal ⟨k20, Nat.lt_succ_self _, _, _, A37, c38, H, St.mk1 (aeq rfl (aeq rfl (aeq rfl (aeq rfl (aeq rfl aeq0))))) (Gh.sel [2, 3, 4, 5, 6, 0, 8] rfl rfl)⟩
      · replace H := g_iff h22 H
        refine SA_condF rfl h22 ?_
        refine SA_exit ?_
        refine thn_exit ?_
        refine thn_exit ?_
        refine inb_hit ?_
        have hr_ := Option.some.inj H
        subst hr_
        exact at_normal ⟨x6_15, rfl, A16, c17, St.mk1 (aeq rfl aeq0) (Gh.sel [5] rfl rfl)⟩
    · rintro e ds As ⟨s12, ht, A13, c14, hst42⟩
      clear H
      subst ht
      replace Bt11 := el_go Bt11
      have H := Bt11
      clear Bt11
      refine at_normal ?_
      refine SA.of_St hst42 fun junk => ?_
      refine SA_seq ?_
      refine SA_region ?_
      refine RA_step rfl (OA_v (v := .slice A13 s12.length c14) rfl (V_move rfl) ?_)
      refine RA_step rfl (OA_v (v := .slice A13 s12.length c14) rfl (V_assign rfl) ?_)
      refine RA_step rfl (OA_v (v := .int .i64 0) rfl (V_assign rfl) ?_)
      refine RA_nil ?_
      refine at_normal ?_
      refine SA_ret ?_
      have hr_ := Option.some.inj H
      subst hr_
      exact BQ_R2 [Buf (Kd.int .u8) 5 A13 c14 s12] rfl rfl rfl (Gh.sel [0] rfl rfl) ⟨A13, c14, rfl, rfl⟩

/-! ### function 16: wayfarer/wayfarerref02.Same -/
def F16.f (l0 : (List Int)) (l1 : (List Int)) : Option (Bool) := some (decide ((strOf l0) = (strOf l1)))
set_option maxHeartbeats 2000000 in
set_option maxRecDepth 100000 in
theorem F16.ok {l0 : (List Int)} {l1 : (List Int)} {A0 : Option Addr} {c0 : Nat} {A1 : Option Addr} {c1 : Nat} {r : Bool} (H : F16.f l0 l1 = some r) : SCA Try.prog 16 #[.slice A0 l0.length c0, .slice A1 l1.length c1] [Ro (Kd.int .u8) A0 c0 l0, Ro (Kd.int .u8) A1 c1 l1] (fun v B => v = .bool r ∧ B = []) := by
  refine SCA_of_body Try.func16 rfl rfl ?_
  unfold F16.f at H
  refine SA_seq ?_
  refine SA_region ?_
  refine RA_step rfl (OA_v (v := .bool false) rfl (V_assign rfl) ?_)
  refine RA_nil ?_
  refine at_normal ?_
  refine SA_seq ?_
  refine SA_region ?_
  refine RA_step rfl (OA_v (v := .slice A0 l0.length c0) rfl (V_move rfl) ?_)
  refine RA_step rfl (OA_r rfl (VR_str Try.underlying23 Try.underlying5 Try.underlying9 rfl (Src.ro (k := 0) rfl)) ?_)
  refine RA_step rfl (OA_v (v := .slice A1 l1.length c1) rfl (V_move rfl) ?_)
  refine RA_step rfl (OA_r rfl (VR_str Try.underlying23 Try.underlying5 Try.underlying9 rfl (Src.ro (k := 1) rfl)) ?_)
  refine RA_step rfl (OA_v (v := .bool (decide ((strOf l0) = (strOf l1)))) rfl (V_eqlS rfl rfl) ?_)
  refine RA_step rfl (OA_v (v := .bool (decide ((strOf l0) = (strOf l1)))) rfl (V_assign rfl) ?_)
  refine RA_nil ?_
  refine at_normal ?_
  refine SA_ret ?_
  have hr_ := Option.some.inj H
  subst hr_
  exact BQ_R1 [] rfl rfl (Gh.sel [] rfl rfl) ⟨rfl, rfl⟩

/-! ### function 19: wayfarer/wayfarerlaw20.anchored -/
def F19.f (k : Nat)  : Option (Bool) := (F14.f k (S25.mk 4 ([] : (List Int)) 0 0 65) false false).bind (fun r2 => (F14.f k (S25.mk 4 ([] : (List Int)) 0 0 65) true false).bind (fun r7 => (F14.f k (S25.mk 3 ([97, 27, 98, 10] : (List Int)) 0 0 0) false true).bind (fun r13 => lt ((decide (r2.2 = 0)) && (decide (r7.2 = 0))) fun q17 => lt (q17 && (decide (r13.2 = 0))) fun q20 => (if q20 = true then ((F16.f r2.1 ([27, 91, 65] : (List Int))).bind (fun r27 => some r27)) else (some false) : Option Bool).bind (fun q23 => (if q23 = true then ((F16.f r7.1 ([27, 79, 65] : (List Int))).bind (fun r34 => some r34)) else (some false) : Option Bool).bind (fun q30 => (if q30 = true then ((F16.f r13.1 ((27 :: 91 :: 50 :: 48 :: 48 :: 126 :: 97 :: 98 :: 13 :: 27 :: 91 :: 50 :: 48 :: 49 :: 126 :: []) : (List Int))).bind (fun r41 => some r41)) else (some false) : Option Bool).bind (fun q37 => some (q37)))))))
set_option maxHeartbeats 2000000 in
set_option maxRecDepth 100000 in
theorem F19.ok {k : Nat}  {r : Bool} (H : F19.f k  = some r) : SCA Try.prog 19 #[] [] (fun v B => v = .bool r ∧ B = []) := by
  refine SCA_of_body Try.func19 rfl rfl ?_
  unfold F19.f at H
  refine SA_seq ?_
  refine SA_region ?_
  refine RA_step rfl (OA_v (v := .bool false) rfl (V_assign rfl) ?_)
  refine RA_nil ?_
  refine at_normal ?_
  refine SA_seq ?_
  refine SA_region ?_
  refine RA_step rfl (OA_v (v := .agg #[.int .u8 4, .slice none 0 0, .int .i64 0, .int .i64 0, .int .u8 65]) rfl (V_build (cells := [.int .u8 4, .slice none 0 0, .int .i64 0, .int .i64 0, .int .u8 65]) zero25 Try.underlying25 plc25 (by kernel_rfl)) ?_)
  obtain ⟨r2, C46, H⟩ := g_bind H
  refine RA_step rfl (OA.ghost (Gh.nilRo (Kd.int .u8) none 0) (OA_callA [0] [0] rfl (X_fn (vs := [.agg #[.int .u8 4, .slice none 0 0, .int .i64 0, .int .i64 0, .int .u8 65], .bool false, .bool false]) Try.func14 nm14 rfl rfl) rfl (F14.ok (a0 := (S25.mk 4 ([] : (List Int)) 0 0 65)) (A0_0 := none) (c0_0 := 0) (a1 := false) (a2 := false) C46) rfl ?_))
  rintro _ _ ⟨A3, c4, rfl, rfl⟩
  refine RA_step rfl (OA_v (v := .tuple #[.slice A3 r2.1.length c4, .int .i64 r2.2]) rfl (V_move rfl) ?_)
  refine RA_step rfl (OA_v (v := .slice A3 r2.1.length c4) rfl (V_extract rfl rfl) ?_)
  refine RA_step rfl (OA_v (v := .int .i64 r2.2) rfl (V_extract rfl rfl) ?_)
  refine RA_step rfl (OA_v (v := .slice A3 r2.1.length c4) rfl (V_assign rfl) ?_)
  refine RA_step rfl (OA_v (v := .int .i64 r2.2) rfl (V_assign rfl) ?_)
  refine RA_nil ?_
  refine at_normal ?_
  refine SA_seq ?_
  refine SA_region ?_
  refine RA_step rfl (OA_v (v := .agg #[.int .u8 4, .slice none 0 0, .int .i64 0, .int .i64 0, .int .u8 65]) rfl (V_build (cells := [.int .u8 4, .slice none 0 0, .int .i64 0, .int .i64 0, .int .u8 65]) zero25 Try.underlying25 plc25 (by kernel_rfl)) ?_)
  obtain ⟨r7, C45, H⟩ := g_bind H
  refine RA_step rfl (OA.ghost (Gh.nilRo (Kd.int .u8) none 0) (OA_callA [2] [0, 1, 2] rfl (X_fn (vs := [.agg #[.int .u8 4, .slice none 0 0, .int .i64 0, .int .i64 0, .int .u8 65], .bool true, .bool false]) Try.func14 nm14 rfl rfl) rfl (F14.ok (a0 := (S25.mk 4 ([] : (List Int)) 0 0 65)) (A0_0 := none) (c0_0 := 0) (a1 := true) (a2 := false) C45) rfl ?_))
  rintro _ _ ⟨A8, c9, rfl, rfl⟩
  refine RA_step rfl (OA_v (v := .tuple #[.slice A8 r7.1.length c9, .int .i64 r7.2]) rfl (V_move rfl) ?_)
  refine RA_step rfl (OA_v (v := .slice A8 r7.1.length c9) rfl (V_extract rfl rfl) ?_)
  refine RA_step rfl (OA_v (v := .int .i64 r7.2) rfl (V_extract rfl rfl) ?_)
  refine RA_step rfl (OA_v (v := .slice A8 r7.1.length c9) rfl (V_assign rfl) ?_)
  refine RA_step rfl (OA_v (v := .int .i64 r7.2) rfl (V_assign rfl) ?_)
  refine RA_nil ?_
  refine at_normal ?_
  refine SA_seq ?_
  refine SA_region ?_
  refine RA_step rfl (OA_bs (kd := (Kd.int .u8)) (zv := (.int .u8 0)) (sz := 1) (cells := [.int .u8 97, .int .u8 27, .int .u8 98, .int .u8 10]) (xs := ([97, 27, 98, 10] : (List Int))) rfl Try.underlying23 zero5 sz5 rfl rfl rfl (by kernel_rfl) rfl rfl (RL_enc (fun x_ : Int => [Value.int .u8 x_]) (fun _ _ => rfl) (by kernel_rfl)) fun b11 => ?_)
  refine RA_step rfl (OA_bytesConst (k := 4) rfl Try.underlying23 Try.underlying5 rfl (by simp) rfl ?_)
  refine RA_step rfl (OA_v (v := .agg #[.int .u8 3, .slice (some ⟨b11, 0, none⟩) ([97, 27, 98, 10] : (List Int)).length 4, .int .i64 0, .int .i64 0, .int .u8 0]) rfl (V_build (cells := [.int .u8 3, .slice (some ⟨b11, 0, none⟩) ([97, 27, 98, 10] : (List Int)).length 4, .int .i64 0, .int .i64 0, .int .u8 0]) zero25 Try.underlying25 plc25 (by kernel_rfl)) ?_)
  obtain ⟨r13, C44, H⟩ := g_bind H
  refine RA_step rfl (OA.ghost (Gh.freeze (k := 4) rfl) (OA_callA [4] [0, 1, 2, 3, 4] rfl (X_fn (vs := [.agg #[.int .u8 3, .slice (some ⟨b11, 0, none⟩) ([97, 27, 98, 10] : (List Int)).length 4, .int .i64 0, .int .i64 0, .int .u8 0], .bool false, .bool true]) Try.func14 nm14 rfl rfl) rfl (F14.ok (a0 := (S25.mk 3 ([97, 27, 98, 10] : (List Int)) 0 0 0)) (A0_0 := some ⟨b11, 0, none⟩) (c0_0 := 4) (a1 := false) (a2 := true) C44) rfl ?_))
  rintro _ _ ⟨A14, c15, rfl, rfl⟩
  refine RA_step rfl (OA_v (v := .tuple #[.slice A14 r13.1.length c15, .int .i64 r13.2]) rfl (V_move rfl) ?_)
  refine RA_step rfl (OA_v (v := .slice A14 r13.1.length c15) rfl (V_extract rfl rfl) ?_)
  refine RA_step rfl (OA_v (v := .int .i64 r13.2) rfl (V_extract rfl rfl) ?_)
  refine RA_step rfl (OA_v (v := .slice A14 r13.1.length c15) rfl (V_assign rfl) ?_)
  refine RA_step rfl (OA_v (v := .int .i64 r13.2) rfl (V_assign rfl) ?_)
  refine RA_nil ?_
  refine at_normal ?_
  refine SA_seq ?_
  refine SA_region ?_
  refine RA_step rfl (OA_v (v := .int .i64 r2.2) rfl (V_move rfl) ?_)
  refine RA_step rfl (OA_v (v := .bool (decide (r2.2 = 0))) rfl (V_eql rfl rfl) ?_)
  refine RA_step rfl (OA_v (v := .bool (decide (r2.2 = 0))) rfl (V_move rfl) ?_)
  obtain ⟨q17, hq17, H⟩ := g_lt H
  refine RA_cut 3 (fun e ds As => St [(1, .slice A3 r2.1.length c4), (3, .slice A8 r7.1.length c9), (5, .slice A14 r13.1.length c15), (6, .int .i64 r13.2), (29, .bool q17)] [Buf (Kd.int .u8) 5 A3 c4 r2.1, Buf (Kd.int .u8) 5 A8 c9 r7.1, Buf (Kd.int .u8) 5 A14 c15 r13.1] e ds As) ?_ ?_
  · by_cases h18 : r2.2 = 0
    · refine RA_yesB rfl rfl rfl rfl (dec_t h18) (OA_v (v := .int .i64 r7.2) rfl (V_move rfl) ?_)
      refine RA_yesB rfl rfl rfl rfl (dec_t h18) (OA_v (v := .bool (decide (r7.2 = 0))) rfl (V_eql rfl rfl) ?_)
      refine RA_step rfl (OA_v rfl (V_pickT rfl (dec_t h18) rfl) ?_)
      refine RA_nil ?_
      exact at_normal (St.mk1 (aeq rfl (aeq rfl (aeq rfl (aeq rfl (aeq (congrArg Value.bool (and_t hq17 (dec_t h18))) aeq0))))) (Gh.sel [2, 1, 0] rfl rfl))
    · refine RA_noB rfl rfl rfl rfl (dec_f h18) rfl ?_
      refine RA_noB rfl rfl rfl rfl (dec_f h18) rfl ?_
      refine RA_step rfl (OA_v rfl (V_pickF rfl (dec_f h18) rfl) ?_)
      refine RA_nil ?_
      exact at_normal (St.mk1 (aeq rfl (aeq rfl (aeq rfl (aeq rfl (aeq (congrArg Value.bool (and_f hq17 (dec_f h18))) aeq0))))) (Gh.sel [2, 1, 0] rfl rfl))
  · rintro e ds As hst19
    refine RA.of_St rfl hst19 fun junk => ?_
    refine RA_step rfl (OA_v (v := .bool q17) rfl (V_move rfl) ?_)
    obtain ⟨q20, hq20, H⟩ := g_lt H
    refine RA_cut 3 (fun e ds As => St [(1, .slice A3 r2.1.length c4), (3, .slice A8 r7.1.length c9), (5, .slice A14 r13.1.length c15), (33, .bool q20)] [Buf (Kd.int .u8) 5 A3 c4 r2.1, Buf (Kd.int .u8) 5 A8 c9 r7.1, Buf (Kd.int .u8) 5 A14 c15 r13.1] e ds As) ?_ ?_
    · by_cases h21 : q17 = true
      · refine RA_yesB rfl rfl rfl rfl (h21) (OA_v (v := .int .i64 r13.2) rfl (V_move rfl) ?_)
        refine RA_yesB rfl rfl rfl rfl (h21) (OA_v (v := .bool (decide (r13.2 = 0))) rfl (V_eql rfl rfl) ?_)
        refine RA_step rfl (OA_v rfl (V_pickT rfl (h21) rfl) ?_)
        refine RA_nil ?_
        exact at_normal (St.mk1 (aeq rfl (aeq rfl (aeq rfl (aeq (congrArg Value.bool (and_t hq20 (h21))) aeq0)))) (Gh.sel [0, 1, 2] rfl rfl))
      · refine RA_noB rfl rfl rfl rfl (bno h21) rfl ?_
        refine RA_noB rfl rfl rfl rfl (bno h21) rfl ?_
        refine RA_step rfl (OA_v rfl (V_pickF rfl (bno h21) rfl) ?_)
        refine RA_nil ?_
        exact at_normal (St.mk1 (aeq rfl (aeq rfl (aeq rfl (aeq (congrArg Value.bool (and_f hq20 (bno h21))) aeq0)))) (Gh.sel [0, 1, 2] rfl rfl))
    · rintro e ds As hst22
      refine RA.of_St rfl hst22 fun junk => ?_
      refine RA_step rfl (OA_v (v := .bool q20) rfl (V_move rfl) ?_)
      obtain ⟨q23, H, Bq23⟩ := g_bind H
      refine RA_cut 5 (fun e ds As => St [(3, .slice A8 r7.1.length c9), (5, .slice A14 r13.1.length c15), (39, .bool q23)] [Buf (Kd.int .u8) 5 A8 c9 r7.1, Buf (Kd.int .u8) 5 A14 c15 r13.1] e ds As) ?_ ?_
      · by_cases h24 : q20 = true
        · replace H := g_ift h24 H
          refine RA_yesB rfl rfl rfl rfl (h24) (OA_v (v := .slice A3 r2.1.length c4) rfl (V_move rfl) ?_)
          refine RA_yesB rfl rfl rfl rfl (h24) (OA_bs (kd := (Kd.int .u8)) (zv := (.int .u8 0)) (sz := 1) (cells := [.int .u8 27, .int .u8 91, .int .u8 65]) (xs := ([27, 91, 65] : (List Int))) rfl Try.underlying23 zero5 sz5 rfl rfl rfl (by kernel_rfl) rfl rfl (RL_enc (fun x_ : Int => [Value.int .u8 x_]) (fun _ _ => rfl) (by kernel_rfl)) fun b25 => ?_)
          refine RA_yesB rfl rfl rfl rfl (h24) (OA_bytesConst (k := 3) rfl Try.underlying23 Try.underlying5 rfl (by simp) rfl ?_)
          obtain ⟨r27, C28, H⟩ := g_bind H
          refine RA_yesB rfl rfl rfl rfl (h24) (OA.ghost (Gh.freeze (k := 0) rfl) (OA.ghost (Gh.freeze (k := 3) rfl) (OA_callA [0, 3] [0, 1, 2, 3] rfl (X_fn (vs := [.slice A3 r2.1.length c4, .slice (some ⟨b25, 0, none⟩) ([27, 91, 65] : (List Int)).length 3]) Try.func16 nm16 rfl rfl) rfl (F16.ok (l0 := r2.1) (A0 := A3) (c0 := c4) (l1 := ([27, 91, 65] : (List Int))) (A1 := some ⟨b25, 0, none⟩) (c1 := 3) C28) rfl ?_)))
          rintro _ _ ⟨rfl, rfl⟩
          refine RA_step rfl (OA_v rfl (V_pickT rfl (h24) rfl) ?_)
          have hr_ := Option.some.inj H
          subst hr_
          refine RA_nil ?_
          exact at_normal (St.mk1 (aeq rfl (aeq rfl (aeq rfl aeq0))) (Gh.sel [1, 2] rfl rfl))
        · replace H := g_iff h24 H
          refine RA_noB rfl rfl rfl rfl (bno h24) rfl ?_
          refine RA_noB rfl rfl rfl rfl (bno h24) rfl ?_
          refine RA_noB rfl rfl rfl rfl (bno h24) rfl ?_
          refine RA_noB rfl rfl rfl rfl (bno h24) rfl ?_
          refine RA_step rfl (OA_v rfl (V_pickF rfl (bno h24) rfl) ?_)
          have hr_ := Option.some.inj H
          subst hr_
          refine RA_nil ?_
          exact at_normal (St.mk1 (aeq rfl (aeq rfl (aeq rfl aeq0))) (Gh.sel [1, 2] rfl rfl))
      · rintro e ds As hst29
        clear H
        have H := Bq23
        clear Bq23
        refine RA.of_St rfl hst29 fun junk => ?_
        refine RA_step rfl (OA_v (v := .bool q23) rfl (V_move rfl) ?_)
        obtain ⟨q30, H, Bq30⟩ := g_bind H
        refine RA_cut 5 (fun e ds As => St [(5, .slice A14 r13.1.length c15), (45, .bool q30)] [Buf (Kd.int .u8) 5 A14 c15 r13.1] e ds As) ?_ ?_
        · by_cases h31 : q23 = true
          · replace H := g_ift h31 H
            refine RA_yesB rfl rfl rfl rfl (h31) (OA_v (v := .slice A8 r7.1.length c9) rfl (V_move rfl) ?_)
            refine RA_yesB rfl rfl rfl rfl (h31) (OA_bs (kd := (Kd.int .u8)) (zv := (.int .u8 0)) (sz := 1) (cells := [.int .u8 27, .int .u8 79, .int .u8 65]) (xs := ([27, 79, 65] : (List Int))) rfl Try.underlying23 zero5 sz5 rfl rfl rfl (by kernel_rfl) rfl rfl (RL_enc (fun x_ : Int => [Value.int .u8 x_]) (fun _ _ => rfl) (by kernel_rfl)) fun b32 => ?_)
            refine RA_yesB rfl rfl rfl rfl (h31) (OA_bytesConst (k := 2) rfl Try.underlying23 Try.underlying5 rfl (by simp) rfl ?_)
            obtain ⟨r34, C35, H⟩ := g_bind H
            refine RA_yesB rfl rfl rfl rfl (h31) (OA.ghost (Gh.freeze (k := 0) rfl) (OA.ghost (Gh.freeze (k := 2) rfl) (OA_callA [0, 2] [0, 1, 2] rfl (X_fn (vs := [.slice A8 r7.1.length c9, .slice (some ⟨b32, 0, none⟩) ([27, 79, 65] : (List Int)).length 3]) Try.func16 nm16 rfl rfl) rfl (F16.ok (l0 := r7.1) (A0 := A8) (c0 := c9) (l1 := ([27, 79, 65] : (List Int))) (A1 := some ⟨b32, 0, none⟩) (c1 := 3) C35) rfl ?_)))
            rintro _ _ ⟨rfl, rfl⟩
            refine RA_step rfl (OA_v rfl (V_pickT rfl (h31) rfl) ?_)
            have hr_ := Option.some.inj H
            subst hr_
            refine RA_nil ?_
            exact at_normal (St.mk1 (aeq rfl (aeq rfl aeq0)) (Gh.sel [1] rfl rfl))
          · replace H := g_iff h31 H
            refine RA_noB rfl rfl rfl rfl (bno h31) rfl ?_
            refine RA_noB rfl rfl rfl rfl (bno h31) rfl ?_
            refine RA_noB rfl rfl rfl rfl (bno h31) rfl ?_
            refine RA_noB rfl rfl rfl rfl (bno h31) rfl ?_
            refine RA_step rfl (OA_v rfl (V_pickF rfl (bno h31) rfl) ?_)
            have hr_ := Option.some.inj H
            subst hr_
            refine RA_nil ?_
            exact at_normal (St.mk1 (aeq rfl (aeq rfl aeq0)) (Gh.sel [1] rfl rfl))
        · rintro e ds As hst36
          clear H
          have H := Bq30
          clear Bq30
          refine RA.of_St rfl hst36 fun junk => ?_
          refine RA_step rfl (OA_v (v := .bool q30) rfl (V_move rfl) ?_)
          obtain ⟨q37, H, Bq37⟩ := g_bind H
          refine RA_cut 5 (fun e ds As => St [(51, .bool q37)] [] e ds As) ?_ ?_
          · by_cases h38 : q30 = true
            · replace H := g_ift h38 H
              refine RA_yesB rfl rfl rfl rfl (h38) (OA_v (v := .slice A14 r13.1.length c15) rfl (V_move rfl) ?_)
              refine RA_yesB rfl rfl rfl rfl (h38) (OA_bs (kd := (Kd.int .u8)) (zv := (.int .u8 0)) (sz := 1) (cells := (.int .u8 27 :: .int .u8 91 :: .int .u8 50 :: .int .u8 48 :: .int .u8 48 :: .int .u8 126 :: .int .u8 97 :: .int .u8 98 :: .int .u8 13 :: .int .u8 27 :: .int .u8 91 :: .int .u8 50 :: .int .u8 48 :: .int .u8 49 :: .int .u8 126 :: [])) (xs := ((27 :: 91 :: 50 :: 48 :: 48 :: 126 :: 97 :: 98 :: 13 :: 27 :: 91 :: 50 :: 48 :: 49 :: 126 :: []) : (List Int))) rfl Try.underlying23 zero5 sz5 rfl rfl rfl (by kernel_rfl) rfl rfl (RL_enc (fun x_ : Int => [Value.int .u8 x_]) (fun _ _ => rfl) (by kernel_rfl)) fun b39 => ?_)
              refine RA_yesB rfl rfl rfl rfl (h38) (OA_bytesConst (k := 1) rfl Try.underlying23 Try.underlying5 rfl (by simp) rfl ?_)
              obtain ⟨r41, C42, H⟩ := g_bind H
              refine RA_yesB rfl rfl rfl rfl (h38) (OA.ghost (Gh.freeze (k := 0) rfl) (OA.ghost (Gh.freeze (k := 1) rfl) (OA_callA [0, 1] [0, 1] rfl (X_fn (vs := [.slice A14 r13.1.length c15, .slice (some ⟨b39, 0, none⟩) ((27 :: 91 :: 50 :: 48 :: 48 :: 126 :: 97 :: 98 :: 13 :: 27 :: 91 :: 50 :: 48 :: 49 :: 126 :: []) : (List Int)).length 15]) Try.func16 nm16 rfl rfl) rfl (F16.ok (l0 := r13.1) (A0 := A14) (c0 := c15) (l1 := ((27 :: 91 :: 50 :: 48 :: 48 :: 126 :: 97 :: 98 :: 13 :: 27 :: 91 :: 50 :: 48 :: 49 :: 126 :: []) : (List Int))) (A1 := some ⟨b39, 0, none⟩) (c1 := 15) C42) rfl ?_)))
              rintro _ _ ⟨rfl, rfl⟩
              refine RA_step rfl (OA_v rfl (V_pickT rfl (h38) rfl) ?_)
              have hr_ := Option.some.inj H
              subst hr_
              refine RA_nil ?_
              exact at_normal (St.mk1 (aeq rfl aeq0) (Gh.sel [] rfl rfl))
            · replace H := g_iff h38 H
              refine RA_noB rfl rfl rfl rfl (bno h38) rfl ?_
              refine RA_noB rfl rfl rfl rfl (bno h38) rfl ?_
              refine RA_noB rfl rfl rfl rfl (bno h38) rfl ?_
              refine RA_noB rfl rfl rfl rfl (bno h38) rfl ?_
              refine RA_step rfl (OA_v rfl (V_pickF rfl (bno h38) rfl) ?_)
              have hr_ := Option.some.inj H
              subst hr_
              refine RA_nil ?_
              exact at_normal (St.mk1 (aeq rfl aeq0) (Gh.sel [] rfl rfl))
          · rintro e ds As hst43
            clear H
            have H := Bq37
            clear Bq37
            refine RA.of_St rfl hst43 fun junk => ?_
            refine RA_step rfl (OA_v (v := .bool q37) rfl (V_assign rfl) ?_)
            refine RA_nil ?_
            refine at_normal ?_
            refine SA_ret ?_
            have hr_ := Option.some.inj H
            subst hr_
            exact BQ_R1 [] rfl rfl (Gh.sel [] rfl rfl) ⟨rfl, rfl⟩

/-! ### function 7: wayfarer/wayfarerlaw20.KeysSafe -/
def F7.l1 (r25 : (List Int) × Int) : Nat → Int → Option (Out (Bool) (Unit))
  | 0, _ => none
  | k + 1, x10_33 => if x10_33 < (IntKind.i64.wrap ((r25.1.length : Int) - 6)) then (if 0 ≤ x10_33 ∧ x10_33 < (r25.1.length : Int) then (if (rd r25.1 x10_33) = 27 then (some (Out.ret (false))) else (lt (IntKind.i64.wrap (x10_33 + 1)) fun n40 => F7.l1 r25 k n40)) else none) else (some (Out.go ()))
def F7.l0 (l1 : (List S25)) : Nat → Int → Option (Out (Bool) (Unit))
  | 0, _ => none
  | k + 1, x7_9 => if x7_9 < (l1.length : Int) then (if 0 ≤ x7_9 ∧ x7_9 < (l1.length : Int) then (if ((rd l1 x7_9).f0) ≠ 3 then (lt (IntKind.i64.wrap (x7_9 + 1)) fun n19 => F7.l0 l1 k n19) else (if 0 ≤ x7_9 ∧ x7_9 < (l1.length : Int) then ((F14.f k (rd l1 x7_9) false true).bind (fun r25 => if r25.2 ≠ 0 then (lt (IntKind.i64.wrap (x7_9 + 1)) fun n30 => F7.l0 l1 k n30) else (if (r25.1.length : Int) < 12 then (some (Out.ret (false))) else ((F7.l1 r25 k 1 : Option (Out (Bool) (Unit))).bind (fun t32 => Out.el t32 (fun r_ => some (Out.ret r_)) (fun s33 => lt (IntKind.i64.wrap (x7_9 + 1)) fun n42 => F7.l0 l1 k n42)))))) else none)) else none) else (some (Out.go ()))
def F7.f (k : Nat) (a0 : S83) (l1 : (List S25)) (a2 : Int) : Option (Bool) := (F7.l0 l1 k 0 : Option (Out (Bool) (Unit))).bind (fun t8 => Out.el t8 (fun r_ => some r_) (fun s9 => if (IntKind.i64.wrap ((l1.length : Int) + 1)) ≠ 0 then (lt ((IntKind.i64.wrap (a2)).tmod (IntKind.i64.wrap ((l1.length : Int) + 1))) fun n46 => (F34.f k a0 l1).bind (fun r47 => if 0 ≤ (0 : Int) ∧ (0 : Int) ≤ n46 ∧ n46 ≤ (l1.length : Int) ∧ n46 ≤ n46 ∧ n46 ≤ (l1.length : Int) then lt (sub l1 (0 : Int) n46) fun n297 => ((F34.f k a0 n297).bind (fun r351 => if 0 ≤ n46 ∧ n46 ≤ (l1.length : Int) ∧ (l1.length : Int) ≤ (l1.length : Int) then lt (sub l1 n46 (l1.length : Int)) fun n898 => ((F34.f k a0 n898).bind (fun r952 => if r47.2 ≠ 0 then ((F19.f k ).bind (fun r1314 => lt (r1314 && (decide ((r47.1.length : Int) = 0))) fun q1315 => (if q1315 = true then (if r351.2 ≠ 0 then (some true) else (some (decide (r952.2 ≠ 0)))) else (some false) : Option Bool).bind (fun q1318 => some (q1318)))) else ((F19.f k ).bind (fun r1323 => lt (r1323 && (decide (r351.2 = 0))) fun q1324 => lt (q1324 && (decide (r952.2 = 0))) fun q1327 => (if q1327 = true then (if r351.1.length + r952.1.length ≤ 140737488355328 then lt (r351.1 ++ r952.1) fun n1336 => ((F16.f r47.1 n1336).bind (fun r1337 => some r1337)) else none) else (some false) : Option Bool).bind (fun q1330 => some (q1330)))))) else none)) else none)) else none))
set_option maxHeartbeats 2000000 in
set_option maxRecDepth 100000 in
theorem F7.ok {k : Nat} {a0 : S83} {l1 : (List S25)} {a2 : Int} {A0_0 : Option Addr} {c0_0 : Nat} {A0_1 : Option Addr} {c0_1 : Nat} {A0_2 : Option Addr} {c0_2 : Nat} {A0_3 : Option Addr} {c0_3 : Nat} {A1 : Option Addr} {c1 : Nat} {r : Bool} (H : F7.f k a0 l1 a2 = some r) : SCA Try.prog 7 #[.agg (List.toArray (.int .i64 a0.f0.f0 :: .int .i64 a0.f0.f1 :: .slice A0_0 a0.f0.f2.length c0_0 :: .int .i64 a0.f1 :: .int .i64 a0.f2 :: .bool a0.f3 :: .int .i64 a0.f4.f0 :: .int .i64 a0.f4.f1 :: .bool a0.f4.f2 :: .bool a0.f4.f3 :: .bool a0.f4.f4 :: .bool a0.f4.f5 :: .bool a0.f4.f6 :: .bool a0.f4.f7 :: .bool a0.f4.f8 :: .bool a0.f4.f9 :: .int .i64 a0.f5 :: .int .i64 a0.f6 :: .slice A0_1 a0.f7.length c0_1 :: .bool a0.f8 :: .bool a0.f9 :: .bool a0.f10 :: .bool a0.f11 :: .bool a0.f12 :: .bool a0.f13 :: .int .i64 a0.f14.f0 :: .int .i64 a0.f14.f1 :: .bool a0.f14.f2 :: .bool a0.f14.f3 :: .int .i64 a0.f14.f4.f0 :: .int .i64 a0.f14.f4.f1 :: .bool a0.f14.f4.f2 :: .bool a0.f14.f4.f3 :: .bool a0.f14.f4.f4 :: .bool a0.f14.f4.f5 :: .bool a0.f14.f4.f6 :: .bool a0.f14.f4.f7 :: .bool a0.f14.f4.f8 :: .bool a0.f14.f4.f9 :: .bool a0.f15 :: .int .i64 a0.f16.f0 :: .int .i64 a0.f16.f1 :: .slice A0_2 a0.f16.f2.length c0_2 :: .slice A0_3 a0.f17.length c0_3 :: [])), .slice A1 l1.length c1, .int .u8 a2] [Ro k76 A0_0 c0_0 a0.f0.f2, Ro (Kd.int .i64) A0_1 c0_1 a0.f7, Ro k76 A0_2 c0_2 a0.f16.f2, Ro (Kd.int .i32) A0_3 c0_3 a0.f17, Ro k25 A1 c1 l1] (fun v B => v = .bool r ∧ B = []) := by
  refine SCA_of_body Try.func7 rfl rfl ?_
  unfold F7.f at H
  refine SA_seq ?_
  refine SA_region ?_
  refine RA_step rfl (OA_box rfl rfl fun b6 => ?_)
  refine RA_step rfl (OA_v (v := .bool false) rfl (V_assign rfl) ?_)
  refine RA_nil ?_
  refine at_normal ?_
  refine SA_seq ?_
  refine SA_seq ?_
  refine SA_region ?_
  refine RA_step rfl (OA_v (v := .int .i64 0) rfl (V_assign rfl) ?_)
  refine RA_nil ?_
  refine at_normal ?_
  obtain ⟨t8, H, Bt8⟩ := g_bind H
  refine SA_mid (fun e ds As => ∃ (s9 : Unit), t8 = Out.go s9 ∧ St [(1, .slice A1 l1.length c1), (2, .int .u8 a2), (3, .pointer (some ⟨b6, 0, none⟩))] [Ro k25 A1 c1 l1, Blk b6 83 (.int .i64 a0.f0.f0 :: .int .i64 a0.f0.f1 :: .slice A0_0 a0.f0.f2.length c0_0 :: .int .i64 a0.f1 :: .int .i64 a0.f2 :: .bool a0.f3 :: .int .i64 a0.f4.f0 :: .int .i64 a0.f4.f1 :: .bool a0.f4.f2 :: .bool a0.f4.f3 :: .bool a0.f4.f4 :: .bool a0.f4.f5 :: .bool a0.f4.f6 :: .bool a0.f4.f7 :: .bool a0.f4.f8 :: .bool a0.f4.f9 :: .int .i64 a0.f5 :: .int .i64 a0.f6 :: .slice A0_1 a0.f7.length c0_1 :: .bool a0.f8 :: .bool a0.f9 :: .bool a0.f10 :: .bool a0.f11 :: .bool a0.f12 :: .bool a0.f13 :: .int .i64 a0.f14.f0 :: .int .i64 a0.f14.f1 :: .bool a0.f14.f2 :: .bool a0.f14.f3 :: .int .i64 a0.f14.f4.f0 :: .int .i64 a0.f14.f4.f1 :: .bool a0.f14.f4.f2 :: .bool a0.f14.f4.f3 :: .bool a0.f14.f4.f4 :: .bool a0.f14.f4.f5 :: .bool a0.f14.f4.f6 :: .bool a0.f14.f4.f7 :: .bool a0.f14.f4.f8 :: .bool a0.f14.f4.f9 :: .bool a0.f15 :: .int .i64 a0.f16.f0 :: .int .i64 a0.f16.f1 :: .slice A0_2 a0.f16.f2.length c0_2 :: .slice A0_3 a0.f17.length c0_3 :: []), Ro k76 A0_0 c0_0 a0.f0.f2, Ro (Kd.int .i64) A0_1 c0_1 a0.f7, Ro k76 A0_2 c0_2 a0.f16.f2, Ro (Kd.int .i32) A0_3 c0_3 a0.f17] e ds As) ?_ ?_
  · refine SA_block ?_
    refine SA_loop (fun k_ e ds As => ∃ (x7_9 : Int), F7.l0 l1 k_ x7_9 = some t8 ∧ St [(1, .slice A1 l1.length c1), (2, .int .u8 a2), (3, .pointer (some ⟨b6, 0, none⟩)), (7, .int .i64 x7_9)] [Ro k25 A1 c1 l1, Blk b6 83 (.int .i64 a0.f0.f0 :: .int .i64 a0.f0.f1 :: .slice A0_0 a0.f0.f2.length c0_0 :: .int .i64 a0.f1 :: .int .i64 a0.f2 :: .bool a0.f3 :: .int .i64 a0.f4.f0 :: .int .i64 a0.f4.f1 :: .bool a0.f4.f2 :: .bool a0.f4.f3 :: .bool a0.f4.f4 :: .bool a0.f4.f5 :: .bool a0.f4.f6 :: .bool a0.f4.f7 :: .bool a0.f4.f8 :: .bool a0.f4.f9 :: .int .i64 a0.f5 :: .int .i64 a0.f6 :: .slice A0_1 a0.f7.length c0_1 :: .bool a0.f8 :: .bool a0.f9 :: .bool a0.f10 :: .bool a0.f11 :: .bool a0.f12 :: .bool a0.f13 :: .int .i64 a0.f14.f0 :: .int .i64 a0.f14.f1 :: .bool a0.f14.f2 :: .bool a0.f14.f3 :: .int .i64 a0.f14.f4.f0 :: .int .i64 a0.f14.f4.f1 :: .bool a0.f14.f4.f2 :: .bool a0.f14.f4.f3 :: .bool a0.f14.f4.f4 :: .bool a0.f14.f4.f5 :: .bool a0.f14.f4.f6 :: .bool a0.f14.f4.f7 :: .bool a0.f14.f4.f8 :: .bool a0.f14.f4.f9 :: .bool a0.f15 :: .int .i64 a0.f16.f0 :: .int .i64 a0.f16.f1 :: .slice A0_2 a0.f16.f2.length c0_2 :: .slice A0_3 a0.f17.length c0_3 :: []), Ro k76 A0_0 c0_0 a0.f0.f2, Ro (Kd.int .i64) A0_1 c0_1 a0.f7, Ro k76 A0_2 c0_2 a0.f16.f2, Ro (Kd.int .i32) A0_3 c0_3 a0.f17] e ds As) (k := k) ⟨_, H, St.mk1 (aeq rfl (aeq rfl (aeq rfl (aeq rfl aeq0)))) (Gh.sel [4, 5, 0, 1, 2, 3] rfl rfl)⟩ ?_
    clear H
    rintro k10 e ds As ⟨x7_9, H, hst11⟩
    obtain _ | k10 := k10
    · cases H
    rw [F7.l0] at H
    refine SA.of_St hst11 fun junk => ?_
    refine SA_seq ?_
    refine SA_seq ?_
    refine SA_region ?_
    refine RA_step rfl (OA_v (v := .int .i64 x7_9) rfl (V_move rfl) ?_)
    refine RA_step rfl (OA_v (v := .slice A1 l1.length c1) rfl (V_move rfl) ?_)
    refine RA_step rfl (OA_v (v := .int .i64 (l1.length : Int)) rfl (V_len Try.underlying84 rfl) ?_)
    refine RA_step rfl (OA_v (v := .bool (decide (x7_9 < (l1.length : Int)))) rfl (V_lss rfl rfl) ?_)
    refine RA_nil ?_
    refine at_normal ?_
    by_cases h12 : x7_9 < (l1.length : Int)
    · replace H := g_ift h12 H
      refine SA_condT rfl h12 ?_
      refine SA_skip ?_
      refine at_normal ?_
      refine SA_seq ?_
      refine SA_block ?_
      refine SA_seq ?_
      refine SA_seq ?_
      refine SA_region ?_
      refine RA_step rfl (OA_v (v := .slice A1 l1.length c1) rfl (V_move rfl) ?_)
      refine RA_step rfl (OA_v (v := .int .i64 x7_9) rfl (V_move rfl) ?_)
      obtain ⟨⟨g13, g14⟩, H⟩ := g_pos H
      refine RA_step rfl (OA_r rfl (VR_index (i := x7_9) Try.underlying84 sz25 rfl rfl (Src.ro (k := 0) rfl) g13 g14) ?_)
      refine RA_step rfl (OA_v (v := .pointer (some ((el A1 (x7_9.toNat * 5)).add 0))) rfl (V_fieldAddrN (B := el A1 (x7_9.toNat * 5)) (m := 0) (o := 0) Try.underlying25 rfl nz22 rfl rfl) ?_)
      refine RA_step rfl (OA_r rfl (VR_load_elD (i := x7_9) (j := x7_9.toNat * 5) (m := 0) (sz := 5) (v := .int .u8 ((rd l1 x7_9).f0)) Try.underlying22 rfl rfl rfl rfl (Src.ro (k := 0) rfl) g13 g14 (fun _ _ ⟨_, ⟨_, _, e_, eb_⟩, hp_⟩ => by subst e_; rfl)) ?_)
      refine RA_step rfl (OA_v (v := .bool (decide (((rd l1 x7_9).f0) ≠ 3))) rfl (V_neq rfl rfl) ?_)
      refine RA_nil ?_
      refine at_normal ?_
      by_cases h18 : ((rd l1 x7_9).f0) ≠ 3
      · replace H := g_ift h18 H
        refine SA_condT rfl h18 ?_
        refine SA_exit ?_
        refine thn_exit ?_
        refine inb_hit ?_
        refine at_normal ?_
        refine SA_region ?_
        refine RA_step rfl (OA_v (v := .int .i64 x7_9) rfl (V_move rfl) ?_)
        refine RA_step rfl (OA_v (v := .int .i64 (IntKind.i64.wrap (x7_9 + 1))) rfl (V_add rfl rfl) ?_)
        obtain ⟨n19, hn19, H⟩ := g_lt H
        refine RA_step rfl (OA_v (v := .int .i64 n19) rfl (V_assign (v := .int .i64 n19) (congrArg (Value.int .i64) hn19.symm)) ?_)
        refine RA_nil ?_
        exact at_normal ⟨k10, Nat.lt_succ_self _, _, H, St.mk1 (aeq rfl (aeq rfl (aeq rfl (aeq rfl aeq0)))) (Gh.sel [0, 1, 2, 3, 4, 5] rfl rfl)⟩
      · replace H := g_iff h18 H
        refine SA_condF rfl h18 ?_
        refine SA_skip ?_
        refine at_normal ?_
        refine SA_seq ?_
        refine SA_region ?_
        refine RA_step rfl (OA_v (v := .slice A1 l1.length c1) rfl (V_move rfl) ?_)
        refine RA_step rfl (OA_v (v := .int .i64 x7_9) rfl (V_move rfl) ?_)
        obtain ⟨⟨g20, g21⟩, H⟩ := g_pos H
        refine RA_step rfl (OA_r rfl (VR_index (i := x7_9) Try.underlying84 sz25 rfl rfl (Src.ro (k := 0) rfl) g20 g21) ?_)
        refine RA_step rfl (OA_loadSlA (i := x7_9) (j := x7_9.toNat * 5) (m := 0) (sz := 5) (k := 5) (fun vs_ Bs_ => ∃ (A22 : Option Addr) (c23 : Nat), vs_ = [.int .u8 ((rd l1 x7_9).f0), .slice A22 ((rd l1 x7_9).f1).length c23, .int .i64 ((rd l1 x7_9).f2), .int .i64 ((rd l1 x7_9).f3), .int .u8 ((rd l1 x7_9).f4)] ∧ Bs_ = [Ro (Kd.int .u8) A22 c23 ((rd l1 x7_9).f1)]) rfl Try.underlying25 rfl sz25 rfl rfl rfl (Src.ro (k := 0) rfl) g20 g21 (fun _ _ ⟨_, ⟨A22, c23, e_, eb_⟩, hp_⟩ => ⟨_, ⟨A22, c23, by subst e_; rfl, rfl⟩, fun B_ hB_ => hp_ B_ (by subst eb_; first | exact hB_ | (simp only [List.mem_cons, List.not_mem_nil, or_false] at hB_ ⊢; first | exact hB_ | simp [hB_]))⟩) (fun _ _ ⟨_, _, e_, _⟩ => by subst e_; rfl) ?_)
        rintro _ _ ⟨A22, c23, rfl, rfl⟩
        obtain ⟨r25, C43, H⟩ := g_bind H
        refine RA_step rfl (OA_callA [6] [0, 1, 2, 3, 4, 5, 6] rfl (X_fn (vs := [.agg #[.int .u8 ((rd l1 x7_9).f0), .slice A22 ((rd l1 x7_9).f1).length c23, .int .i64 ((rd l1 x7_9).f2), .int .i64 ((rd l1 x7_9).f3), .int .u8 ((rd l1 x7_9).f4)], .bool false, .bool true]) Try.func14 nm14 rfl rfl) rfl (F14.ok (a0 := (rd l1 x7_9)) (A0_0 := A22) (c0_0 := c23) (a1 := false) (a2 := true) C43) rfl ?_)
        rintro _ _ ⟨A26, c27, rfl, rfl⟩
        refine RA_step rfl (OA_v (v := .tuple #[.slice A26 r25.1.length c27, .int .i64 r25.2]) rfl (V_move rfl) ?_)
        refine RA_step rfl (OA_v (v := .slice A26 r25.1.length c27) rfl (V_extract rfl rfl) ?_)
        refine RA_step rfl (OA_v (v := .int .i64 r25.2) rfl (V_extract rfl rfl) ?_)
        refine RA_step rfl (OA_v (v := .slice A26 r25.1.length c27) rfl (V_assign rfl) ?_)
        refine RA_step rfl (OA_v (v := .int .i64 r25.2) rfl (V_assign rfl) ?_)
        refine RA_nil ?_
        refine at_normal ?_
        refine SA_seq ?_
        refine SA_seq ?_
        refine SA_region ?_
        refine RA_step rfl (OA_v (v := .int .i64 r25.2) rfl (V_move rfl) ?_)
        refine RA_step rfl (OA_v (v := .bool (decide (r25.2 ≠ 0))) rfl (V_neq rfl rfl) ?_)
        refine RA_nil ?_
        refine at_normal ?_
        by_cases h29 : r25.2 ≠ 0
        · replace H := g_ift h29 H
          refine SA_condT rfl h29 ?_
          refine SA_exit ?_
          refine thn_exit ?_
          refine inb_hit ?_
          refine at_normal ?_
          refine SA_region ?_
          refine RA_step rfl (OA_v (v := .int .i64 x7_9) rfl (V_move rfl) ?_)
          refine RA_step rfl (OA_v (v := .int .i64 (IntKind.i64.wrap (x7_9 + 1))) rfl (V_add rfl rfl) ?_)
          obtain ⟨n30, hn30, H⟩ := g_lt H
          refine RA_step rfl (OA_v (v := .int .i64 n30) rfl (V_assign (v := .int .i64 n30) (congrArg (Value.int .i64) hn30.symm)) ?_)
          refine RA_nil ?_
          exact at_normal ⟨k10, Nat.lt_succ_self _, _, H, St.mk1 (aeq rfl (aeq rfl (aeq rfl (aeq rfl aeq0)))) (Gh.sel [1, 2, 3, 4, 5, 6] rfl rfl)⟩
        · replace H := g_iff h29 H
          refine SA_condF rfl h29 ?_
          refine SA_skip ?_
          refine at_normal ?_
          refine SA_seq ?_
          refine SA_seq ?_
          refine SA_region ?_
          refine RA_step rfl (OA_v (v := .slice A26 r25.1.length c27) rfl (V_move rfl) ?_)
          refine RA_step rfl (OA_v (v := .int .i64 (r25.1.length : Int)) rfl (V_len Try.underlying23 rfl) ?_)
          refine RA_step rfl (OA_v (v := .bool (decide ((r25.1.length : Int) < 12))) rfl (V_lss rfl rfl) ?_)
          refine RA_nil ?_
          refine at_normal ?_
          refine SA.of_St (l := [(1, .slice A1 l1.length c1), (2, .int .u8 a2), (3, .pointer (some ⟨b6, 0, none⟩)), (7, .int .i64 x7_9), (8, .slice A26 r25.1.length c27), (42, .bool (decide ((r25.1.length : Int) < 12)))]) (B := [Ro k25 A1 c1 l1, Blk b6 83 (.int .i64 a0.f0.f0 :: .int .i64 a0.f0.f1 :: .slice A0_0 a0.f0.f2.length c0_0 :: .int .i64 a0.f1 :: .int .i64 a0.f2 :: .bool a0.f3 :: .int .i64 a0.f4.f0 :: .int .i64 a0.f4.f1 :: .bool a0.f4.f2 :: .bool a0.f4.f3 :: .bool a0.f4.f4 :: .bool a0.f4.f5 :: .bool a0.f4.f6 :: .bool a0.f4.f7 :: .bool a0.f4.f8 :: .bool a0.f4.f9 :: .int .i64 a0.f5 :: .int .i64 a0.f6 :: .slice A0_1 a0.f7.length c0_1 :: .bool a0.f8 :: .bool a0.f9 :: .bool a0.f10 :: .bool a0.f11 :: .bool a0.f12 :: .bool a0.f13 :: .int .i64 a0.f14.f0 :: .int .i64 a0.f14.f1 :: .bool a0.f14.f2 :: .bool a0.f14.f3 :: .int .i64 a0.f14.f4.f0 :: .int .i64 a0.f14.f4.f1 :: .bool a0.f14.f4.f2 :: .bool a0.f14.f4.f3 :: .bool a0.f14.f4.f4 :: .bool a0.f14.f4.f5 :: .bool a0.f14.f4.f6 :: .bool a0.f14.f4.f7 :: .bool a0.f14.f4.f8 :: .bool a0.f14.f4.f9 :: .bool a0.f15 :: .int .i64 a0.f16.f0 :: .int .i64 a0.f16.f1 :: .slice A0_2 a0.f16.f2.length c0_2 :: .slice A0_3 a0.f17.length c0_3 :: []), Ro k76 A0_0 c0_0 a0.f0.f2, Ro (Kd.int .i64) A0_1 c0_1 a0.f7, Ro k76 A0_2 c0_2 a0.f16.f2, Ro (Kd.int .i32) A0_3 c0_3 a0.f17, Buf (Kd.int .u8) 5 A26 c27 r25.1]) (St.mk1 (aeq rfl (aeq rfl (aeq rfl (aeq rfl (aeq rfl (aeq rfl aeq0)))))) (Gh.sel [1, 2, 3, 4, 5, 6, 0] rfl rfl)) fun junk => ?_
          by_cases h31 : (r25.1.length : Int) < 12
          · replace H := g_ift h31 H
            refine SA_condT rfl h31 ?_
            refine SA_seq ?_
            refine SA_region ?_
            refine RA_step rfl (OA_v (v := .bool false) rfl (V_assign rfl) ?_)
            refine RA_nil ?_
            refine at_normal ?_
            refine SA_ret ?_
            refine thn_ret ?_
            refine inb_ret ?_
            refine thn_ret ?_
            refine thn_ret ?_
            refine inb_ret ?_
            refine thn_ret ?_
            refine thn_ret ?_
            have hr_ := Option.some.inj H
            subst hr_
            have hb_ := el_ret Bt8
            have hr_ := Option.some.inj hb_
            clear hb_
            subst hr_
            exact BQ_R1 [] rfl rfl (Gh.sel [] rfl rfl) ⟨rfl, rfl⟩
          · replace H := g_iff h31 H
            refine SA_condF rfl h31 ?_
            refine SA_skip ?_
            refine at_normal ?_
            refine SA_seq ?_
            refine SA_region ?_
            refine RA_step rfl (OA_v (v := .int .i64 1) rfl (V_assign rfl) ?_)
            refine RA_nil ?_
            refine at_normal ?_
            obtain ⟨t32, H, Bt32⟩ := g_bind H
            refine SA_mid (fun e ds As => ∃ (s33 : Unit), t32 = Out.go s33 ∧ St [(1, .slice A1 l1.length c1), (2, .int .u8 a2), (3, .pointer (some ⟨b6, 0, none⟩)), (7, .int .i64 x7_9)] [Ro k25 A1 c1 l1, Blk b6 83 (.int .i64 a0.f0.f0 :: .int .i64 a0.f0.f1 :: .slice A0_0 a0.f0.f2.length c0_0 :: .int .i64 a0.f1 :: .int .i64 a0.f2 :: .bool a0.f3 :: .int .i64 a0.f4.f0 :: .int .i64 a0.f4.f1 :: .bool a0.f4.f2 :: .bool a0.f4.f3 :: .bool a0.f4.f4 :: .bool a0.f4.f5 :: .bool a0.f4.f6 :: .bool a0.f4.f7 :: .bool a0.f4.f8 :: .bool a0.f4.f9 :: .int .i64 a0.f5 :: .int .i64 a0.f6 :: .slice A0_1 a0.f7.length c0_1 :: .bool a0.f8 :: .bool a0.f9 :: .bool a0.f10 :: .bool a0.f11 :: .bool a0.f12 :: .bool a0.f13 :: .int .i64 a0.f14.f0 :: .int .i64 a0.f14.f1 :: .bool a0.f14.f2 :: .bool a0.f14.f3 :: .int .i64 a0.f14.f4.f0 :: .int .i64 a0.f14.f4.f1 :: .bool a0.f14.f4.f2 :: .bool a0.f14.f4.f3 :: .bool a0.f14.f4.f4 :: .bool a0.f14.f4.f5 :: .bool a0.f14.f4.f6 :: .bool a0.f14.f4.f7 :: .bool a0.f14.f4.f8 :: .bool a0.f14.f4.f9 :: .bool a0.f15 :: .int .i64 a0.f16.f0 :: .int .i64 a0.f16.f1 :: .slice A0_2 a0.f16.f2.length c0_2 :: .slice A0_3 a0.f17.length c0_3 :: []), Ro k76 A0_0 c0_0 a0.f0.f2, Ro (Kd.int .i64) A0_1 c0_1 a0.f7, Ro k76 A0_2 c0_2 a0.f16.f2, Ro (Kd.int .i32) A0_3 c0_3 a0.f17] e ds As) ?_ ?_
            · refine SA_block ?_
              refine SA_loop (fun k_ e ds As => ∃ (x10_33 : Int), F7.l1 r25 k_ x10_33 = some t32 ∧ St [(1, .slice A1 l1.length c1), (2, .int .u8 a2), (3, .pointer (some ⟨b6, 0, none⟩)), (7, .int .i64 x7_9), (8, .slice A26 r25.1.length c27), (10, .int .i64 x10_33)] [Ro k25 A1 c1 l1, Blk b6 83 (.int .i64 a0.f0.f0 :: .int .i64 a0.f0.f1 :: .slice A0_0 a0.f0.f2.length c0_0 :: .int .i64 a0.f1 :: .int .i64 a0.f2 :: .bool a0.f3 :: .int .i64 a0.f4.f0 :: .int .i64 a0.f4.f1 :: .bool a0.f4.f2 :: .bool a0.f4.f3 :: .bool a0.f4.f4 :: .bool a0.f4.f5 :: .bool a0.f4.f6 :: .bool a0.f4.f7 :: .bool a0.f4.f8 :: .bool a0.f4.f9 :: .int .i64 a0.f5 :: .int .i64 a0.f6 :: .slice A0_1 a0.f7.length c0_1 :: .bool a0.f8 :: .bool a0.f9 :: .bool a0.f10 :: .bool a0.f11 :: .bool a0.f12 :: .bool a0.f13 :: .int .i64 a0.f14.f0 :: .int .i64 a0.f14.f1 :: .bool a0.f14.f2 :: .bool a0.f14.f3 :: .int .i64 a0.f14.f4.f0 :: .int .i64 a0.f14.f4.f1 :: .bool a0.f14.f4.f2 :: .bool a0.f14.f4.f3 :: .bool a0.f14.f4.f4 :: .bool a0.f14.f4.f5 :: .bool a0.f14.f4.f6 :: .bool a0.f14.f4.f7 :: .bool a0.f14.f4.f8 :: .bool a0.f14.f4.f9 :: .bool a0.f15 :: .int .i64 a0.f16.f0 :: .int .i64 a0.f16.f1 :: .slice A0_2 a0.f16.f2.length c0_2 :: .slice A0_3 a0.f17.length c0_3 :: []), Ro k76 A0_0 c0_0 a0.f0.f2, Ro (Kd.int .i64) A0_1 c0_1 a0.f7, Ro k76 A0_2 c0_2 a0.f16.f2, Ro (Kd.int .i32) A0_3 c0_3 a0.f17, Buf (Kd.int .u8) 5 A26 c27 r25.1] e ds As) (k := k10) ⟨_, H, St.mk1 (aeq rfl (aeq rfl (aeq rfl (aeq rfl (aeq rfl (aeq rfl aeq0)))))) (Gh.sel [0, 1, 2, 3, 4, 5, 6] rfl rfl)⟩ ?_
              clear H
              rintro k34 e ds As ⟨x10_33, H, hst35⟩
              obtain _ | k34 := k34
              · cases H
              rw [F7.l1] at H
              refine SA.of_St hst35 fun junk => ?_
              refine SA_seq ?_
              refine SA_seq ?_
              refine SA_region ?_
              refine RA_step rfl (OA_v (v := .int .i64 x10_33) rfl (V_move rfl) ?_)
              refine RA_step rfl (OA_v (v := .slice A26 r25.1.length c27) rfl (V_move rfl) ?_)
              refine RA_step rfl (OA_v (v := .int .i64 (r25.1.length : Int)) rfl (V_len Try.underlying23 rfl) ?_)
              refine RA_step rfl (OA_v (v := .int .i64 (IntKind.i64.wrap ((r25.1.length : Int) - 6))) rfl (V_sub rfl rfl) ?_)
              refine RA_step rfl (OA_v (v := .bool (decide (x10_33 < (IntKind.i64.wrap ((r25.1.length : Int) - 6))))) rfl (V_lss rfl rfl) ?_)
              refine RA_nil ?_
              refine at_normal ?_
              by_cases h36 : x10_33 < (IntKind.i64.wrap ((r25.1.length : Int) - 6))
              · replace H := g_ift h36 H
                refine SA_condT rfl h36 ?_
                refine SA_skip ?_
                refine at_normal ?_
                refine SA_seq ?_
                refine SA_block ?_
                refine SA_seq ?_
                refine SA_region ?_
                refine RA_step rfl (OA_v (v := .slice A26 r25.1.length c27) rfl (V_move rfl) ?_)
                refine RA_step rfl (OA_v (v := .int .i64 x10_33) rfl (V_move rfl) ?_)
                obtain ⟨⟨g37, g38⟩, H⟩ := g_pos H
                refine RA_step rfl (OA_r rfl (VR_index (i := x10_33) Try.underlying23 sz5 rfl rfl (Src.buf (k := 6) rfl) g37 g38) ?_)
                refine RA_step rfl (OA_r rfl (VR_load_el (enc := (fun x_ : Int => [Value.int .u8 x_])) (i := x10_33) (j := x10_33.toNat * 1) (m := 0) (sz := 1) Try.underlying5 rfl rfl rfl rfl (Src.buf (k := 6) rfl) g37 g38 (fun _ _ h => h) rfl) ?_)
                refine RA_step rfl (OA_v (v := .bool (decide ((rd r25.1 x10_33) = 27))) rfl (V_eql rfl rfl) ?_)
                refine RA_nil ?_
                refine at_normal ?_
                by_cases h39 : (rd r25.1 x10_33) = 27
                · replace H := g_ift h39 H
                  refine SA_condT rfl h39 ?_
                  refine SA_seq ?_
                  refine SA_region ?_
                  refine RA_step rfl (OA_v (v := .bool false) rfl (V_assign rfl) ?_)
                  refine RA_nil ?_
                  refine at_normal ?_
                  refine SA_ret ?_
                  refine inb_ret ?_
                  refine thn_ret ?_
                  refine thn_ret ?_
                  refine inb_ret ?_
                  refine thn_ret ?_
                  refine inb_ret ?_
                  refine thn_ret ?_
                  refine thn_ret ?_
                  refine inb_ret ?_
                  refine thn_ret ?_
                  refine thn_ret ?_
                  have hr_ := Option.some.inj H
                  subst hr_
                  have hb_ := el_ret Bt32
                  have hr_ := Option.some.inj hb_
                  clear hb_
                  subst hr_
                  have hb_ := el_ret Bt8
                  have hr_ := Option.some.inj hb_
                  clear hb_
                  subst hr_
                  exact BQ_R1 [] rfl rfl (Gh.sel [] rfl rfl) ⟨rfl, rfl⟩
                · replace H := g_iff h39 H
                  refine SA_condF rfl h39 ?_
                  refine SA_skip ?_
                  refine inb_normal ?_
                  refine at_normal ?_
                  refine SA_region ?_
                  refine RA_step rfl (OA_v (v := .int .i64 x10_33) rfl (V_move rfl) ?_)
                  refine RA_step rfl (OA_v (v := .int .i64 (IntKind.i64.wrap (x10_33 + 1))) rfl (V_add rfl rfl) ?_)
                  obtain ⟨n40, hn40, H⟩ := g_lt H
                  refine RA_step rfl (OA_v (v := .int .i64 n40) rfl (V_assign (v := .int .i64 n40) (congrArg (Value.int .i64) hn40.symm)) ?_)
                  refine RA_nil ?_
                  exact at_normal ⟨k34, Nat.lt_succ_self _, _, H, St.mk1 (aeq rfl (aeq rfl (aeq rfl (aeq rfl (aeq rfl (aeq rfl aeq0)))))) (Gh.sel [0, 1, 2, 3, 4, 5, 6] rfl rfl)⟩
              · replace H := g_iff h36 H
                refine SA_condF rfl h36 ?_
                refine SA_exit ?_
                refine thn_exit ?_
                refine thn_exit ?_
                refine inb_hit ?_
                have hr_ := Option.some.inj H
                subst hr_
                exact at_normal ⟨(), rfl, St.mk1 (aeq rfl (aeq rfl (aeq rfl (aeq rfl aeq0)))) (Gh.sel [0, 1, 2, 3, 4, 5] rfl rfl)⟩
            · rintro e ds As ⟨s33, ht, hst41⟩
              clear H
              subst ht
              replace Bt32 := el_go Bt32
              have H := Bt32
              clear Bt32
              refine inb_normal ?_
              refine at_normal ?_
              refine SA.of_St hst41 fun junk => ?_
              refine SA_region ?_
              refine RA_step rfl (OA_v (v := .int .i64 x7_9) rfl (V_move rfl) ?_)
              refine RA_step rfl (OA_v (v := .int .i64 (IntKind.i64.wrap (x7_9 + 1))) rfl (V_add rfl rfl) ?_)
              obtain ⟨n42, hn42, H⟩ := g_lt H
              refine RA_step rfl (OA_v (v := .int .i64 n42) rfl (V_assign (v := .int .i64 n42) (congrArg (Value.int .i64) hn42.symm)) ?_)
              refine RA_nil ?_
              exact at_normal ⟨k10, Nat.lt_succ_self _, _, H, St.mk1 (aeq rfl (aeq rfl (aeq rfl (aeq rfl aeq0)))) (Gh.sel [0, 1, 2, 3, 4, 5] rfl rfl)⟩
    · replace H := g_iff h12 H
      refine SA_condF rfl h12 ?_
      refine SA_exit ?_
      refine thn_exit ?_
      refine thn_exit ?_
      refine inb_hit ?_
      have hr_ := Option.some.inj H
      subst hr_
      exact at_normal ⟨(), rfl, St.mk1 (aeq rfl (aeq rfl (aeq rfl aeq0))) (Gh.sel [0, 1, 2, 3, 4, 5] rfl rfl)⟩
  · rintro e ds As ⟨s9, ht, hst44⟩
    clear H
    subst ht
    replace Bt8 := el_go Bt8
    have H := Bt8
    clear Bt8
    refine at_normal ?_
    refine SA.of_St hst44 fun junk => ?_
    refine SA_seq ?_
    refine SA_region ?_
    refine RA_step rfl (OA_v (v := .int .u8 a2) rfl (V_move rfl) ?_)
    refine RA_step rfl (OA_v (v := .int .i64 (IntKind.i64.wrap (a2))) rfl (V_conv (T := 5) (by kernel_rfl) Try.underlying3 rfl) ?_)
    refine RA_step rfl (OA_v (v := .slice A1 l1.length c1) rfl (V_move rfl) ?_)
    refine RA_step rfl (OA_v (v := .int .i64 (l1.length : Int)) rfl (V_len Try.underlying84 rfl) ?_)
    refine RA_step rfl (OA_v (v := .int .i64 (IntKind.i64.wrap ((l1.length : Int) + 1))) rfl (V_add rfl rfl) ?_)
    obtain ⟨g45, H⟩ := g_pos H
    refine RA_step rfl (OA_v (v := .int .i64 ((IntKind.i64.wrap (a2)).tmod (IntKind.i64.wrap ((l1.length : Int) + 1)))) rfl (V_rem rfl rfl g45) ?_)
    obtain ⟨n46, hn46, H⟩ := g_lt H
    refine RA_step rfl (OA_v (v := .int .i64 n46) rfl (V_assign (v := .int .i64 n46) (congrArg (Value.int .i64) hn46.symm)) ?_)
    refine RA_nil ?_
    refine at_normal ?_
    refine SA_seq ?_
    refine SA_region ?_
    refine RA_step rfl (OA_r rfl (VR_loadA_blk (b := b6) (m := 0) (k := 1) (vs := (.int .i64 a0.f0.f0 :: .int .i64 a0.f0.f1 :: .slice A0_0 a0.f0.f2.length c0_0 :: .int .i64 a0.f1 :: .int .i64 a0.f2 :: .bool a0.f3 :: .int .i64 a0.f4.f0 :: .int .i64 a0.f4.f1 :: .bool a0.f4.f2 :: .bool a0.f4.f3 :: .bool a0.f4.f4 :: .bool a0.f4.f5 :: .bool a0.f4.f6 :: .bool a0.f4.f7 :: .bool a0.f4.f8 :: .bool a0.f4.f9 :: .int .i64 a0.f5 :: .int .i64 a0.f6 :: .slice A0_1 a0.f7.length c0_1 :: .bool a0.f8 :: .bool a0.f9 :: .bool a0.f10 :: .bool a0.f11 :: .bool a0.f12 :: .bool a0.f13 :: .int .i64 a0.f14.f0 :: .int .i64 a0.f14.f1 :: .bool a0.f14.f2 :: .bool a0.f14.f3 :: .int .i64 a0.f14.f4.f0 :: .int .i64 a0.f14.f4.f1 :: .bool a0.f14.f4.f2 :: .bool a0.f14.f4.f3 :: .bool a0.f14.f4.f4 :: .bool a0.f14.f4.f5 :: .bool a0.f14.f4.f6 :: .bool a0.f14.f4.f7 :: .bool a0.f14.f4.f8 :: .bool a0.f14.f4.f9 :: .bool a0.f15 :: .int .i64 a0.f16.f0 :: .int .i64 a0.f16.f1 :: .slice A0_2 a0.f16.f2.length c0_2 :: .slice A0_3 a0.f17.length c0_3 :: [])) Try.underlying83 rfl sz83 rfl rfl rfl) ?_)
    refine RA_step rfl (OA_v (v := .slice A1 l1.length c1) rfl (V_move rfl) ?_)
    obtain ⟨r47, C1341, H⟩ := g_bind H
    refine RA_step rfl (OA_callA [2, 3, 4, 5, 0] [0, 1, 2, 3, 4, 5] rfl (X_fn (vs := [.agg (List.toArray (.int .i64 a0.f0.f0 :: .int .i64 a0.f0.f1 :: .slice A0_0 a0.f0.f2.length c0_0 :: .int .i64 a0.f1 :: .int .i64 a0.f2 :: .bool a0.f3 :: .int .i64 a0.f4.f0 :: .int .i64 a0.f4.f1 :: .bool a0.f4.f2 :: .bool a0.f4.f3 :: .bool a0.f4.f4 :: .bool a0.f4.f5 :: .bool a0.f4.f6 :: .bool a0.f4.f7 :: .bool a0.f4.f8 :: .bool a0.f4.f9 :: .int .i64 a0.f5 :: .int .i64 a0.f6 :: .slice A0_1 a0.f7.length c0_1 :: .bool a0.f8 :: .bool a0.f9 :: .bool a0.f10 :: .bool a0.f11 :: .bool a0.f12 :: .bool a0.f13 :: .int .i64 a0.f14.f0 :: .int .i64 a0.f14.f1 :: .bool a0.f14.f2 :: .bool a0.f14.f3 :: .int .i64 a0.f14.f4.f0 :: .int .i64 a0.f14.f4.f1 :: .bool a0.f14.f4.f2 :: .bool a0.f14.f4.f3 :: .bool a0.f14.f4.f4 :: .bool a0.f14.f4.f5 :: .bool a0.f14.f4.f6 :: .bool a0.f14.f4.f7 :: .bool a0.f14.f4.f8 :: .bool a0.f14.f4.f9 :: .bool a0.f15 :: .int .i64 a0.f16.f0 :: .int .i64 a0.f16.f1 :: .slice A0_2 a0.f16.f2.length c0_2 :: .slice A0_3 a0.f17.length c0_3 :: [])), .slice A1 l1.length c1]) Try.func34 nm34 rfl rfl) rfl (F34.ok (a0 := a0) (A0_0 := A0_0) (c0_0 := c0_0) (A0_1 := A0_1) (c0_1 := c0_1) (A0_2 := A0_2) (c0_2 := c0_2) (A0_3 := A0_3) (c0_3 := c0_3) (l1 := l1) (A1 := A1) (c1 := c1) C1341) rfl ?_)
    rintro _ _ ⟨A48, c49, rfl, rfl⟩
    refine RA_step rfl (OA_v (v := .tuple #[.slice A48 r47.1.length c49, .int .i64 r47.2]) rfl (V_move rfl) ?_)
    refine RA_step rfl (OA_v (v := .slice A48 r47.1.length c49) rfl (V_extract rfl rfl) ?_)
    refine RA_step rfl (OA_v (v := .int .i64 r47.2) rfl (V_extract rfl rfl) ?_)
    refine RA_step rfl (OA_v (v := .slice A48 r47.1.length c49) rfl (V_assign rfl) ?_)
    refine RA_step rfl (OA_v (v := .int .i64 r47.2) rfl (V_assign rfl) ?_)
    refine RA_nil ?_
    refine at_normal ?_
    refine SA_seq ?_
    refine SA_drawH [0, 1, 2, 3, 4, 6, 7, 8, 9, 10] #[[], [], [], [], [1, 2, 3], [0, 1, 2, 3, 4], [0, 1, 2, 3, 4], [0, 1, 2, 3, 4, 6], [0, 1, 2, 3, 4, 6], [0, 1, 2, 3, 4, 6, 7], [0, 1, 2, 3, 4, 6, 7, 8, 9]] [1, 2, 3, 4, 5, 6] [0, 1, 3, 4, 5, 6] mixed rfl rfl rfl fun I0 hS h0 hh0 w0 sH dd => ?_
    refine DH_take 0 (by kernel_rfl) rfl rfl (.no rfl) (PanOk.thn PanOk.body) sH rfl (VR_loadA_blk (b := b6) (m := 0) (k := 1) (vs := (.int .i64 a0.f0.f0 :: .int .i64 a0.f0.f1 :: .slice A0_0 a0.f0.f2.length c0_0 :: .int .i64 a0.f1 :: .int .i64 a0.f2 :: .bool a0.f3 :: .int .i64 a0.f4.f0 :: .int .i64 a0.f4.f1 :: .bool a0.f4.f2 :: .bool a0.f4.f3 :: .bool a0.f4.f4 :: .bool a0.f4.f5 :: .bool a0.f4.f6 :: .bool a0.f4.f7 :: .bool a0.f4.f8 :: .bool a0.f4.f9 :: .int .i64 a0.f5 :: .int .i64 a0.f6 :: .slice A0_1 a0.f7.length c0_1 :: .bool a0.f8 :: .bool a0.f9 :: .bool a0.f10 :: .bool a0.f11 :: .bool a0.f12 :: .bool a0.f13 :: .int .i64 a0.f14.f0 :: .int .i64 a0.f14.f1 :: .bool a0.f14.f2 :: .bool a0.f14.f3 :: .int .i64 a0.f14.f4.f0 :: .int .i64 a0.f14.f4.f1 :: .bool a0.f14.f4.f2 :: .bool a0.f14.f4.f3 :: .bool a0.f14.f4.f4 :: .bool a0.f14.f4.f5 :: .bool a0.f14.f4.f6 :: .bool a0.f14.f4.f7 :: .bool a0.f14.f4.f8 :: .bool a0.f14.f4.f9 :: .bool a0.f15 :: .int .i64 a0.f16.f0 :: .int .i64 a0.f16.f1 :: .slice A0_2 a0.f16.f2.length c0_2 :: .slice A0_3 a0.f17.length c0_3 :: [])) Try.underlying83 rfl sz83 rfl rfl rfl) ?_
    refine DH_take (v := .slice A1 l1.length c1) 1 (by kernel_rfl) rfl rfl (.no rfl) (PanOk.thn PanOk.body) sH rfl (VR.ofV (V_move rfl)) ?_
    refine DH_take (v := .int .i64 n46) 2 (by kernel_rfl) rfl rfl (.no rfl) (PanOk.thn PanOk.body) sH rfl (VR.ofV (V_move rfl)) ?_
    refine DH_take (v := .int .i64 n46) 3 (by kernel_rfl) rfl rfl (.no rfl) (PanOk.thn PanOk.body) sH rfl (VR.ofV (V_move rfl)) ?_
    obtain ⟨⟨g291, g292, g293, g294, g295⟩, H⟩ := g_pos H
    obtain ⟨n297, hn297, H⟩ := g_lt H
    replace sH := held (GP.subN (k := 0) (l := (0 : Int)) (h := n46) (m := n46) (sz := 5) hn297 rfl rfl g291 g292 g293 (.inr g294)) sH
    refine DH_dup 6 sH rfl rfl ?_
    refine DH_take 4 (by kernel_rfl) rfl rfl (.no rfl) (PanOk.thn PanOk.body) sH rfl (VR_sub (k := 0) (l := (0 : Int)) (h := n46) (m := n46) hn297 rfl Try.underlying84 sz25 rfl rfl rfl rfl (.inl ⟨rfl, rfl⟩) (.inr ⟨_, rfl⟩) (.inr ⟨⟨_, rfl⟩, ⟨_, rfl⟩, g294, g295⟩) g291 g292 g293) ?_
    obtain ⟨r351, C355, H⟩ := g_bind H
    refine DH_one 5 dd (by kernel_rfl) rfl (.no rfl) (OA_callA [2, 3, 4, 5, 6] [0, 1, 2, 3, 4, 5, 6] rfl (X_fn (vs := [.agg (List.toArray (.int .i64 a0.f0.f0 :: .int .i64 a0.f0.f1 :: .slice A0_0 a0.f0.f2.length c0_0 :: .int .i64 a0.f1 :: .int .i64 a0.f2 :: .bool a0.f3 :: .int .i64 a0.f4.f0 :: .int .i64 a0.f4.f1 :: .bool a0.f4.f2 :: .bool a0.f4.f3 :: .bool a0.f4.f4 :: .bool a0.f4.f5 :: .bool a0.f4.f6 :: .bool a0.f4.f7 :: .bool a0.f4.f8 :: .bool a0.f4.f9 :: .int .i64 a0.f5 :: .int .i64 a0.f6 :: .slice A0_1 a0.f7.length c0_1 :: .bool a0.f8 :: .bool a0.f9 :: .bool a0.f10 :: .bool a0.f11 :: .bool a0.f12 :: .bool a0.f13 :: .int .i64 a0.f14.f0 :: .int .i64 a0.f14.f1 :: .bool a0.f14.f2 :: .bool a0.f14.f3 :: .int .i64 a0.f14.f4.f0 :: .int .i64 a0.f14.f4.f1 :: .bool a0.f14.f4.f2 :: .bool a0.f14.f4.f3 :: .bool a0.f14.f4.f4 :: .bool a0.f14.f4.f5 :: .bool a0.f14.f4.f6 :: .bool a0.f14.f4.f7 :: .bool a0.f14.f4.f8 :: .bool a0.f14.f4.f9 :: .bool a0.f15 :: .int .i64 a0.f16.f0 :: .int .i64 a0.f16.f1 :: .slice A0_2 a0.f16.f2.length c0_2 :: .slice A0_3 a0.f17.length c0_3 :: [])), .slice (slA A1 (0 : Int) n46 5) n297.length (n46.toNat - (0 : Int).toNat)]) Try.func34 nm34 rfl rfl) rfl (F34.ok (a0 := a0) (A0_0 := A0_0) (c0_0 := c0_0) (A0_1 := A0_1) (c0_1 := c0_1) (A0_2 := A0_2) (c0_2 := c0_2) (A0_3 := A0_3) (c0_3 := c0_3) (l1 := n297) (A1 := slA A1 (0 : Int) n46 5) (c1 := n46.toNat - (0 : Int).toNat) C355) rfl ?_)
    rintro _ _ ⟨A352, c353, rfl, rfl⟩
    refine DH_take (v := .tuple #[.slice A352 r351.1.length c353, .int .i64 r351.2]) 6 (by kernel_rfl) rfl rfl (.no rfl) (PanOk.thn PanOk.body) sH rfl (VR.ofV (V_move rfl)) ?_
    refine DH_take (v := .slice A352 r351.1.length c353) 7 (by kernel_rfl) rfl rfl (.no rfl) (PanOk.thn PanOk.body) sH rfl (VR.ofV (V_extract rfl rfl)) ?_
    refine DH_take (v := .int .i64 r351.2) 8 (by kernel_rfl) rfl rfl (.no rfl) (PanOk.thn PanOk.body) sH rfl (VR.ofV (V_extract rfl rfl)) ?_
    refine DH_take (v := .slice A352 r351.1.length c353) 9 (by kernel_rfl) rfl rfl (.no rfl) (PanOk.thn PanOk.body) sH rfl (VR.ofV (V_assign rfl)) ?_
    refine DH_take (v := .int .i64 r351.2) 10 (by kernel_rfl) rfl rfl (.no rfl) (PanOk.thn PanOk.body) sH rfl (VR.ofV (V_assign rfl)) ?_
    refine DH_open dd sH ?_
    refine DN_done (by kernel_rfl) ?_
    refine at_normal ?_
    refine SA.of_St (l := [(1, .slice A1 l1.length c1), (3, .pointer (some ⟨b6, 0, none⟩)), (11, .int .i64 n46), (12, .slice A48 r47.1.length c49), (13, .int .i64 r47.2), (14, .slice A352 r351.1.length c353), (15, .int .i64 r351.2)]) (B := [Ro k25 A1 c1 l1, Blk b6 83 (.int .i64 a0.f0.f0 :: .int .i64 a0.f0.f1 :: .slice A0_0 a0.f0.f2.length c0_0 :: .int .i64 a0.f1 :: .int .i64 a0.f2 :: .bool a0.f3 :: .int .i64 a0.f4.f0 :: .int .i64 a0.f4.f1 :: .bool a0.f4.f2 :: .bool a0.f4.f3 :: .bool a0.f4.f4 :: .bool a0.f4.f5 :: .bool a0.f4.f6 :: .bool a0.f4.f7 :: .bool a0.f4.f8 :: .bool a0.f4.f9 :: .int .i64 a0.f5 :: .int .i64 a0.f6 :: .slice A0_1 a0.f7.length c0_1 :: .bool a0.f8 :: .bool a0.f9 :: .bool a0.f10 :: .bool a0.f11 :: .bool a0.f12 :: .bool a0.f13 :: .int .i64 a0.f14.f0 :: .int .i64 a0.f14.f1 :: .bool a0.f14.f2 :: .bool a0.f14.f3 :: .int .i64 a0.f14.f4.f0 :: .int .i64 a0.f14.f4.f1 :: .bool a0.f14.f4.f2 :: .bool a0.f14.f4.f3 :: .bool a0.f14.f4.f4 :: .bool a0.f14.f4.f5 :: .bool a0.f14.f4.f6 :: .bool a0.f14.f4.f7 :: .bool a0.f14.f4.f8 :: .bool a0.f14.f4.f9 :: .bool a0.f15 :: .int .i64 a0.f16.f0 :: .int .i64 a0.f16.f1 :: .slice A0_2 a0.f16.f2.length c0_2 :: .slice A0_3 a0.f17.length c0_3 :: []), Ro k76 A0_0 c0_0 a0.f0.f2, Ro (Kd.int .i64) A0_1 c0_1 a0.f7, Ro k76 A0_2 c0_2 a0.f16.f2, Ro (Kd.int .i32) A0_3 c0_3 a0.f17, Buf (Kd.int .u8) 5 A48 c49 r47.1, Buf (Kd.int .u8) 5 A352 c353 r351.1]) (St.mk1 (aeq rfl (aeq rfl (aeq rfl (aeq rfl (aeq rfl (aeq rfl (aeq rfl aeq0))))))) (Gh.sel [0, 1, 2, 3, 4, 5, 8, 7] rfl rfl)) fun junk => ?_
    refine SA_seq ?_
    refine SA_drawH [0, 1, 2, 3, 5, 6, 7, 8, 9] #[[], [], [], [1, 2], [0, 1, 2, 3], [0, 1, 2, 3], [0, 1, 2, 3, 5], [0, 1, 2, 3, 5], [0, 1, 2, 3, 5, 6], [0, 1, 2, 3, 5, 6, 7, 8]] [0, 1, 2, 3, 4, 5] [0, 2, 3, 4, 5, 6, 7] mixed rfl rfl rfl fun I0 hS h0 hh0 w0 sH dd => ?_
    refine DH_take 0 (by kernel_rfl) rfl rfl (.no rfl) (PanOk.thn PanOk.body) sH rfl (VR_loadA_blk (b := b6) (m := 0) (k := 1) (vs := (.int .i64 a0.f0.f0 :: .int .i64 a0.f0.f1 :: .slice A0_0 a0.f0.f2.length c0_0 :: .int .i64 a0.f1 :: .int .i64 a0.f2 :: .bool a0.f3 :: .int .i64 a0.f4.f0 :: .int .i64 a0.f4.f1 :: .bool a0.f4.f2 :: .bool a0.f4.f3 :: .bool a0.f4.f4 :: .bool a0.f4.f5 :: .bool a0.f4.f6 :: .bool a0.f4.f7 :: .bool a0.f4.f8 :: .bool a0.f4.f9 :: .int .i64 a0.f5 :: .int .i64 a0.f6 :: .slice A0_1 a0.f7.length c0_1 :: .bool a0.f8 :: .bool a0.f9 :: .bool a0.f10 :: .bool a0.f11 :: .bool a0.f12 :: .bool a0.f13 :: .int .i64 a0.f14.f0 :: .int .i64 a0.f14.f1 :: .bool a0.f14.f2 :: .bool a0.f14.f3 :: .int .i64 a0.f14.f4.f0 :: .int .i64 a0.f14.f4.f1 :: .bool a0.f14.f4.f2 :: .bool a0.f14.f4.f3 :: .bool a0.f14.f4.f4 :: .bool a0.f14.f4.f5 :: .bool a0.f14.f4.f6 :: .bool a0.f14.f4.f7 :: .bool a0.f14.f4.f8 :: .bool a0.f14.f4.f9 :: .bool a0.f15 :: .int .i64 a0.f16.f0 :: .int .i64 a0.f16.f1 :: .slice A0_2 a0.f16.f2.length c0_2 :: .slice A0_3 a0.f17.length c0_3 :: [])) Try.underlying83 rfl sz83 rfl rfl rfl) ?_
    refine DH_take (v := .slice A1 l1.length c1) 1 (by kernel_rfl) rfl rfl (.no rfl) (PanOk.thn PanOk.body) sH rfl (VR.ofV (V_move rfl)) ?_
    refine DH_take (v := .int .i64 n46) 2 (by kernel_rfl) rfl rfl (.no rfl) (PanOk.thn PanOk.body) sH rfl (VR.ofV (V_move rfl)) ?_
    obtain ⟨⟨g892, g893, g894⟩, H⟩ := g_pos H
    obtain ⟨n898, hn898, H⟩ := g_lt H
    replace sH := held (GP.subN (k := 0) (l := n46) (h := (l1.length : Int)) (m := (c1 : Int)) (sz := 5) hn898 rfl rfl g892 g893 g894 (.inl rfl)) sH
    refine DH_dup 6 sH rfl rfl ?_
    refine DH_take 3 (by kernel_rfl) rfl rfl (.no rfl) (PanOk.thn PanOk.body) sH rfl (VR_sub (k := 0) (l := n46) (h := (l1.length : Int)) (m := (c1 : Int)) hn898 rfl Try.underlying84 sz25 rfl rfl rfl rfl (.inr ⟨_, rfl⟩) (.inl ⟨rfl, rfl, rfl⟩) (.inl ⟨rfl, rfl⟩) g892 g893 g894) ?_
    obtain ⟨r952, C956, H⟩ := g_bind H
    refine DH_one 4 dd (by kernel_rfl) rfl (.no rfl) (OA_callA [1, 2, 3, 4, 7] [0, 1, 2, 3, 4, 5, 6, 7] rfl (X_fn (vs := [.agg (List.toArray (.int .i64 a0.f0.f0 :: .int .i64 a0.f0.f1 :: .slice A0_0 a0.f0.f2.length c0_0 :: .int .i64 a0.f1 :: .int .i64 a0.f2 :: .bool a0.f3 :: .int .i64 a0.f4.f0 :: .int .i64 a0.f4.f1 :: .bool a0.f4.f2 :: .bool a0.f4.f3 :: .bool a0.f4.f4 :: .bool a0.f4.f5 :: .bool a0.f4.f6 :: .bool a0.f4.f7 :: .bool a0.f4.f8 :: .bool a0.f4.f9 :: .int .i64 a0.f5 :: .int .i64 a0.f6 :: .slice A0_1 a0.f7.length c0_1 :: .bool a0.f8 :: .bool a0.f9 :: .bool a0.f10 :: .bool a0.f11 :: .bool a0.f12 :: .bool a0.f13 :: .int .i64 a0.f14.f0 :: .int .i64 a0.f14.f1 :: .bool a0.f14.f2 :: .bool a0.f14.f3 :: .int .i64 a0.f14.f4.f0 :: .int .i64 a0.f14.f4.f1 :: .bool a0.f14.f4.f2 :: .bool a0.f14.f4.f3 :: .bool a0.f14.f4.f4 :: .bool a0.f14.f4.f5 :: .bool a0.f14.f4.f6 :: .bool a0.f14.f4.f7 :: .bool a0.f14.f4.f8 :: .bool a0.f14.f4.f9 :: .bool a0.f15 :: .int .i64 a0.f16.f0 :: .int .i64 a0.f16.f1 :: .slice A0_2 a0.f16.f2.length c0_2 :: .slice A0_3 a0.f17.length c0_3 :: [])), .slice (slA A1 n46 (c1 : Int) 5) n898.length ((c1 : Int).toNat - n46.toNat)]) Try.func34 nm34 rfl rfl) rfl (F34.ok (a0 := a0) (A0_0 := A0_0) (c0_0 := c0_0) (A0_1 := A0_1) (c0_1 := c0_1) (A0_2 := A0_2) (c0_2 := c0_2) (A0_3 := A0_3) (c0_3 := c0_3) (l1 := n898) (A1 := slA A1 n46 (c1 : Int) 5) (c1 := (c1 : Int).toNat - n46.toNat) C956) rfl ?_)
    rintro _ _ ⟨A953, c954, rfl, rfl⟩
    refine DH_take (v := .tuple #[.slice A953 r952.1.length c954, .int .i64 r952.2]) 5 (by kernel_rfl) rfl rfl (.no rfl) (PanOk.thn PanOk.body) sH rfl (VR.ofV (V_move rfl)) ?_
    refine DH_take (v := .slice A953 r952.1.length c954) 6 (by kernel_rfl) rfl rfl (.no rfl) (PanOk.thn PanOk.body) sH rfl (VR.ofV (V_extract rfl rfl)) ?_
    refine DH_take (v := .int .i64 r952.2) 7 (by kernel_rfl) rfl rfl (.no rfl) (PanOk.thn PanOk.body) sH rfl (VR.ofV (V_extract rfl rfl)) ?_
    refine DH_take (v := .slice A953 r952.1.length c954) 8 (by kernel_rfl) rfl rfl (.no rfl) (PanOk.thn PanOk.body) sH rfl (VR.ofV (V_assign rfl)) ?_
    refine DH_take (v := .int .i64 r952.2) 9 (by kernel_rfl) rfl rfl (.no rfl) (PanOk.thn PanOk.body) sH rfl (VR.ofV (V_assign rfl)) ?_
    refine DH_open dd sH ?_
    refine DN_done (by kernel_rfl) ?_
    refine at_normal ?_
    refine SA.of_St (l := [(12, .slice A48 r47.1.length c49), (13, .int .i64 r47.2), (14, .slice A352 r351.1.length c353), (15, .int .i64 r351.2), (16, .slice A953 r952.1.length c954), (17, .int .i64 r952.2)]) (B := [Buf (Kd.int .u8) 5 A48 c49 r47.1, Buf (Kd.int .u8) 5 A352 c353 r351.1, Buf (Kd.int .u8) 5 A953 c954 r952.1]) (St.mk1 (aeq rfl (aeq rfl (aeq rfl (aeq rfl (aeq rfl (aeq rfl aeq0)))))) (Gh.sel [13, 14, 7] rfl rfl)) fun junk => ?_
    refine SA_seq ?_
    refine SA_seq ?_
    refine SA_region ?_
    refine RA_step rfl (OA_v (v := .int .i64 r47.2) rfl (V_move rfl) ?_)
    refine RA_step rfl (OA_v (v := .bool (decide (r47.2 ≠ 0))) rfl (V_neq rfl rfl) ?_)
    refine RA_nil ?_
    refine at_normal ?_
    by_cases h1313 : r47.2 ≠ 0
    · replace H := g_ift h1313 H
      refine SA_condT rfl h1313 ?_
      refine SA_seq ?_
      refine SA_region ?_
      obtain ⟨r1314, C1322, H⟩ := g_bind H
      refine RA_step rfl (OA_callA [] [0, 1, 2] rfl (X_fn (vs := []) Try.func19 nm19 rfl rfl) rfl (F19.ok C1322) rfl ?_)
      rintro _ _ ⟨rfl, rfl⟩
      refine RA_step rfl (OA_v (v := .bool r1314) rfl (V_move rfl) ?_)
      obtain ⟨q1315, hq1315, H⟩ := g_lt H
      refine RA_cut 4 (fun e ds As => St [(15, .int .i64 r351.2), (17, .int .i64 r952.2), (91, .bool q1315)] [] e ds As) ?_ ?_
      · by_cases h1316 : r1314 = true
        · refine RA_yesB rfl rfl rfl rfl (h1316) (OA_v (v := .slice A48 r47.1.length c49) rfl (V_move rfl) ?_)
          refine RA_yesB rfl rfl rfl rfl (h1316) (OA_v (v := .int .i64 (r47.1.length : Int)) rfl (V_len Try.underlying23 rfl) ?_)
          refine RA_yesB rfl rfl rfl rfl (h1316) (OA_v (v := .bool (decide ((r47.1.length : Int) = 0))) rfl (V_eql rfl rfl) ?_)
          refine RA_step rfl (OA_v rfl (V_pickT rfl (h1316) rfl) ?_)
          refine RA_nil ?_
          exact at_normal (St.mk1 (aeq rfl (aeq rfl (aeq (congrArg Value.bool (and_t hq1315 (h1316))) aeq0))) (Gh.sel [] rfl rfl))
        · refine RA_noB rfl rfl rfl rfl (bno h1316) rfl ?_
          refine RA_noB rfl rfl rfl rfl (bno h1316) rfl ?_
          refine RA_noB rfl rfl rfl rfl (bno h1316) rfl ?_
          refine RA_step rfl (OA_v rfl (V_pickF rfl (bno h1316) rfl) ?_)
          refine RA_nil ?_
          exact at_normal (St.mk1 (aeq rfl (aeq rfl (aeq (congrArg Value.bool (and_f hq1315 (bno h1316))) aeq0))) (Gh.sel [] rfl rfl))
      · rintro e ds As hst1317
        refine RA.of_St rfl hst1317 fun junk => ?_
        refine RA_step rfl (OA_v (v := .bool q1315) rfl (V_move rfl) ?_)
        obtain ⟨q1318, H, Bq1318⟩ := g_bind H
        refine RA_cut 7 (fun e ds As => St [(99, .bool q1318)] [] e ds As) ?_ ?_
        · by_cases h1319 : q1315 = true
          · replace H := g_ift h1319 H
            refine RA_yesB rfl rfl rfl rfl (h1319) (OA_v (v := .int .i64 r351.2) rfl (V_move rfl) ?_)
            refine RA_yesB rfl rfl rfl rfl (h1319) (OA_v (v := .bool (decide (r351.2 ≠ 0))) rfl (V_neq rfl rfl) ?_)
            refine RA_yesB rfl rfl rfl rfl (h1319) (OA_v (v := .bool (decide (r351.2 ≠ 0))) rfl (V_move rfl) ?_)
            by_cases h1320 : r351.2 ≠ 0
            · replace H := g_ift h1320 H
              refine RA_noB rfl rfl rfl rfl (dec_t h1320) rfl ?_
              refine RA_noB rfl rfl rfl rfl (dec_t h1320) rfl ?_
              refine RA_yesB rfl rfl rfl rfl (h1319) (OA_v rfl (V_pickT rfl (dec_t h1320) rfl) ?_)
              refine RA_step rfl (OA_v rfl (V_pickT rfl (h1319) rfl) ?_)
              have hr_ := Option.some.inj H
              subst hr_
              refine RA_nil ?_
              exact at_normal (St.mk1 (aeq rfl aeq0) (Gh.sel [] rfl rfl))
            · replace H := g_iff h1320 H
              refine RA_yesB rfl rfl rfl rfl (dec_f h1320) (OA_v (v := .int .i64 r952.2) rfl (V_move rfl) ?_)
              refine RA_yesB rfl rfl rfl rfl (dec_f h1320) (OA_v (v := .bool (decide (r952.2 ≠ 0))) rfl (V_neq rfl rfl) ?_)
              refine RA_yesB rfl rfl rfl rfl (h1319) (OA_v rfl (V_pickF rfl (dec_f h1320) rfl) ?_)
              refine RA_step rfl (OA_v rfl (V_pickT rfl (h1319) rfl) ?_)
              have hr_ := Option.some.inj H
              subst hr_
              refine RA_nil ?_
              exact at_normal (St.mk1 (aeq rfl aeq0) (Gh.sel [] rfl rfl))
          · replace H := g_iff h1319 H
            refine RA_noB rfl rfl rfl rfl (bno h1319) rfl ?_
            refine RA_noB rfl rfl rfl rfl (bno h1319) rfl ?_
            refine RA_noB rfl rfl rfl rfl (bno h1319) rfl ?_
            refine RA_noU rfl rfl rfl rfl rfl ?_
            refine RA_noU rfl rfl rfl rfl rfl ?_
            refine RA_noB rfl rfl rfl rfl (bno h1319) rfl ?_
            refine RA_step rfl (OA_v rfl (V_pickF rfl (bno h1319) rfl) ?_)
            have hr_ := Option.some.inj H
            subst hr_
            refine RA_nil ?_
            exact at_normal (St.mk1 (aeq rfl aeq0) (Gh.sel [] rfl rfl))
        · rintro e ds As hst1321
          clear H
          have H := Bq1318
          clear Bq1318
          refine RA.of_St rfl hst1321 fun junk => ?_
          refine RA_step rfl (OA_v (v := .bool q1318) rfl (V_assign rfl) ?_)
          refine RA_nil ?_
          refine at_normal ?_
          refine SA_ret ?_
          refine thn_ret ?_
          have hr_ := Option.some.inj H
          subst hr_
          exact BQ_R1 [] rfl rfl (Gh.sel [] rfl rfl) ⟨rfl, rfl⟩
    · replace H := g_iff h1313 H
      refine SA_condF rfl h1313 ?_
      refine SA_skip ?_
      refine at_normal ?_
      refine SA_seq ?_
      refine SA_region ?_
      obtain ⟨r1323, C1340, H⟩ := g_bind H
      refine RA_step rfl (OA_callA [] [0, 1, 2] rfl (X_fn (vs := []) Try.func19 nm19 rfl rfl) rfl (F19.ok C1340) rfl ?_)
      rintro _ _ ⟨rfl, rfl⟩
      refine RA_step rfl (OA_v (v := .bool r1323) rfl (V_move rfl) ?_)
      obtain ⟨q1324, hq1324, H⟩ := g_lt H
      refine RA_cut 3 (fun e ds As => St [(12, .slice A48 r47.1.length c49), (14, .slice A352 r351.1.length c353), (16, .slice A953 r952.1.length c954), (17, .int .i64 r952.2), (104, .bool q1324)] [Buf (Kd.int .u8) 5 A48 c49 r47.1, Buf (Kd.int .u8) 5 A352 c353 r351.1, Buf (Kd.int .u8) 5 A953 c954 r952.1] e ds As) ?_ ?_
      · by_cases h1325 : r1323 = true
        · refine RA_yesB rfl rfl rfl rfl (h1325) (OA_v (v := .int .i64 r351.2) rfl (V_move rfl) ?_)
          refine RA_yesB rfl rfl rfl rfl (h1325) (OA_v (v := .bool (decide (r351.2 = 0))) rfl (V_eql rfl rfl) ?_)
          refine RA_step rfl (OA_v rfl (V_pickT rfl (h1325) rfl) ?_)
          refine RA_nil ?_
          exact at_normal (St.mk1 (aeq rfl (aeq rfl (aeq rfl (aeq rfl (aeq (congrArg Value.bool (and_t hq1324 (h1325))) aeq0))))) (Gh.sel [0, 1, 2] rfl rfl))
        · refine RA_noB rfl rfl rfl rfl (bno h1325) rfl ?_
          refine RA_noB rfl rfl rfl rfl (bno h1325) rfl ?_
          refine RA_step rfl (OA_v rfl (V_pickF rfl (bno h1325) rfl) ?_)
          refine RA_nil ?_
          exact at_normal (St.mk1 (aeq rfl (aeq rfl (aeq rfl (aeq rfl (aeq (congrArg Value.bool (and_f hq1324 (bno h1325))) aeq0))))) (Gh.sel [0, 1, 2] rfl rfl))
      · rintro e ds As hst1326
        refine RA.of_St rfl hst1326 fun junk => ?_
        refine RA_step rfl (OA_v (v := .bool q1324) rfl (V_move rfl) ?_)
        obtain ⟨q1327, hq1327, H⟩ := g_lt H
        refine RA_cut 3 (fun e ds As => St [(12, .slice A48 r47.1.length c49), (14, .slice A352 r351.1.length c353), (16, .slice A953 r952.1.length c954), (108, .bool q1327)] [Buf (Kd.int .u8) 5 A48 c49 r47.1, Buf (Kd.int .u8) 5 A352 c353 r351.1, Buf (Kd.int .u8) 5 A953 c954 r952.1] e ds As) ?_ ?_
        · by_cases h1328 : q1324 = true
          · refine RA_yesB rfl rfl rfl rfl (h1328) (OA_v (v := .int .i64 r952.2) rfl (V_move rfl) ?_)
            refine RA_yesB rfl rfl rfl rfl (h1328) (OA_v (v := .bool (decide (r952.2 = 0))) rfl (V_eql rfl rfl) ?_)
            refine RA_step rfl (OA_v rfl (V_pickT rfl (h1328) rfl) ?_)
            refine RA_nil ?_
            exact at_normal (St.mk1 (aeq rfl (aeq rfl (aeq rfl (aeq (congrArg Value.bool (and_t hq1327 (h1328))) aeq0)))) (Gh.sel [0, 1, 2] rfl rfl))
          · refine RA_noB rfl rfl rfl rfl (bno h1328) rfl ?_
            refine RA_noB rfl rfl rfl rfl (bno h1328) rfl ?_
            refine RA_step rfl (OA_v rfl (V_pickF rfl (bno h1328) rfl) ?_)
            refine RA_nil ?_
            exact at_normal (St.mk1 (aeq rfl (aeq rfl (aeq rfl (aeq (congrArg Value.bool (and_f hq1327 (bno h1328))) aeq0)))) (Gh.sel [0, 1, 2] rfl rfl))
        · rintro e ds As hst1329
          refine RA.of_St rfl hst1329 fun junk => ?_
          refine RA_step rfl (OA_v (v := .bool q1327) rfl (V_move rfl) ?_)
          obtain ⟨q1330, H, Bq1330⟩ := g_bind H
          refine RA_cut 6 (fun e ds As => St [(115, .bool q1330)] [] e ds As) ?_ ?_
          · by_cases h1331 : q1327 = true
            · replace H := g_ift h1331 H
              refine RA_yesB rfl rfl rfl rfl (h1331) (OA_v (v := .slice A48 r47.1.length c49) rfl (V_move rfl) ?_)
              refine RA_yesB rfl rfl rfl rfl (h1331) (OA_v (v := .slice A352 r351.1.length c353) rfl (V_move rfl) ?_)
              refine RA_yesB rfl rfl rfl rfl (h1331) (OA_v (v := .slice A953 r952.1.length c954) rfl (V_move rfl) ?_)
              obtain ⟨g1333, H⟩ := g_pos H
              obtain ⟨n1336, hn1336, H⟩ := g_lt H
              refine RA_yesB rfl rfl rfl rfl (h1331) (OA_app (k := 1) (A := A352) (c := c353) (xs := r351.1) (ys := r952.1) n1336 hn1336 rfl Try.underlying23 inf5 rfl rfl rfl rfl rfl (Yld.slice Try.underlying23 (Src.buf (k := 2) rfl)) (by omega) (by omega) fun A1334 c1335 => ?_)
              obtain ⟨r1337, C1338, H⟩ := g_bind H
              refine RA_yesB rfl rfl rfl rfl (h1331) (OA.ghost (Gh.freeze (k := 0) rfl) (OA.ghost (Gh.freeze (k := 1) rfl) (OA_callA [0, 1] [0, 1, 2] rfl (X_fn (vs := [.slice A48 r47.1.length c49, .slice A1334 n1336.length c1335]) Try.func16 nm16 rfl rfl) rfl (F16.ok (l0 := r47.1) (A0 := A48) (c0 := c49) (l1 := n1336) (A1 := A1334) (c1 := c1335) C1338) rfl ?_)))
              rintro _ _ ⟨rfl, rfl⟩
              refine RA_step rfl (OA_v rfl (V_pickT rfl (h1331) rfl) ?_)
              have hr_ := Option.some.inj H
              subst hr_
              refine RA_nil ?_
              exact at_normal (St.mk1 (aeq rfl aeq0) (Gh.sel [] rfl rfl))
            · replace H := g_iff h1331 H
              refine RA_noB rfl rfl rfl rfl (bno h1331) rfl ?_
              refine RA_noB rfl rfl rfl rfl (bno h1331) rfl ?_
              refine RA_noB rfl rfl rfl rfl (bno h1331) rfl ?_
              refine RA_noB rfl rfl rfl rfl (bno h1331) rfl ?_
              refine RA_noB rfl rfl rfl rfl (bno h1331) rfl ?_
              refine RA_step rfl (OA_v rfl (V_pickF rfl (bno h1331) rfl) ?_)
              have hr_ := Option.some.inj H
              subst hr_
              refine RA_nil ?_
              exact at_normal (St.mk1 (aeq rfl aeq0) (Gh.sel [] rfl rfl))
          · rintro e ds As hst1339
            clear H
            have H := Bq1330
            clear Bq1330
            refine RA.of_St rfl hst1339 fun junk => ?_
            refine RA_step rfl (OA_v (v := .bool q1330) rfl (V_assign rfl) ?_)
            refine RA_nil ?_
            refine at_normal ?_
            refine SA_ret ?_
            have hr_ := Option.some.inj H
            subst hr_
            exact BQ_R1 [] rfl rfl (Gh.sel [] rfl rfl) ⟨rfl, rfl⟩
end Go.Proofs.Ytodkeoibebimgaa.Kb

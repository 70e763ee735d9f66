/- What functions compute, and that they do: 21, 22, 24, 50, 51, 54, 55, 80. -/
import Derived.Test.YtocjoegcfojjhaaHd0
import Derived.Test.YtocjoegcfojjhaaHd1
namespace Go.Proofs.Ytocjoegcfojjhaa.Hd
open Go Go.RowKit Go.Proofs.Ytocjoegcfojjhaa.SL
set_option linter.unusedVariables false
set_option linter.unusedSimpArgs false
attribute [local irreducible] IntKind.wrap minI maxI shrI shlI andI orI xorI andNotI cplI rd sub bytesOf strOf slA
/-! ### function 50: wayfarer/wayfarerref04.high -/
def F50.l1 (l0 : (List Int)) (x5_10 : Int) : Nat → (List Int) → Int → Int → Option ((List Int) × Int)
  | 0, _, _, _ => none
  | k + 1, x3_20, x4_20, x6_20 => if x6_20 < (l0.length : Int) then (if 0 ≤ x6_20 ∧ x6_20 < (l0.length : Int) then (if (rd l0 x6_20) = x5_10 then (if 0 ≤ (IntKind.u64.wrap (IntKind.i64.wrap (15 - x5_10))) then (if 0 ≤ x6_20 ∧ x6_20 < (x3_20.length : Int) then (lt (x3_20.set x6_20.toNat (shrI .i64 x4_20 (IntKind.u64.wrap (IntKind.i64.wrap (15 - x5_10))))) fun n33 => (if 0 ≤ (IntKind.u64.wrap (IntKind.i64.wrap (15 - x5_10))) then (lt (IntKind.i64.wrap (x4_20 + (shlI .i64 1 (IntKind.u64.wrap (IntKind.i64.wrap (15 - x5_10)))))) fun n35 => lt (IntKind.i64.wrap (x6_20 + 1)) fun n36 => F50.l1 l0 x5_10 k n33 n35 n36) else none)) else none) else none) else (lt (IntKind.i64.wrap (x6_20 + 1)) fun n37 => F50.l1 l0 x5_10 k x3_20 x4_20 n37)) else none) else (some (x3_20, x4_20))
def F50.l0 (l0 : (List Int)) : Nat → (List Int) → Int → Int → Option ((List Int))
  | 0, _, _, _ => none
  | k + 1, x3_10, x4_10, x5_10 => if x5_10 ≤ 15 then ((F50.l1 l0 x5_10 k x3_10 x4_10 0 : Option ((List Int) × Int)).bind (fun t17 => lt (IntKind.i64.wrap (x5_10 + 1)) fun n39 => F50.l0 l0 k t17.1 t17.2 n39)) else (some x3_10)
def F50.f (k : Nat) (l0 : (List Int)) : Option ((List Int)) := if 0 ≤ (l0.length : Int) ∧ (l0.length : Int) ≤ 17592186044416 then lt (List.replicate (l0.length : Int).toNat 0) fun n6 => ((F50.l0 l0 k n6 0 1 : Option ((List Int))).bind (fun t7 => some (t7))) else none
set_option maxHeartbeats 2000000 in
set_option maxRecDepth 100000 in
theorem F50.ok {k : Nat} {l0 : (List Int)} {A0 : Option Addr} {c0 : Nat} {r : (List Int)} (H : F50.f k l0 = some r) : SCA Try.prog 50 #[.slice A0 l0.length c0] [Ro (Kd.int .i64) A0 c0 l0] (fun v B => ∃ (A0_0_ : Option Addr) (c0_0_ : Nat), v = .slice A0_0_ r.length c0_0_ ∧ B = [Buf (Kd.int .i64) 3 A0_0_ c0_0_ r]) := by
  refine SCA_of_body Try.func50 rfl rfl ?_
  unfold F50.f at H
  refine SA_seq ?_
  refine SA_region ?_
  refine RA_step rfl (OA_v (v := .slice none 0 0) rfl (V_assign rfl) ?_)
  refine RA_nil ?_
  refine at_normal ?_
  refine SA_seq ?_
  refine SA_region ?_
  refine RA_step rfl (OA_v (v := .slice A0 l0.length c0) rfl (V_move rfl) ?_)
  refine RA_step rfl (OA_v (v := .int .i64 (l0.length : Int)) rfl (V_len Try.underlying34 rfl) ?_)
  obtain ⟨⟨g4, g5⟩, H⟩ := g_pos H
  obtain ⟨n6, hn6, H⟩ := g_lt H
  refine RA_step rfl (OA_mk (kd := (Kd.int .i64)) (sz := 1) (l := (l0.length : Int)) 0 n6 hn6 rfl Try.underlying34 inf3 rfl rfl g4 (by omega) (by omega) rfl rfl (fun _ => rfl) fun b2 => ?_)
  refine RA_step rfl (OA_v (v := .slice (some ⟨b2, 0, none⟩) n6.length ((l0.length : Int).toNat)) rfl (V_assign rfl) ?_)
  refine RA_nil ?_
  refine at_normal ?_
  refine SA_seq ?_
  refine SA_region ?_
  refine RA_step rfl (OA_v (v := .int .i64 0) rfl (V_assign rfl) ?_)
  refine RA_nil ?_
  refine at_normal ?_
  refine SA_seq ?_
  refine SA_seq ?_
  refine SA_region ?_
  refine RA_step rfl (OA_v (v := .int .i64 1) rfl (V_assign rfl) ?_)
  refine RA_nil ?_
  refine at_normal ?_
  obtain ⟨t7, H, Bt7⟩ := g_bind H
  refine SA_mid (fun e ds As => ∃ (A8 : Option Addr) (c9 : Nat), St [(3, .slice A8 t7.length c9)] [Buf (Kd.int .i64) 3 A8 c9 t7] e ds As) ?_ ?_
  · refine SA_block ?_
    refine SA_loop (fun k_ e ds As => ∃ (x3_10 : (List Int)) (x4_10 : Int) (x5_10 : Int), ∃ (A11 : Option Addr) (c12 : Nat), F50.l0 l0 k_ x3_10 x4_10 x5_10 = some t7 ∧ St [(0, .slice A0 l0.length c0), (3, .slice A11 x3_10.length c12), (4, .int .i64 x4_10), (5, .int .i64 x5_10)] [Ro (Kd.int .i64) A0 c0 l0, Buf (Kd.int .i64) 3 A11 c12 x3_10] e ds As) (k := k) ⟨_, _, _, some ⟨b2, 0, none⟩, (l0.length : Int).toNat, H, St.mk1 (aeq rfl (aeq rfl (aeq rfl (aeq rfl aeq0)))) (Gh.sel [0, 1] rfl rfl)⟩ ?_
    clear H
    rintro k14 e ds As ⟨x3_10, x4_10, x5_10, A11, c12, H, hst15⟩
    obtain _ | k14 := k14
    · cases H
    rw [F50.l0] at H
    refine SA.of_St hst15 fun junk => ?_
    refine SA_seq ?_
    refine SA_seq ?_
    refine SA_region ?_
    refine RA_step rfl (OA_v (v := .int .i64 x5_10) rfl (V_move rfl) ?_)
    refine RA_step rfl (OA_v (v := .bool (decide (x5_10 ≤ 15))) rfl (V_leq rfl rfl) ?_)
    refine RA_nil ?_
    refine at_normal ?_
    by_cases h16 : x5_10 ≤ 15
    · replace H := g_ift h16 H
      refine SA_condT rfl h16 ?_
      refine SA_skip ?_
      refine at_normal ?_
      refine SA_seq ?_
      refine SA_block ?_
      refine SA_seq ?_
      refine SA_region ?_
      refine RA_step rfl (OA_v (v := .int .i64 0) rfl (V_assign rfl) ?_)
      refine RA_nil ?_
      refine at_normal ?_
      obtain ⟨t17, H, Bt17⟩ := g_bind H
      refine SA_mid (fun e ds As => ∃ (A18 : Option Addr) (c19 : Nat), St [(0, .slice A0 l0.length c0), (3, .slice A18 t17.1.length c19), (4, .int .i64 t17.2), (5, .int .i64 x5_10)] [Buf (Kd.int .i64) 3 A18 c19 t17.1, Ro (Kd.int .i64) A0 c0 l0] e ds As) ?_ ?_
      · refine SA_block ?_
        refine SA_loop (fun k_ e ds As => ∃ (x3_20 : (List Int)) (x4_20 : Int) (x6_20 : Int), ∃ (A21 : Option Addr) (c22 : Nat), F50.l1 l0 x5_10 k_ x3_20 x4_20 x6_20 = some t17 ∧ St [(0, .slice A0 l0.length c0), (3, .slice A21 x3_20.length c22), (4, .int .i64 x4_20), (5, .int .i64 x5_10), (6, .int .i64 x6_20)] [Ro (Kd.int .i64) A0 c0 l0, Buf (Kd.int .i64) 3 A21 c22 x3_20] e ds As) (k := k14) ⟨_, _, _, A11, c12, H, St.mk1 (aeq rfl (aeq rfl (aeq rfl (aeq rfl (aeq rfl aeq0))))) (Gh.sel [0, 1] rfl rfl)⟩ ?_
        clear H
        rintro k24 e ds As ⟨x3_20, x4_20, x6_20, A21, c22, H, hst25⟩
        obtain _ | k24 := k24
        · cases H
        rw [F50.l1] at H
        refine SA.of_St hst25 fun junk => ?_
        refine SA_seq ?_
        refine SA_seq ?_
        refine SA_region ?_
        refine RA_step rfl (OA_v (v := .int .i64 x6_20) rfl (V_move rfl) ?_)
        refine RA_step rfl (OA_v (v := .slice A0 l0.length c0) rfl (V_move rfl) ?_)
        refine RA_step rfl (OA_v (v := .int .i64 (l0.length : Int)) rfl (V_len Try.underlying34 rfl) ?_)
        refine RA_step rfl (OA_v (v := .bool (decide (x6_20 < (l0.length : Int)))) rfl (V_lss rfl rfl) ?_)
        refine RA_nil ?_
        refine at_normal ?_
        by_cases h26 : x6_20 < (l0.length : Int)
        · replace H := g_ift h26 H
          refine SA_condT rfl h26 ?_
          refine SA_skip ?_
          refine at_normal ?_
          refine SA_seq ?_
          refine SA_block ?_
          refine SA_seq ?_
          refine SA_region ?_
          refine RA_step rfl (OA_v (v := .slice A0 l0.length c0) rfl (V_move rfl) ?_)
          refine RA_step rfl (OA_v (v := .int .i64 x6_20) rfl (V_move rfl) ?_)
          obtain ⟨⟨g27, g28⟩, H⟩ := g_pos H
          refine RA_step rfl (OA_r rfl (VR_index (i := x6_20) Try.underlying34 sz3 rfl rfl (Src.ro (k := 0) rfl) g27 g28) ?_)
          refine RA_step rfl (OA_r rfl (VR_load_el (enc := (fun x_ : Int => [Value.int .i64 x_])) (i := x6_20) (j := x6_20.toNat * 1) (m := 0) (sz := 1) Try.underlying3 rfl rfl rfl rfl (Src.ro (k := 0) rfl) g27 g28 (fun _ _ h => h) rfl) ?_)
          refine RA_step rfl (OA_v (v := .int .i64 x5_10) rfl (V_move rfl) ?_)
          refine RA_step rfl (OA_v (v := .bool (decide ((rd l0 x6_20) = x5_10))) rfl (V_eql rfl rfl) ?_)
          refine RA_nil ?_
          refine at_normal ?_
          by_cases h29 : (rd l0 x6_20) = x5_10
          · replace H := g_ift h29 H
            refine SA_condT rfl h29 ?_
            refine SA_seq ?_
            refine SA_region ?_
            refine RA_step rfl (OA_v (v := .slice A21 x3_20.length c22) rfl (V_move rfl) ?_)
            refine RA_step rfl (OA_v (v := .int .i64 x6_20) rfl (V_move rfl) ?_)
            refine RA_step rfl (OA_v (v := .int .i64 x4_20) rfl (V_move rfl) ?_)
            refine RA_step rfl (OA_v (v := .int .i64 x5_10) rfl (V_move rfl) ?_)
            refine RA_step rfl (OA_v (v := .int .i64 (IntKind.i64.wrap (15 - x5_10))) rfl (V_sub rfl rfl) ?_)
            refine RA_step rfl (OA_v (v := .int .u64 (IntKind.u64.wrap (IntKind.i64.wrap (15 - x5_10)))) rfl (V_conv (T := 3) (by kernel_rfl) Try.underlying53 rfl) ?_)
            obtain ⟨g30, H⟩ := g_pos H
            refine RA_step rfl (OA_v (v := .int .i64 (shrI .i64 x4_20 (IntKind.u64.wrap (IntKind.i64.wrap (15 - x5_10))))) rfl (V_shr rfl rfl g30) ?_)
            obtain ⟨⟨g31, g32⟩, H⟩ := g_pos H
            refine RA_step rfl (OA_r rfl (VR_index (i := x6_20) Try.underlying34 sz3 rfl rfl (Src.buf (k := 1) rfl) g31 g32) ?_)
            obtain ⟨n33, hn33, H⟩ := g_lt H
            have hl_n33 : n33.length = x3_20.length := by rw [hn33]; exact List.length_set
            refine RA_step rfl (OA_stEl (k := 1) (i := x6_20) (j := x6_20.toNat * 1) (m := 0) (sz := 1) (xs := x3_20) (vs := [.int .i64 (shrI .i64 x4_20 (IntKind.u64.wrap (IntKind.i64.wrap (15 - x5_10))))]) (shrI .i64 x4_20 (IntKind.u64.wrap (IntKind.i64.wrap (15 - x5_10)))) rfl rfl rfl rfl rfl rfl rfl rfl sz3 g31 g32 rfl (fun _ _ h_ => by subst h_; rfl) ?_)
            rewrite [← hn33]
            try rewrite [← hl_n33]
            refine RA_nil ?_
            refine at_normal ?_
            refine SA_region ?_
            refine RA_step rfl (OA_v (v := .int .i64 x4_20) rfl (V_move rfl) ?_)
            refine RA_step rfl (OA_v (v := .int .i64 x5_10) rfl (V_move rfl) ?_)
            refine RA_step rfl (OA_v (v := .int .i64 (IntKind.i64.wrap (15 - x5_10))) rfl (V_sub rfl rfl) ?_)
            refine RA_step rfl (OA_v (v := .int .u64 (IntKind.u64.wrap (IntKind.i64.wrap (15 - x5_10)))) rfl (V_conv (T := 3) (by kernel_rfl) Try.underlying53 rfl) ?_)
            obtain ⟨g34, H⟩ := g_pos H
            refine RA_step rfl (OA_v (v := .int .i64 (shlI .i64 1 (IntKind.u64.wrap (IntKind.i64.wrap (15 - x5_10))))) rfl (V_shl rfl rfl g34) ?_)
            refine RA_step rfl (OA_v (v := .int .i64 (IntKind.i64.wrap (x4_20 + (shlI .i64 1 (IntKind.u64.wrap (IntKind.i64.wrap (15 - x5_10))))))) rfl (V_add rfl rfl) ?_)
            obtain ⟨n35, hn35, H⟩ := g_lt H
            refine RA_step rfl (OA_v (v := .int .i64 n35) rfl (V_assign (v := .int .i64 n35) (congrArg (Value.int .i64) hn35.symm)) ?_)
            refine RA_nil ?_
            refine inb_normal ?_
            refine at_normal ?_
            refine SA.of_St (l := [(0, .slice A0 l0.length c0), (3, .slice A21 n33.length c22), (4, .int .i64 n35), (5, .int .i64 x5_10), (6, .int .i64 x6_20)]) (B := [Ro (Kd.int .i64) A0 c0 l0, Buf (Kd.int .i64) 3 A21 c22 n33]) (St.mk1 (aeq rfl (aeq rfl (aeq rfl (aeq rfl (aeq rfl aeq0))))) (Gh.sel [0, 1] rfl rfl)) fun junk => ?_
            refine SA_region ?_
            refine RA_step rfl (OA_v (v := .int .i64 x6_20) rfl (V_move rfl) ?_)
            refine RA_step rfl (OA_v (v := .int .i64 (IntKind.i64.wrap (x6_20 + 1))) rfl (V_add rfl rfl) ?_)
            obtain ⟨n36, hn36, H⟩ := g_lt H
            refine RA_step rfl (OA_v (v := .int .i64 n36) rfl (V_assign (v := .int .i64 n36) (congrArg (Value.int .i64) hn36.symm)) ?_)
            refine RA_nil ?_
            exact at_normal ⟨k24, Nat.lt_succ_self _, _, _, _, A21, c22, H, St.mk1 (aeq rfl (aeq rfl (aeq rfl (aeq rfl (aeq rfl aeq0))))) (Gh.sel [0, 1] rfl rfl)⟩
          · replace H := g_iff h29 H
            refine SA_condF rfl h29 ?_
            refine SA_skip ?_
            refine inb_normal ?_
            refine at_normal ?_
            refine SA_region ?_
            refine RA_step rfl (OA_v (v := .int .i64 x6_20) rfl (V_move rfl) ?_)
            refine RA_step rfl (OA_v (v := .int .i64 (IntKind.i64.wrap (x6_20 + 1))) rfl (V_add rfl rfl) ?_)
            obtain ⟨n37, hn37, H⟩ := g_lt H
            refine RA_step rfl (OA_v (v := .int .i64 n37) rfl (V_assign (v := .int .i64 n37) (congrArg (Value.int .i64) hn37.symm)) ?_)
            refine RA_nil ?_
            exact at_normal ⟨k24, Nat.lt_succ_self _, _, _, _, A21, c22, H, St.mk1 (aeq rfl (aeq rfl (aeq rfl (aeq rfl (aeq rfl aeq0))))) (Gh.sel [0, 1] rfl rfl)⟩
        · replace H := g_iff h26 H
          refine SA_condF rfl h26 ?_
          refine SA_exit ?_
          refine thn_exit ?_
          refine thn_exit ?_
          refine inb_hit ?_
          have hr_ := Option.some.inj H
          subst hr_
          exact at_normal ⟨A21, c22, St.mk1 (aeq rfl (aeq rfl (aeq rfl (aeq rfl aeq0)))) (Gh.sel [1, 0] rfl rfl)⟩
      · rintro e ds As ⟨A18, c19, hst38⟩
        clear H
        have H := Bt17
        clear Bt17
        refine inb_normal ?_
        refine at_normal ?_
        refine SA.of_St hst38 fun junk => ?_
        refine SA_region ?_
        refine RA_step rfl (OA_v (v := .int .i64 x5_10) rfl (V_move rfl) ?_)
        refine RA_step rfl (OA_v (v := .int .i64 (IntKind.i64.wrap (x5_10 + 1))) rfl (V_add rfl rfl) ?_)
        obtain ⟨n39, hn39, H⟩ := g_lt H
        refine RA_step rfl (OA_v (v := .int .i64 n39) rfl (V_assign (v := .int .i64 n39) (congrArg (Value.int .i64) hn39.symm)) ?_)
        refine RA_nil ?_
        exact at_normal ⟨k14, Nat.lt_succ_self _, _, _, _, A18, c19, H, St.mk1 (aeq rfl (aeq rfl (aeq rfl (aeq rfl aeq0)))) (Gh.sel [1, 0] rfl rfl)⟩
    · replace H := g_iff h16 H
      refine SA_condF rfl h16 ?_
      refine SA_exit ?_
      refine thn_exit ?_
      refine thn_exit ?_
      refine inb_hit ?_
      have hr_ := Option.some.inj H
      subst hr_
      exact at_normal ⟨A11, c12, St.mk1 (aeq rfl aeq0) (Gh.sel [1] rfl rfl)⟩
  · rintro e ds As ⟨A8, c9, hst40⟩
    clear H
    have H := Bt7
    clear Bt7
    refine at_normal ?_
    refine SA.of_St hst40 fun junk => ?_
    refine SA_seq ?_
    refine SA_region ?_
    refine RA_step rfl (OA_v (v := .slice A8 t7.length c9) rfl (V_move rfl) ?_)
    refine RA_step rfl (OA_v (v := .slice A8 t7.length c9) rfl (V_assign rfl) ?_)
    refine RA_nil ?_
    refine at_normal ?_
    refine SA_ret ?_
    have hr_ := Option.some.inj H
    subst hr_
    exact BQ_R1 [Buf (Kd.int .i64) 3 A8 c9 t7] rfl rfl (Gh.sel [0] rfl rfl) ⟨A8, c9, rfl, rfl⟩

/-! ### function 80: wayfarer/wayfarerref03.May -/
def F80.f (a0 : S52) : Option (Bool) := lt ((decide (a0.f1 ≥ 0)) && (decide (a0.f1 ≤ 64))) fun q3 => (if q3 = true then (if a0.f1 = 64 then (some true) else (if 0 ≤ (IntKind.u64.wrap (a0.f1)) then (some (decide ((shrI .u64 a0.f0 (IntKind.u64.wrap (a0.f1))) = 0))) else none)) else (some false) : Option Bool).bind (fun q6 => some (q6))
set_option maxHeartbeats 2000000 in
set_option maxRecDepth 100000 in
theorem F80.ok {a0 : S52} {r : Bool} (H : F80.f a0 = some r) : SCA Try.prog 80 #[.agg #[.int .u64 a0.f0, .int .i64 a0.f1]] [] (fun v B => v = .bool r ∧ B = []) := by
  refine SCA_of_body Try.func80 rfl rfl ?_
  unfold F80.f at H
  refine SA_seq ?_
  refine SA_region ?_
  refine RA_step rfl (OA_box rfl rfl fun b1 => ?_)
  refine RA_step rfl (OA_v (v := .bool false) rfl (V_assign rfl) ?_)
  refine RA_nil ?_
  refine at_normal ?_
  refine SA_seq ?_
  refine SA_region ?_
  refine RA_step rfl (OA_v (v := .pointer (some ((⟨b1, 0, none⟩ : Addr).add 1))) rfl (V_fieldAddrN (B := ⟨b1, 0, none⟩) (m := 0) (o := 1) Try.underlying52 rfl nz3 rfl rfl) ?_)
  refine RA_step rfl (OA_r rfl (VR_load_blk (b := b1) (m := 1) (k := 0) Try.underlying3 rfl rfl rfl rfl) ?_)
  refine RA_step rfl (OA_v (v := .bool (decide (a0.f1 ≥ 0))) rfl (V_geq rfl rfl) ?_)
  refine RA_step rfl (OA_v (v := .bool (decide (a0.f1 ≥ 0))) rfl (V_move rfl) ?_)
  obtain ⟨q3, hq3, H⟩ := g_lt H
  refine RA_cut 4 (fun e ds As => St [(1, .pointer (some ⟨b1, 0, none⟩)), (10, .bool q3)] [Blk b1 52 [.int .u64 a0.f0, .int .i64 a0.f1]] e ds As) ?_ ?_
  · by_cases h4 : a0.f1 ≥ 0
    · refine RA_yesB rfl rfl rfl rfl (dec_t h4) (OA_v (v := .pointer (some ((⟨b1, 0, none⟩ : Addr).add 1))) rfl (V_fieldAddrN (B := ⟨b1, 0, none⟩) (m := 0) (o := 1) Try.underlying52 rfl nz3 rfl rfl) ?_)
      refine RA_yesB rfl rfl rfl rfl (dec_t h4) (OA_r rfl (VR_load_blk (b := b1) (m := 1) (k := 0) Try.underlying3 rfl rfl rfl rfl) ?_)
      refine RA_yesB rfl rfl rfl rfl (dec_t h4) (OA_v (v := .bool (decide (a0.f1 ≤ 64))) rfl (V_leq rfl rfl) ?_)
      refine RA_step rfl (OA_v rfl (V_pickT rfl (dec_t h4) rfl) ?_)
      refine RA_nil ?_
      exact at_normal (St.mk1 (aeq rfl (aeq (congrArg Value.bool (and_t hq3 (dec_t h4))) aeq0)) (Gh.sel [0] rfl rfl))
    · refine RA_noB rfl rfl rfl rfl (dec_f h4) rfl ?_
      refine RA_noB rfl rfl rfl rfl (dec_f h4) rfl ?_
      refine RA_noB rfl rfl rfl rfl (dec_f h4) rfl ?_
      refine RA_step rfl (OA_v rfl (V_pickF rfl (dec_f h4) rfl) ?_)
      refine RA_nil ?_
      exact at_normal (St.mk1 (aeq rfl (aeq (congrArg Value.bool (and_f hq3 (dec_f h4))) aeq0)) (Gh.sel [0] rfl rfl))
  · rintro e ds As hst5
    refine RA.of_St rfl hst5 fun junk => ?_
    refine RA_step rfl (OA_v (v := .bool q3) rfl (V_move rfl) ?_)
    obtain ⟨q6, H, Bq6⟩ := g_bind H
    refine RA_cut 13 (fun e ds As => St [(24, .bool q6)] [] e ds As) ?_ ?_
    · by_cases h7 : q3 = true
      · replace H := g_ift h7 H
        refine RA_yesB rfl rfl rfl rfl (h7) (OA_v (v := .pointer (some ((⟨b1, 0, none⟩ : Addr).add 1))) rfl (V_fieldAddrN (B := ⟨b1, 0, none⟩) (m := 0) (o := 1) Try.underlying52 rfl nz3 rfl rfl) ?_)
        refine RA_yesB rfl rfl rfl rfl (h7) (OA_r rfl (VR_load_blk (b := b1) (m := 1) (k := 0) Try.underlying3 rfl rfl rfl rfl) ?_)
        refine RA_yesB rfl rfl rfl rfl (h7) (OA_v (v := .bool (decide (a0.f1 = 64))) rfl (V_eql rfl rfl) ?_)
        refine RA_yesB rfl rfl rfl rfl (h7) (OA_v (v := .bool (decide (a0.f1 = 64))) rfl (V_move rfl) ?_)
        by_cases h8 : a0.f1 = 64
        · replace H := g_ift h8 H
          refine RA_noB rfl rfl rfl rfl (dec_t h8) rfl ?_
          refine RA_noB rfl rfl rfl rfl (dec_t h8) rfl ?_
          refine RA_noB rfl rfl rfl rfl (dec_t h8) rfl ?_
          refine RA_noB rfl rfl rfl rfl (dec_t h8) rfl ?_
          refine RA_noB rfl rfl rfl rfl (dec_t h8) rfl ?_
          refine RA_noB rfl rfl rfl rfl (dec_t h8) rfl ?_
          refine RA_noB rfl rfl rfl rfl (dec_t h8) rfl ?_
          refine RA_yesB rfl rfl rfl rfl (h7) (OA_v rfl (V_pickT rfl (dec_t h8) rfl) ?_)
          refine RA_step rfl (OA_v rfl (V_pickT rfl (h7) rfl) ?_)
          have hr_ := Option.some.inj H
          subst hr_
          refine RA_nil ?_
          exact at_normal (St.mk1 (aeq rfl aeq0) (Gh.sel [] rfl rfl))
        · replace H := g_iff h8 H
          refine RA_yesB rfl rfl rfl rfl (dec_f h8) (OA_v (v := .pointer (some ⟨b1, 0, none⟩)) rfl (V_fieldAddrN (B := ⟨b1, 0, none⟩) (m := 0) (o := 0) Try.underlying52 rfl nz50 rfl rfl) ?_)
          refine RA_yesB rfl rfl rfl rfl (dec_f h8) (OA_r rfl (VR_load_blk (b := b1) (m := 0) (k := 0) Try.underlying50 rfl rfl rfl rfl) ?_)
          refine RA_yesB rfl rfl rfl rfl (dec_f h8) (OA_v (v := .pointer (some ((⟨b1, 0, none⟩ : Addr).add 1))) rfl (V_fieldAddrN (B := ⟨b1, 0, none⟩) (m := 0) (o := 1) Try.underlying52 rfl nz3 rfl rfl) ?_)
          refine RA_yesB rfl rfl rfl rfl (dec_f h8) (OA_r rfl (VR_load_blk (b := b1) (m := 1) (k := 0) Try.underlying3 rfl rfl rfl rfl) ?_)
          refine RA_yesB rfl rfl rfl rfl (dec_f h8) (OA_v (v := .int .u64 (IntKind.u64.wrap (a0.f1))) rfl (V_conv (T := 3) (by kernel_rfl) Try.underlying53 rfl) ?_)
          obtain ⟨g9, H⟩ := g_pos H
          refine RA_yesB rfl rfl rfl rfl (dec_f h8) (OA_v (v := .int .u64 (shrI .u64 a0.f0 (IntKind.u64.wrap (a0.f1)))) rfl (V_shr rfl rfl g9) ?_)
          refine RA_yesB rfl rfl rfl rfl (dec_f h8) (OA_v (v := .bool (decide ((shrI .u64 a0.f0 (IntKind.u64.wrap (a0.f1))) = 0))) rfl (V_eql rfl rfl) ?_)
          refine RA_yesB rfl rfl rfl rfl (h7) (OA_v rfl (V_pickF rfl (dec_f h8) rfl) ?_)
          refine RA_step rfl (OA_v rfl (V_pickT rfl (h7) rfl) ?_)
          have hr_ := Option.some.inj H
          subst hr_
          refine RA_nil ?_
          exact at_normal (St.mk1 (aeq rfl aeq0) (Gh.sel [] rfl rfl))
      · replace H := g_iff h7 H
        refine RA_noB rfl rfl rfl rfl (bno h7) rfl ?_
        refine RA_noB rfl rfl rfl rfl (bno h7) rfl ?_
        refine RA_noB rfl rfl rfl rfl (bno h7) rfl ?_
        refine RA_noB rfl rfl rfl rfl (bno h7) rfl ?_
        refine RA_noU rfl rfl rfl rfl rfl ?_
        refine RA_noU rfl rfl rfl rfl rfl ?_
        refine RA_noU rfl rfl rfl rfl rfl ?_
        refine RA_noU rfl rfl rfl rfl rfl ?_
        refine RA_noU rfl rfl rfl rfl rfl ?_
        refine RA_noU rfl rfl rfl rfl rfl ?_
        refine RA_noU rfl rfl rfl rfl rfl ?_
        refine RA_noB rfl rfl rfl rfl (bno h7) rfl ?_
        refine RA_step rfl (OA_v rfl (V_pickF rfl (bno h7) rfl) ?_)
        have hr_ := Option.some.inj H
        subst hr_
        refine RA_nil ?_
        exact at_normal (St.mk1 (aeq rfl aeq0) (Gh.sel [] rfl rfl))
    · rintro e ds As hst10
      clear H
      have H := Bq6
      clear Bq6
      refine RA.of_St rfl hst10 fun junk => ?_
      refine RA_step rfl (OA_v (v := .bool q6) rfl (V_assign rfl) ?_)
      refine RA_nil ?_
      refine at_normal ?_
      refine SA_ret ?_
      have hr_ := Option.some.inj H
      subst hr_
      exact BQ_R1 [] rfl rfl (Gh.sel [] rfl rfl) ⟨rfl, rfl⟩

/-! ### function 51: wayfarer/wayfarerref03.Reverse -/
def F51.l0 (a0 : S52) : Nat → Int → Int → Option (Int)
  | 0, _, _ => none
  | k + 1, x4_7, x5_7 => if x5_7 < a0.f1 then (if 0 ≤ (IntKind.u64.wrap (x5_7)) then (lt (orI .u64 (shlI .u64 x4_7 1) (andI .u64 (shrI .u64 a0.f0 (IntKind.u64.wrap (x5_7))) 1)) fun n12 => lt (IntKind.i64.wrap (x5_7 + 1)) fun n13 => F51.l0 a0 k n12 n13) else none) else (some x4_7)
def F51.f (k : Nat) (a0 : S52) : Option (S52 × Int) := (F80.f a0).bind (fun r5 => if (!r5) = true then (some (((S52.mk 0 0), 2))) else ((F51.l0 a0 k 0 0 : Option (Int)).bind (fun t7 => some (((S52.mk t7 a0.f1), 0)))))
set_option maxHeartbeats 2000000 in
set_option maxRecDepth 100000 in
theorem F51.ok {k : Nat} {a0 : S52} {r : S52 × Int} (H : F51.f k a0 = some r) : SCA Try.prog 51 #[.agg #[.int .u64 a0.f0, .int .i64 a0.f1]] [] (fun v B => v = .tuple #[.agg #[.int .u64 r.1.f0, .int .i64 r.1.f1], .int .i64 r.2] ∧ B = []) := by
  refine SCA_of_body Try.func51 rfl rfl ?_
  unfold F51.f at H
  refine SA_seq ?_
  refine SA_region ?_
  refine RA_step rfl (OA_box rfl rfl fun b1 => ?_)
  refine RA_step rfl (OA_alloc rfl zero52 fun b3 => ?_)
  refine RA_step rfl (OA_v (v := .int .i64 0) rfl (V_assign rfl) ?_)
  refine RA_nil ?_
  refine at_normal ?_
  refine SA_seq ?_
  refine SA_seq ?_
  refine SA_region ?_
  refine RA_step rfl (OA_r rfl (VR_loadA_blk (b := b1) (m := 0) (k := 0) (vs := [.int .u64 a0.f0, .int .i64 a0.f1]) Try.underlying52 rfl sz52 rfl rfl rfl) ?_)
  obtain ⟨r5, C15, H⟩ := g_bind H
  refine RA_step rfl (OA_callA [] [0, 1] rfl (X_fn (vs := [.agg #[.int .u64 a0.f0, .int .i64 a0.f1]]) Try.func80 nm80 rfl rfl) rfl (F80.ok (a0 := a0) C15) rfl ?_)
  rintro _ _ ⟨rfl, rfl⟩
  refine RA_step rfl (OA_v (v := .bool (!r5)) rfl (V_not rfl) ?_)
  refine RA_nil ?_
  refine at_normal ?_
  by_cases h6 : (!r5) = true
  · replace H := g_ift h6 H
    refine SA_condTb rfl h6 ?_
    refine SA_seq ?_
    refine SA_region ?_
    refine RA_step rfl (OA_v (v := .agg #[.int .u64 0, .int .i64 0]) rfl (V_build (cells := [.int .u64 0, .int .i64 0]) zero52 Try.underlying52 plc52 (by kernel_rfl)) ?_)
    refine RA_step rfl (OA_st (b := b3) (m := 0) (k := 1) (vs := [.int .u64 0, .int .i64 0]) (cs' := [.int .u64 0, .int .i64 0]) rfl rfl rfl rfl rfl rfl sz52 rfl rfl ?_)
    refine RA_step rfl (OA_v (v := .int .i64 2) rfl (V_assign rfl) ?_)
    refine RA_nil ?_
    refine at_normal ?_
    refine SA_ret ?_
    refine thn_ret ?_
    have hr_ := Option.some.inj H
    subst hr_
    exact BQ_RL (rs := [.cell 2 52, .tmp 3]) (vs := [.agg #[.int .u64 0, .int .i64 0], .int .i64 2]) [] rfl ⟨RV.cell (k := 1) rfl rfl Try.underlying52 rfl sz52, RV.tmp rfl, trivial⟩ rfl (Gh.sel [] rfl rfl) ⟨rfl, rfl⟩
  · replace H := g_iff h6 H
    refine SA_condFb rfl h6 ?_
    refine SA_skip ?_
    refine at_normal ?_
    refine SA_seq ?_
    refine SA_region ?_
    refine RA_step rfl (OA_v (v := .int .u64 0) rfl (V_assign rfl) ?_)
    refine RA_nil ?_
    refine at_normal ?_
    refine SA_seq ?_
    refine SA_seq ?_
    refine SA_region ?_
    refine RA_step rfl (OA_v (v := .int .i64 0) rfl (V_assign rfl) ?_)
    refine RA_nil ?_
    refine at_normal ?_
    obtain ⟨t7, H, Bt7⟩ := g_bind H
    refine SA_mid (fun e ds As => St [(1, .pointer (some ⟨b1, 0, none⟩)), (2, .pointer (some ⟨b3, 0, none⟩)), (4, .int .u64 t7)] [Blk b1 52 [.int .u64 a0.f0, .int .i64 a0.f1], Blk b3 52 [.int .u64 0, .int .i64 0]] e ds As) ?_ ?_
    · refine SA_block ?_
      refine SA_loop (fun k_ e ds As => ∃ (x4_7 : Int) (x5_7 : Int), F51.l0 a0 k_ x4_7 x5_7 = some t7 ∧ St [(1, .pointer (some ⟨b1, 0, none⟩)), (2, .pointer (some ⟨b3, 0, none⟩)), (4, .int .u64 x4_7), (5, .int .i64 x5_7)] [Blk b1 52 [.int .u64 a0.f0, .int .i64 a0.f1], Blk b3 52 [.int .u64 0, .int .i64 0]] e ds As) (k := k) ⟨_, _, H, St.mk1 (aeq rfl (aeq rfl (aeq rfl (aeq rfl aeq0)))) (Gh.sel [0, 1] rfl rfl)⟩ ?_
      clear H
      rintro k8 e ds As ⟨x4_7, x5_7, H, hst9⟩
      obtain _ | k8 := k8
      · cases H
      rw [F51.l0] at H
      refine SA.of_St hst9 fun junk => ?_
      refine SA_seq ?_
      refine SA_seq ?_
      refine SA_region ?_
      refine RA_step rfl (OA_v (v := .int .i64 x5_7) rfl (V_move rfl) ?_)
      refine RA_step rfl (OA_v (v := .pointer (some ((⟨b1, 0, none⟩ : Addr).add 1))) rfl (V_fieldAddrN (B := ⟨b1, 0, none⟩) (m := 0) (o := 1) Try.underlying52 rfl nz3 rfl rfl) ?_)
      refine RA_step rfl (OA_r rfl (VR_load_blk (b := b1) (m := 1) (k := 0) Try.underlying3 rfl rfl rfl rfl) ?_)
      refine RA_step rfl (OA_v (v := .bool (decide (x5_7 < a0.f1))) rfl (V_lss rfl rfl) ?_)
      refine RA_nil ?_
      refine at_normal ?_
      by_cases h10 : x5_7 < a0.f1
      · replace H := g_ift h10 H
        refine SA_condT rfl h10 ?_
        refine SA_skip ?_
        refine at_normal ?_
        refine SA_seq ?_
        refine SA_block ?_
        refine SA_region ?_
        refine RA_step rfl (OA_v (v := .int .u64 x4_7) rfl (V_move rfl) ?_)
        refine RA_step rfl (OA_v (v := .int .u64 (shlI .u64 x4_7 1)) rfl (V_shl rfl rfl (by decide)) ?_)
        refine RA_step rfl (OA_v (v := .pointer (some ⟨b1, 0, none⟩)) rfl (V_fieldAddrN (B := ⟨b1, 0, none⟩) (m := 0) (o := 0) Try.underlying52 rfl nz50 rfl rfl) ?_)
        refine RA_step rfl (OA_r rfl (VR_load_blk (b := b1) (m := 0) (k := 0) Try.underlying50 rfl rfl rfl rfl) ?_)
        refine RA_step rfl (OA_v (v := .int .i64 x5_7) rfl (V_move rfl) ?_)
        refine RA_step rfl (OA_v (v := .int .u64 (IntKind.u64.wrap (x5_7))) rfl (V_conv (T := 3) (by kernel_rfl) Try.underlying53 rfl) ?_)
        obtain ⟨g11, H⟩ := g_pos H
        refine RA_step rfl (OA_v (v := .int .u64 (shrI .u64 a0.f0 (IntKind.u64.wrap (x5_7)))) rfl (V_shr rfl rfl g11) ?_)
        refine RA_step rfl (OA_v (v := .int .u64 (andI .u64 (shrI .u64 a0.f0 (IntKind.u64.wrap (x5_7))) 1)) rfl (V_and rfl rfl) ?_)
        refine RA_step rfl (OA_v (v := .int .u64 (orI .u64 (shlI .u64 x4_7 1) (andI .u64 (shrI .u64 a0.f0 (IntKind.u64.wrap (x5_7))) 1))) rfl (V_or rfl rfl) ?_)
        obtain ⟨n12, hn12, H⟩ := g_lt H
        refine RA_step rfl (OA_v (v := .int .u64 n12) rfl (V_assign (v := .int .u64 n12) (congrArg (Value.int .u64) hn12.symm)) ?_)
        refine RA_nil ?_
        refine inb_normal ?_
        refine at_normal ?_
        refine SA_region ?_
        refine RA_step rfl (OA_v (v := .int .i64 x5_7) rfl (V_move rfl) ?_)
        refine RA_step rfl (OA_v (v := .int .i64 (IntKind.i64.wrap (x5_7 + 1))) rfl (V_add rfl rfl) ?_)
        obtain ⟨n13, hn13, H⟩ := g_lt H
        refine RA_step rfl (OA_v (v := .int .i64 n13) rfl (V_assign (v := .int .i64 n13) (congrArg (Value.int .i64) hn13.symm)) ?_)
        refine RA_nil ?_
        exact at_normal ⟨k8, Nat.lt_succ_self _, _, _, H, St.mk1 (aeq rfl (aeq rfl (aeq rfl (aeq rfl aeq0)))) (Gh.sel [0, 1] rfl rfl)⟩
      · replace H := g_iff h10 H
        refine SA_condF rfl h10 ?_
        refine SA_exit ?_
        refine thn_exit ?_
        refine thn_exit ?_
        refine inb_hit ?_
        have hr_ := Option.some.inj H
        subst hr_
        exact at_normal (St.mk1 (aeq rfl (aeq rfl (aeq rfl aeq0))) (Gh.sel [0, 1] rfl rfl))
    · rintro e ds As hst14
      clear H
      have H := Bt7
      clear Bt7
      refine at_normal ?_
      refine SA.of_St hst14 fun junk => ?_
      refine SA_seq ?_
      refine SA_region ?_
      refine RA_step rfl (OA_v (v := .int .u64 t7) rfl (V_move rfl) ?_)
      refine RA_step rfl (OA_v (v := .pointer (some ((⟨b1, 0, none⟩ : Addr).add 1))) rfl (V_fieldAddrN (B := ⟨b1, 0, none⟩) (m := 0) (o := 1) Try.underlying52 rfl nz3 rfl rfl) ?_)
      refine RA_step rfl (OA_r rfl (VR_load_blk (b := b1) (m := 1) (k := 0) Try.underlying3 rfl rfl rfl rfl) ?_)
      refine RA_step rfl (OA_v (v := .agg #[.int .u64 t7, .int .i64 a0.f1]) rfl (V_build (cells := [.int .u64 t7, .int .i64 a0.f1]) zero52 Try.underlying52 plc52 (by kernel_rfl)) ?_)
      refine RA_step rfl (OA_st (b := b3) (m := 0) (k := 1) (vs := [.int .u64 t7, .int .i64 a0.f1]) (cs' := [.int .u64 t7, .int .i64 a0.f1]) rfl rfl rfl rfl rfl rfl sz52 rfl rfl ?_)
      refine RA_step rfl (OA_v (v := .int .i64 0) rfl (V_assign rfl) ?_)
      refine RA_nil ?_
      refine at_normal ?_
      refine SA_ret ?_
      have hr_ := Option.some.inj H
      subst hr_
      exact BQ_RL (rs := [.cell 2 52, .tmp 3]) (vs := [.agg #[.int .u64 t7, .int .i64 a0.f1], .int .i64 0]) [] rfl ⟨RV.cell (k := 1) rfl rfl Try.underlying52 rfl sz52, RV.tmp rfl, trivial⟩ rfl (Gh.sel [] rfl rfl) ⟨rfl, rfl⟩

/-! ### function 21: wayfarer/wayfarerref04.Codes -/
def F21.l0 (l0 : (List Int)) (r5 : (List Int)) : Nat → (List S52) → Int → Option ((List S52))
  | 0, _, _ => none
  | k + 1, x6_12, x7_12 => if x7_12 < (l0.length : Int) then (if 0 ≤ x7_12 ∧ x7_12 < (l0.length : Int) then (if 0 ≤ x7_12 ∧ x7_12 < (l0.length : Int) then ((if (rd l0 x7_12) > 0 then (if 0 ≤ x7_12 ∧ x7_12 < (r5.length : Int) then (if 0 ≤ x7_12 ∧ x7_12 < (l0.length : Int) then ((F51.f k (S52.mk (IntKind.u64.wrap (rd r5 x7_12)) (rd l0 x7_12))).bind (fun r629 => some r629.1)) else none) else none) else (some (S52.mk 0 (rd l0 x7_12))) : Option (S52)).bind (fun t26 => if x6_12.length + ([t26] : (List S52)).length ≤ 8796093022208 then lt (x6_12 ++ ([t26] : (List S52))) fun n937 => (lt (IntKind.i64.wrap (x7_12 + 1)) fun n938 => F21.l0 l0 r5 k n937 n938) else none)) else none) else none) else (some x6_12)
def F21.f (k : Nat) (l0 : (List Int)) : Option ((List S52) × Int) := (F43.f k l0).bind (fun r2 => if r2 ≠ 0 then (some ((([] : (List S52)), r2))) else ((F50.f k l0).bind (fun r5 => (F21.l0 l0 r5 k ([]) 0 : Option ((List S52))).bind (fun t9 => some ((t9, 0))))))
set_option maxHeartbeats 2000000 in
set_option maxRecDepth 100000 in
theorem F21.ok {k : Nat} {l0 : (List Int)} {A0 : Option Addr} {c0 : Nat} {r : (List S52) × Int} (H : F21.f k l0 = some r) : SCA Try.prog 21 #[.slice A0 l0.length c0] [Ro (Kd.int .i64) A0 c0 l0] (fun v B => ∃ (A0_0_ : Option Addr) (c0_0_ : Nat), v = .tuple #[.slice A0_0_ r.1.length c0_0_, .int .i64 r.2] ∧ B = [Buf k52 52 A0_0_ c0_0_ r.1]) := by
  refine SCA_of_body Try.func21 rfl rfl ?_
  unfold F21.f at H
  refine SA_seq ?_
  refine SA_region ?_
  refine RA_step rfl (OA_v (v := .slice none 0 0) rfl (V_assign rfl) ?_)
  refine RA_step rfl (OA_v (v := .int .i64 0) rfl (V_assign rfl) ?_)
  refine RA_nil ?_
  refine at_normal ?_
  refine SA_seq ?_
  refine SA_seq ?_
  refine SA_region ?_
  refine RA_step rfl (OA_v (v := .slice A0 l0.length c0) rfl (V_move rfl) ?_)
  obtain ⟨r2, C941, H⟩ := g_bind H
  refine RA_step rfl (OA_callA [0] [0] rfl (X_fn (vs := [.slice A0 l0.length c0]) Try.func43 nm43 rfl rfl) rfl (F43.ok (l0 := l0) (A0 := A0) (c0 := c0) C941) rfl ?_)
  rintro _ _ ⟨rfl, rfl⟩
  refine RA_step rfl (OA_v (v := .int .i64 r2) rfl (V_assign rfl) ?_)
  refine RA_nil ?_
  refine at_normal ?_
  refine SA_seq ?_
  refine SA_region ?_
  refine RA_step rfl (OA_v (v := .int .i64 r2) rfl (V_move rfl) ?_)
  refine RA_step rfl (OA_v (v := .bool (decide (r2 ≠ 0))) rfl (V_neq rfl rfl) ?_)
  refine RA_nil ?_
  refine at_normal ?_
  by_cases h3 : r2 ≠ 0
  · replace H := g_ift h3 H
    refine SA_condT rfl h3 ?_
    refine SA_seq ?_
    refine SA_region ?_
    refine RA_step rfl (OA_v (v := .int .i64 r2) rfl (V_move rfl) ?_)
    refine RA_step rfl (OA_v (v := .slice none 0 0) rfl (V_assign rfl) ?_)
    refine RA_step rfl (OA_v (v := .int .i64 r2) rfl (V_assign rfl) ?_)
    refine RA_nil ?_
    refine at_normal ?_
    refine SA_ret ?_
    refine thn_ret ?_
    have hr_ := Option.some.inj H
    subst hr_
    exact BQ_R2 [Buf k52 52 none 0 ([] : (List S52))] rfl rfl rfl ((Gh.nilBuf k52 52).trans (Gh.sel [1] rfl rfl)) ⟨none, 0, rfl, rfl⟩
  · replace H := g_iff h3 H
    refine SA_condF rfl h3 ?_
    refine SA_skip ?_
    refine at_normal ?_
    refine SA_seq ?_
    refine SA_region ?_
    refine RA_step rfl (OA_v (v := .slice A0 l0.length c0) rfl (V_move rfl) ?_)
    obtain ⟨r5, C940, H⟩ := g_bind H
    refine RA_step rfl (OA_callA [0] [0] rfl (X_fn (vs := [.slice A0 l0.length c0]) Try.func50 nm50 rfl rfl) rfl (F50.ok (l0 := l0) (A0 := A0) (c0 := c0) C940) rfl ?_)
    rintro _ _ ⟨A6, c7, rfl, rfl⟩
    refine RA_step rfl (OA_v (v := .slice A6 r5.length c7) rfl (V_assign rfl) ?_)
    refine RA_nil ?_
    refine at_normal ?_
    refine SA_seq ?_
    refine SA_region ?_
    refine RA_step rfl (OA_v (v := .slice none 0 0) rfl (V_assign rfl) ?_)
    refine RA_nil ?_
    refine at_normal ?_
    refine SA_seq ?_
    refine SA_seq ?_
    refine SA_region ?_
    refine RA_step rfl (OA_v (v := .int .i64 0) rfl (V_assign rfl) ?_)
    refine RA_nil ?_
    refine at_normal ?_
    obtain ⟨t9, H, Bt9⟩ := g_bind H
    refine SA_mid (fun e ds As => ∃ (A10 : Option Addr) (c11 : Nat), St [(6, .slice A10 t9.length c11)] [Buf k52 52 A10 c11 t9] e ds As) ?_ ?_
    · refine SA_block ?_
      refine SA_loop (fun k_ e ds As => ∃ (x6_12 : (List S52)) (x7_12 : Int), ∃ (A13 : Option Addr) (c14 : Nat), F21.l0 l0 r5 k_ x6_12 x7_12 = some t9 ∧ St [(0, .slice A0 l0.length c0), (5, .slice A6 r5.length c7), (6, .slice A13 x6_12.length c14), (7, .int .i64 x7_12)] [Ro (Kd.int .i64) A0 c0 l0, Buf (Kd.int .i64) 3 A6 c7 r5, Buf k52 52 A13 c14 x6_12] e ds As) (k := k) ⟨_, _, none, 0, H, St.mk1 (aeq rfl (aeq rfl (aeq rfl (aeq rfl aeq0)))) ((Gh.nilBuf k52 52).trans (Gh.sel [1, 0, 2] rfl rfl))⟩ ?_
      clear H
      rintro k17 e ds As ⟨x6_12, x7_12, A13, c14, H, hst18⟩
      obtain _ | k17 := k17
      · cases H
      rw [F21.l0] at H
      refine SA.of_St hst18 fun junk => ?_
      refine SA_seq ?_
      refine SA_seq ?_
      refine SA_region ?_
      refine RA_step rfl (OA_v (v := .int .i64 x7_12) rfl (V_move rfl) ?_)
      refine RA_step rfl (OA_v (v := .slice A0 l0.length c0) rfl (V_move rfl) ?_)
      refine RA_step rfl (OA_v (v := .int .i64 (l0.length : Int)) rfl (V_len Try.underlying34 rfl) ?_)
      refine RA_step rfl (OA_v (v := .bool (decide (x7_12 < (l0.length : Int)))) rfl (V_lss rfl rfl) ?_)
      refine RA_nil ?_
      refine at_normal ?_
      by_cases h19 : x7_12 < (l0.length : Int)
      · replace H := g_ift h19 H
        refine SA_condT rfl h19 ?_
        refine SA_skip ?_
        refine at_normal ?_
        refine SA_seq ?_
        refine SA_block ?_
        refine SA_seq ?_
        refine SA_region ?_
        refine RA_step rfl (OA_v (v := .slice A0 l0.length c0) rfl (V_move rfl) ?_)
        refine RA_step rfl (OA_v (v := .int .i64 x7_12) rfl (V_move rfl) ?_)
        obtain ⟨⟨g20, g21⟩, H⟩ := g_pos H
        refine RA_step rfl (OA_r rfl (VR_index (i := x7_12) Try.underlying34 sz3 rfl rfl (Src.ro (k := 0) rfl) g20 g21) ?_)
        refine RA_step rfl (OA_r rfl (VR_load_el (enc := (fun x_ : Int => [Value.int .i64 x_])) (i := x7_12) (j := x7_12.toNat * 1) (m := 0) (sz := 1) Try.underlying3 rfl rfl rfl rfl (Src.ro (k := 0) rfl) g20 g21 (fun _ _ h => h) rfl) ?_)
        refine RA_step rfl (OA_v (v := .agg #[.int .u64 0, .int .i64 (rd l0 x7_12)]) rfl (V_build (cells := [.int .u64 0, .int .i64 (rd l0 x7_12)]) zero52 Try.underlying52 plc52 (by kernel_rfl)) ?_)
        refine RA_step rfl (OA_alloc rfl zero52 fun b22 => ?_)
        refine RA_step rfl (OA_st (b := b22) (m := 0) (k := 3) (vs := [.int .u64 0, .int .i64 (rd l0 x7_12)]) (cs' := [.int .u64 0, .int .i64 (rd l0 x7_12)]) rfl rfl rfl rfl rfl rfl sz52 rfl rfl ?_)
        refine RA_nil ?_
        refine at_normal ?_
        refine SA_seq ?_
        refine SA_seq ?_
        refine SA_region ?_
        refine RA_step rfl (OA_v (v := .slice A0 l0.length c0) rfl (V_move rfl) ?_)
        refine RA_step rfl (OA_v (v := .int .i64 x7_12) rfl (V_move rfl) ?_)
        obtain ⟨⟨g24, g25⟩, H⟩ := g_pos H
        refine RA_step rfl (OA_r rfl (VR_index (i := x7_12) Try.underlying34 sz3 rfl rfl (Src.ro (k := 0) rfl) g24 g25) ?_)
        refine RA_step rfl (OA_r rfl (VR_load_el (enc := (fun x_ : Int => [Value.int .i64 x_])) (i := x7_12) (j := x7_12.toNat * 1) (m := 0) (sz := 1) Try.underlying3 rfl rfl rfl rfl (Src.ro (k := 0) rfl) g24 g25 (fun _ _ h => h) rfl) ?_)
        refine RA_step rfl (OA_v (v := .bool (decide ((rd l0 x7_12) > 0))) rfl (V_gtr rfl rfl) ?_)
        refine RA_nil ?_
        refine at_normal ?_
        obtain ⟨t26, H, Bt26⟩ := g_bind H
        refine SA_mid (fun e ds As => ∃ (b27 : Nat), St [(0, .slice A0 l0.length c0), (5, .slice A6 r5.length c7), (6, .slice A13 x6_12.length c14), (7, .int .i64 x7_12), (8, .pointer (some ⟨b27, 0, none⟩))] [Blk b27 52 [.int .u64 t26.f0, .int .i64 t26.f1], Ro (Kd.int .i64) A0 c0 l0, Buf (Kd.int .i64) 3 A6 c7 r5, Buf k52 52 A13 c14 x6_12] e ds As) ?_ ?_
        · by_cases h28 : (rd l0 x7_12) > 0
          · replace H := g_ift h28 H
            refine SA_condT rfl h28 ?_
            refine SA_drawH (0 :: 1 :: 2 :: 3 :: 4 :: 5 :: 6 :: 7 :: 8 :: 9 :: 11 :: 12 :: 13 :: []) (List.toArray ([] :: [] :: [0, 1] :: [0, 1, 2] :: [0, 1, 2, 3] :: [] :: [] :: [5, 6] :: [5, 6, 7] :: [0, 1, 2, 3, 4, 5, 6, 7, 8] :: [0, 1, 2, 3, 4, 5, 6, 7, 8, 9] :: [0, 1, 2, 3, 4, 5, 6, 7, 8, 9] :: [0, 1, 2, 3, 4, 5, 6, 7, 8, 9, 11] :: [0, 1, 2, 3, 4, 5, 6, 7, 8, 9, 11] :: [0, 1, 2, 3, 4, 5, 6, 7, 8, 9, 11, 12] :: [])) [0, 1] [0, 2, 3] mixed rfl rfl rfl fun I0 hS h0 hh0 w0 sH dd => ?_
            refine DH_take (v := .slice A6 r5.length c7) 0 (by kernel_rfl) rfl rfl (.no rfl) (PanOk.thn (PanOk.thn (PanOk.inb (PanOk.thn (PanOk.thn (PanOk.inb (PanOk.thn (PanOk.thn PanOk.body)))))))) sH rfl (VR.ofV (V_move rfl)) ?_
            refine DH_take (v := .int .i64 x7_12) 1 (by kernel_rfl) rfl rfl (.no rfl) (PanOk.thn (PanOk.thn (PanOk.inb (PanOk.thn (PanOk.thn (PanOk.inb (PanOk.thn (PanOk.thn PanOk.body)))))))) sH rfl (VR.ofV (V_move rfl)) ?_
            obtain ⟨⟨g149, g150⟩, H⟩ := g_pos H
            refine DH_take 2 (by kernel_rfl) rfl rfl (.no rfl) (PanOk.thn (PanOk.thn (PanOk.inb (PanOk.thn (PanOk.thn (PanOk.inb (PanOk.thn (PanOk.thn PanOk.body)))))))) sH rfl (VR_index (i := x7_12) Try.underlying34 sz3 rfl rfl (Src.buf (k := 1) rfl) g149 g150) ?_
            refine DH_take 3 (by kernel_rfl) rfl rfl (.no rfl) (PanOk.thn (PanOk.thn (PanOk.inb (PanOk.thn (PanOk.thn (PanOk.inb (PanOk.thn (PanOk.thn PanOk.body)))))))) sH rfl (VR_load_el (enc := (fun x_ : Int => [Value.int .i64 x_])) (i := x7_12) (j := x7_12.toNat * 1) (m := 0) (sz := 1) Try.underlying3 rfl rfl rfl rfl (Src.buf (k := 1) rfl) g149 g150 (fun _ _ h => h) rfl) ?_
            refine DH_take (v := .int .u64 (IntKind.u64.wrap (rd r5 x7_12))) 4 (by kernel_rfl) rfl rfl (.no rfl) (PanOk.thn (PanOk.thn (PanOk.inb (PanOk.thn (PanOk.thn (PanOk.inb (PanOk.thn (PanOk.thn PanOk.body)))))))) sH rfl (VR.ofV (V_conv (T := 3) (by kernel_rfl) Try.underlying50 rfl)) ?_
            refine DH_take (v := .slice A0 l0.length c0) 5 (by kernel_rfl) rfl rfl (.no rfl) (PanOk.thn (PanOk.thn (PanOk.inb (PanOk.thn (PanOk.thn (PanOk.inb (PanOk.thn (PanOk.thn PanOk.body)))))))) sH rfl (VR.ofV (V_move rfl)) ?_
            refine DH_take (v := .int .i64 x7_12) 6 (by kernel_rfl) rfl rfl (.no rfl) (PanOk.thn (PanOk.thn (PanOk.inb (PanOk.thn (PanOk.thn (PanOk.inb (PanOk.thn (PanOk.thn PanOk.body)))))))) sH rfl (VR.ofV (V_move rfl)) ?_
            obtain ⟨⟨g449, g450⟩, H⟩ := g_pos H
            refine DH_take 7 (by kernel_rfl) rfl rfl (.no rfl) (PanOk.thn (PanOk.thn (PanOk.inb (PanOk.thn (PanOk.thn (PanOk.inb (PanOk.thn (PanOk.thn PanOk.body)))))))) sH rfl (VR_index (i := x7_12) Try.underlying34 sz3 rfl rfl (Src.ro (k := 0) rfl) g449 g450) ?_
            refine DH_take 8 (by kernel_rfl) rfl rfl (.no rfl) (PanOk.thn (PanOk.thn (PanOk.inb (PanOk.thn (PanOk.thn (PanOk.inb (PanOk.thn (PanOk.thn PanOk.body)))))))) sH rfl (VR_load_el (enc := (fun x_ : Int => [Value.int .i64 x_])) (i := x7_12) (j := x7_12.toNat * 1) (m := 0) (sz := 1) Try.underlying3 rfl rfl rfl rfl (Src.ro (k := 0) rfl) g449 g450 (fun _ _ h => h) rfl) ?_
            refine DH_take (v := .agg #[.int .u64 (IntKind.u64.wrap (rd r5 x7_12)), .int .i64 (rd l0 x7_12)]) 9 (by kernel_rfl) rfl rfl (.no rfl) (PanOk.thn (PanOk.thn (PanOk.inb (PanOk.thn (PanOk.thn (PanOk.inb (PanOk.thn (PanOk.thn PanOk.body)))))))) sH rfl (VR.ofV (V_build (cells := [.int .u64 (IntKind.u64.wrap (rd r5 x7_12)), .int .i64 (rd l0 x7_12)]) zero52 Try.underlying52 plc52 (by kernel_rfl))) ?_
            obtain ⟨r629, C630, H⟩ := g_bind H
            refine DH_one 10 dd (by kernel_rfl) rfl (.no rfl) (OA_callA [] [0, 1, 2] rfl (X_fn (vs := [.agg #[.int .u64 (IntKind.u64.wrap (rd r5 x7_12)), .int .i64 (rd l0 x7_12)]]) Try.func51 nm51 rfl rfl) rfl (F51.ok (a0 := (S52.mk (IntKind.u64.wrap (rd r5 x7_12)) (rd l0 x7_12))) C630) rfl ?_)
            rintro _ _ ⟨rfl, rfl⟩
            refine DH_take (v := .tuple #[.agg #[.int .u64 r629.1.f0, .int .i64 r629.1.f1], .int .i64 r629.2]) 11 (by kernel_rfl) rfl rfl (.no rfl) (PanOk.thn (PanOk.thn (PanOk.inb (PanOk.thn (PanOk.thn (PanOk.inb (PanOk.thn (PanOk.thn PanOk.body)))))))) sH rfl (VR.ofV (V_move rfl)) ?_
            refine DH_take (v := .agg #[.int .u64 r629.1.f0, .int .i64 r629.1.f1]) 12 (by kernel_rfl) rfl rfl (.no rfl) (PanOk.thn (PanOk.thn (PanOk.inb (PanOk.thn (PanOk.thn (PanOk.inb (PanOk.thn (PanOk.thn PanOk.body)))))))) sH rfl (VR.ofV (V_extract rfl rfl)) ?_
            refine DH_take (v := .int .i64 r629.2) 13 (by kernel_rfl) rfl rfl (.no rfl) (PanOk.thn (PanOk.thn (PanOk.inb (PanOk.thn (PanOk.thn (PanOk.inb (PanOk.thn (PanOk.thn PanOk.body)))))))) sH rfl (VR.ofV (V_extract rfl rfl)) ?_
            refine DH_one 14 dd (by kernel_rfl) rfl (.no rfl) (OA_st (b := b22) (m := 0) (k := 2) (vs := [.int .u64 r629.1.f0, .int .i64 r629.1.f1]) (cs' := [.int .u64 r629.1.f0, .int .i64 r629.1.f1]) rfl rfl rfl rfl rfl rfl sz52 rfl rfl ?_)
            refine DH_open dd sH ?_
            refine DN_done (by kernel_rfl) ?_
            have hr_ := Option.some.inj H
            subst hr_
            exact at_normal ⟨b22, St.mk1 (aeq rfl (aeq rfl (aeq rfl (aeq rfl (aeq rfl aeq0))))) (Gh.sel [4, 0, 1, 3] rfl rfl)⟩
          · replace H := g_iff h28 H
            refine SA_condF rfl h28 ?_
            refine SA_skip ?_
            have hr_ := Option.some.inj H
            subst hr_
            exact at_normal ⟨b22, St.mk1 (aeq rfl (aeq rfl (aeq rfl (aeq rfl (aeq rfl aeq0))))) (Gh.sel [3, 0, 1, 2] rfl rfl)⟩
        · rintro e ds As ⟨b27, hst930⟩
          clear H
          have H := Bt26
          clear Bt26
          refine at_normal ?_
          refine SA.of_St hst930 fun junk => ?_
          refine SA_region ?_
          refine RA_step rfl (OA_v (v := .slice A13 x6_12.length c14) rfl (V_move rfl) ?_)
          refine RA_step rfl (OA_r rfl (VR_loadA_blk (b := b27) (m := 0) (k := 0) (vs := [.int .u64 t26.f0, .int .i64 t26.f1]) Try.underlying52 rfl sz52 rfl rfl rfl) ?_)
          refine RA_step rfl (OA_bs (kd := k52) (zv := (.agg #[.int .u64 0, .int .i64 0])) (sz := 2) (cells := [.int .u64 t26.f0, .int .i64 t26.f1]) (xs := ([t26] : (List S52))) rfl Try.underlying35 zero52 sz52 rfl rfl rfl (by kernel_rfl) rfl rfl (RL_enc enc52 (fun _ _ => rfl) (by kernel_rfl)) fun b931 => ?_)
          obtain ⟨g934, H⟩ := g_pos H
          obtain ⟨n937, hn937, H⟩ := g_lt H
          refine RA_step rfl (OA_app (k := 3) (A := A13) (c := c14) (xs := x6_12) (ys := ([t26] : (List S52))) n937 hn937 rfl Try.underlying35 inf52 rfl rfl rfl rfl rfl (Yld.slice Try.underlying35 (Src.buf (k := 4) rfl)) (by omega) (by omega) fun A935 c936 => ?_)
          refine RA_step rfl (OA_v (v := .slice A935 n937.length c936) rfl (V_assign rfl) ?_)
          refine RA_nil ?_
          refine inb_normal ?_
          refine at_normal ?_
          refine SA_region ?_
          refine RA_step rfl (OA_v (v := .int .i64 x7_12) rfl (V_move rfl) ?_)
          refine RA_step rfl (OA_v (v := .int .i64 (IntKind.i64.wrap (x7_12 + 1))) rfl (V_add rfl rfl) ?_)
          obtain ⟨n938, hn938, H⟩ := g_lt H
          refine RA_step rfl (OA_v (v := .int .i64 n938) rfl (V_assign (v := .int .i64 n938) (congrArg (Value.int .i64) hn938.symm)) ?_)
          refine RA_nil ?_
          exact at_normal ⟨k17, Nat.lt_succ_self _, _, _, A935, c936, H, St.mk1 (aeq rfl (aeq rfl (aeq rfl (aeq rfl aeq0)))) (Gh.sel [1, 2, 3] rfl rfl)⟩
      · replace H := g_iff h19 H
        refine SA_condF rfl h19 ?_
        refine SA_exit ?_
        refine thn_exit ?_
        refine thn_exit ?_
        refine inb_hit ?_
        have hr_ := Option.some.inj H
        subst hr_
        exact at_normal ⟨A13, c14, St.mk1 (aeq rfl aeq0) (Gh.sel [2] rfl rfl)⟩
    · rintro e ds As ⟨A10, c11, hst939⟩
      clear H
      have H := Bt9
      clear Bt9
      refine at_normal ?_
      refine SA.of_St hst939 fun junk => ?_
      refine SA_seq ?_
      refine SA_region ?_
      refine RA_step rfl (OA_v (v := .slice A10 t9.length c11) rfl (V_move rfl) ?_)
      refine RA_step rfl (OA_v (v := .slice A10 t9.length c11) rfl (V_assign rfl) ?_)
      refine RA_step rfl (OA_v (v := .int .i64 0) rfl (V_assign rfl) ?_)
      refine RA_nil ?_
      refine at_normal ?_
      refine SA_ret ?_
      have hr_ := Option.some.inj H
      subst hr_
      exact BQ_R2 [Buf k52 52 A10 c11 t9] rfl rfl rfl (Gh.sel [0] rfl rfl) ⟨A10, c11, rfl, rfl⟩

/-! ### function 22: wayfarer/huff.Weight -/
def F22.f (k : Nat) (l0 : (List Int)) : Option (Int × Int) := (F52.f k l0 15).bind (fun r2 => if (!r2) = true then (some ((0, 2))) else (if (l0.length : Int) > 512 then (some ((0, 4))) else ((F53.f k l0).bind (fun r5 => some ((r5, 0))))))
set_option maxHeartbeats 2000000 in
set_option maxRecDepth 100000 in
theorem F22.ok {k : Nat} {l0 : (List Int)} {A0 : Option Addr} {c0 : Nat} {r : Int × Int} (H : F22.f k l0 = some r) : SCA Try.prog 22 #[.slice A0 l0.length c0] [Ro (Kd.int .i64) A0 c0 l0] (fun v B => v = .tuple #[.int .i64 r.1, .int .i64 r.2] ∧ B = []) := by
  refine SCA_of_body Try.func22 rfl rfl ?_
  unfold F22.f at H
  refine SA_seq ?_
  refine SA_region ?_
  refine RA_step rfl (OA_v (v := .int .i64 0) rfl (V_assign rfl) ?_)
  refine RA_step rfl (OA_v (v := .int .i64 0) rfl (V_assign rfl) ?_)
  refine RA_nil ?_
  refine at_normal ?_
  refine SA_seq ?_
  refine SA_block ?_
  refine SA_seq ?_
  refine SA_region ?_
  refine RA_step rfl (OA_v (v := .slice A0 l0.length c0) rfl (V_move rfl) ?_)
  obtain ⟨r2, C7, H⟩ := g_bind H
  refine RA_step rfl (OA_callA [0] [0] rfl (X_fn (vs := [.slice A0 l0.length c0, .int .i64 15]) Try.func52 nm52 rfl rfl) rfl (F52.ok (l0 := l0) (A0 := A0) (c0 := c0) (a1 := 15) C7) rfl ?_)
  rintro _ _ ⟨rfl, rfl⟩
  refine RA_step rfl (OA_v (v := .bool (!r2)) rfl (V_not rfl) ?_)
  refine RA_step rfl (OA_v (v := .bool (!r2)) rfl (V_assign rfl) ?_)
  refine RA_nil ?_
  refine at_normal ?_
  by_cases h3 : (!r2) = true
  · replace H := g_ift h3 H
    refine SA_condTb rfl h3 ?_
    refine SA_seq ?_
    refine SA_region ?_
    refine RA_step rfl (OA_v (v := .int .i64 0) rfl (V_assign rfl) ?_)
    refine RA_step rfl (OA_v (v := .int .i64 2) rfl (V_assign rfl) ?_)
    refine RA_nil ?_
    refine at_normal ?_
    refine SA_ret ?_
    refine inb_ret ?_
    refine thn_ret ?_
    have hr_ := Option.some.inj H
    subst hr_
    exact BQ_R2 [] rfl rfl rfl (Gh.sel [] rfl rfl) ⟨rfl, rfl⟩
  · replace H := g_iff h3 H
    refine SA_condFb rfl h3 ?_
    refine SA_seq ?_
    refine SA_region ?_
    refine RA_step rfl (OA_v (v := .slice A0 l0.length c0) rfl (V_move rfl) ?_)
    refine RA_step rfl (OA_v (v := .int .i64 (l0.length : Int)) rfl (V_len Try.underlying34 rfl) ?_)
    refine RA_step rfl (OA_v (v := .bool (decide ((l0.length : Int) > 512))) rfl (V_gtr rfl rfl) ?_)
    refine RA_step rfl (OA_v (v := .bool (decide ((l0.length : Int) > 512))) rfl (V_assign rfl) ?_)
    refine RA_nil ?_
    refine at_normal ?_
    by_cases h4 : (l0.length : Int) > 512
    · replace H := g_ift h4 H
      refine SA_condT rfl h4 ?_
      refine SA_seq ?_
      refine SA_region ?_
      refine RA_step rfl (OA_v (v := .int .i64 0) rfl (V_assign rfl) ?_)
      refine RA_step rfl (OA_v (v := .int .i64 4) rfl (V_assign rfl) ?_)
      refine RA_nil ?_
      refine at_normal ?_
      refine SA_ret ?_
      refine inb_ret ?_
      refine thn_ret ?_
      have hr_ := Option.some.inj H
      subst hr_
      exact BQ_R2 [] rfl rfl rfl (Gh.sel [] rfl rfl) ⟨rfl, rfl⟩
    · replace H := g_iff h4 H
      refine SA_condF rfl h4 ?_
      refine SA_skip ?_
      refine inb_normal ?_
      refine at_normal ?_
      refine SA_seq ?_
      refine SA_region ?_
      refine RA_step rfl (OA_v (v := .slice A0 l0.length c0) rfl (V_move rfl) ?_)
      obtain ⟨r5, C6, H⟩ := g_bind H
      refine RA_step rfl (OA_callA [0] [0] rfl (X_fn (vs := [.slice A0 l0.length c0]) Try.func53 nm53 rfl rfl) rfl (F53.ok (l0 := l0) (A0 := A0) (c0 := c0) C6) rfl ?_)
      rintro _ _ ⟨rfl, rfl⟩
      refine RA_step rfl (OA_v (v := .int .i64 r5) rfl (V_assign rfl) ?_)
      refine RA_step rfl (OA_v (v := .int .i64 0) rfl (V_assign rfl) ?_)
      refine RA_nil ?_
      refine at_normal ?_
      refine SA_ret ?_
      have hr_ := Option.some.inj H
      subst hr_
      exact BQ_R2 [] rfl rfl rfl (Gh.sel [] rfl rfl) ⟨rfl, rfl⟩

/-! ### function 54: wayfarer/huff.Tabled -/
def F54.l0 (r9 : (List S88)) : Nat → S136 → Int → Option (S136)
  | 0, _, _ => none
  | k + 1, x5_17, x22_17 => if x22_17 < (r9.length : Int) then (if 0 ≤ x22_17 ∧ x22_17 < (r9.length : Int) then (if ((rd r9 x22_17).f0) > 0 then (lt (mapPut x5_17.f0 (rd r9 x22_17) x22_17) fun n390 => (F54.l0 r9 k (S136.mk n390 x5_17.f1) (IntKind.i64.wrap (x22_17 + 1)))) else (F54.l0 r9 k x5_17 (IntKind.i64.wrap (x22_17 + 1)))) else none) else (some x5_17)
def F54.f (k : Nat) (l0 : (List Int)) : Option ((Option S136) × Int) := (F47.f k l0).bind (fun r2 => if r2 ≠ 0 then (some (((none : (Option S136)), r2))) else ((F53.f k l0).bind (fun r6 => (F48.f k l0).bind (fun r9 => (F54.l0 r9 k (S136.mk ([] : (List (S88 × Int))) (IntKind.u64.wrap (r6))) 0 : Option (S136)).bind (fun t13 => some (((some t13), 0)))))))
set_option maxHeartbeats 2000000 in
set_option maxRecDepth 100000 in
theorem F54.ok {k : Nat} {l0 : (List Int)} {A0 : Option Addr} {c0 : Nat} {r : (Option S136) × Int} (H : F54.f k l0 = some r) : SCA Try.prog 54 #[.slice A0 l0.length c0] [Ro (Kd.int .i64) A0 c0 l0] (fun v B => ∃ (A0_ : Option Addr) (c0_ : Nat), ∃ (A0_0_ : Option Addr) (c0_0_ : Nat), v = .tuple #[.pointer (ptrV r.1 c0_), .int .i64 r.2] ∧ B = ptrL r.1 (fun x_ => [Blk c0_ 136 [.map (some c0_0_), .int .u64 x_.f1], Mp ek88 (fun x_ : Int => Value.int .i64 x_) c0_0_ x_.f0]) ++ []) := by
  refine SCA_of_body Try.func54 rfl rfl ?_
  unfold F54.f at H
  refine SA_seq ?_
  refine SA_region ?_
  refine RA_step rfl (OA_v (v := .pointer none) rfl (V_assign rfl) ?_)
  refine RA_step rfl (OA_v (v := .int .i64 0) rfl (V_assign rfl) ?_)
  refine RA_nil ?_
  refine at_normal ?_
  refine SA_seq ?_
  refine SA_seq ?_
  refine SA_region ?_
  refine RA_step rfl (OA_v (v := .slice A0 l0.length c0) rfl (V_move rfl) ?_)
  obtain ⟨r2, C454, H⟩ := g_bind H
  refine RA_step rfl (OA_callA [0] [0] rfl (X_fn (vs := [.slice A0 l0.length c0]) Try.func47 nm47 rfl rfl) rfl (F47.ok (l0 := l0) (A0 := A0) (c0 := c0) C454) rfl ?_)
  rintro _ _ ⟨rfl, rfl⟩
  refine RA_step rfl (OA_v (v := .int .i64 r2) rfl (V_assign rfl) ?_)
  refine RA_nil ?_
  refine at_normal ?_
  refine SA_seq ?_
  refine SA_region ?_
  refine RA_step rfl (OA_v (v := .int .i64 r2) rfl (V_move rfl) ?_)
  refine RA_step rfl (OA_v (v := .bool (decide (r2 ≠ 0))) rfl (V_neq rfl rfl) ?_)
  refine RA_nil ?_
  refine at_normal ?_
  by_cases h3 : r2 ≠ 0
  · replace H := g_ift h3 H
    refine SA_condT rfl h3 ?_
    refine SA_seq ?_
    refine SA_region ?_
    refine RA_step rfl (OA_v (v := .int .i64 r2) rfl (V_move rfl) ?_)
    refine RA_step rfl (OA_v (v := .pointer none) rfl (V_assign rfl) ?_)
    refine RA_step rfl (OA_v (v := .int .i64 r2) rfl (V_assign rfl) ?_)
    refine RA_nil ?_
    refine at_normal ?_
    refine SA_ret ?_
    refine thn_ret ?_
    have hr_ := Option.some.inj H
    subst hr_
    exact BQ_R2 [] rfl rfl rfl (Gh.sel [] rfl rfl) ⟨none, 0, none, 0, rfl, rfl⟩
  · replace H := g_iff h3 H
    refine SA_condF rfl h3 ?_
    refine SA_skip ?_
    refine at_normal ?_
    refine SA_seq ?_
    refine SA_region ?_
    refine RA_step rfl (OA_makeMap ek88 (fun x_ : Int => Value.int .i64 x_) rfl fun b4 => ?_)
    refine RA_step rfl (OA_v (v := .slice A0 l0.length c0) rfl (V_move rfl) ?_)
    obtain ⟨r6, C453, H⟩ := g_bind H
    refine RA_step rfl (OA_callA [0] [0, 1] rfl (X_fn (vs := [.slice A0 l0.length c0]) Try.func53 nm53 rfl rfl) rfl (F53.ok (l0 := l0) (A0 := A0) (c0 := c0) C453) rfl ?_)
    rintro _ _ ⟨rfl, rfl⟩
    refine RA_step rfl (OA_v (v := .int .u64 (IntKind.u64.wrap (r6))) rfl (V_conv (T := 3) (by kernel_rfl) Try.underlying50 rfl) ?_)
    refine RA_step rfl (OA_v (v := .agg #[.map (some b4), .int .u64 (IntKind.u64.wrap (r6))]) rfl (V_build (cells := [.map (some b4), .int .u64 (IntKind.u64.wrap (r6))]) zero136 Try.underlying136 plc136 (by kernel_rfl)) ?_)
    refine RA_step rfl (OA_box rfl rfl fun b7 => ?_)
    refine RA_step rfl (OA_v (v := .pointer (some ⟨b7, 0, none⟩)) rfl (V_assign rfl) ?_)
    refine RA_nil ?_
    refine at_normal ?_
    refine SA_seq ?_
    refine SA_seq ?_
    refine SA_region ?_
    refine RA_step rfl (OA_v (v := .slice A0 l0.length c0) rfl (V_move rfl) ?_)
    obtain ⟨r9, C452, H⟩ := g_bind H
    refine RA_step rfl (OA_callA [0] [0, 1, 2] rfl (X_fn (vs := [.slice A0 l0.length c0]) Try.func48 nm48 rfl rfl) rfl (F48.ok (l0 := l0) (A0 := A0) (c0 := c0) C452) rfl ?_)
    rintro _ _ ⟨A10, c11, rfl, rfl⟩
    refine RA_step rfl (OA_v (v := .int .i64 (r9.length : Int)) rfl (V_len Try.underlying85 rfl) ?_)
    refine RA_step rfl (OA_v (v := .int .i64 0) rfl (V_move rfl) ?_)
    refine RA_nil ?_
    refine at_normal ?_
    obtain ⟨t13, H, Bt13⟩ := g_bind H
    refine SA_mid (fun e ds As => ∃ (b14 : Nat), ∃ (A15 : Option Addr) (c16 : Nat), St [(5, .pointer (some ⟨b14, 0, none⟩))] [Blk b14 136 [.map (some c16), .int .u64 t13.f1], Mp ek88 (fun x_ : Int => Value.int .i64 x_) c16 t13.f0] e ds As) ?_ ?_
    · refine SA_block ?_
      refine SA_loop (fun k_ e ds As => ∃ (x5_17 : S136) (x22_17 : Int), ∃ (b18 : Nat), ∃ (A19 : Option Addr) (c20 : Nat), F54.l0 r9 k_ x5_17 x22_17 = some t13 ∧ St [(5, .pointer (some ⟨b18, 0, none⟩)), (20, .slice A10 r9.length c11), (21, .int .i64 (r9.length : Int)), (22, .int .i64 x22_17)] [Blk b18 136 [.map (some c20), .int .u64 x5_17.f1], Mp ek88 (fun x_ : Int => Value.int .i64 x_) c20 x5_17.f0, Buf k88 88 A10 c11 r9] e ds As) (k := k) ⟨_, _, b7, none, b4, H, St.mk1 (aeq rfl (aeq rfl (aeq rfl (aeq rfl aeq0)))) (Gh.sel [3, 2, 0] rfl rfl)⟩ ?_
      clear H
      rintro k22 e ds As ⟨x5_17, x22_17, b18, A19, c20, H, hst23⟩
      obtain _ | k22 := k22
      · cases H
      rw [F54.l0] at H
      refine SA.of_St hst23 fun junk => ?_
      refine SA_seq ?_
      refine SA_region ?_
      refine RA_step rfl (OA_v (v := .bool (decide (x22_17 < (r9.length : Int)))) rfl (V_lss rfl rfl) ?_)
      refine RA_nil ?_
      refine at_normal ?_
      refine SA_seq ?_
      by_cases h24 : x22_17 < (r9.length : Int)
      · replace H := g_ift h24 H
        refine SA_condT rfl h24 ?_
        refine SA_skip ?_
        refine at_normal ?_
        refine SA_seq ?_
        refine SA_block ?_
        refine SA_seq ?_
        refine SA_region ?_
        refine RA_step rfl (OA_v (v := .int .i64 x22_17) rfl (V_move rfl) ?_)
        obtain ⟨⟨g25, g26⟩, H⟩ := g_pos H
        refine RA_step rfl (OA_r rfl (VR_index (i := x22_17) Try.underlying85 sz88 rfl rfl (Src.buf (k := 2) rfl) g25 g26) ?_)
        refine RA_step rfl (OA_r rfl (VR_loadA_el (enc := enc88) (i := x22_17) (j := x22_17.toNat * 2) (m := 0) (sz := 2) (vs := [.int .i64 ((rd r9 x22_17).f0), .int .u64 ((rd r9 x22_17).f1)]) Try.underlying88 rfl sz88 rfl rfl rfl (Src.buf (k := 2) rfl) g25 g26 (fun _ _ h => h) rfl) ?_)
        refine RA_step rfl (OA_alloc rfl zero88 fun b27 => ?_)
        refine RA_step rfl (OA_v (v := .int .i64 x22_17) rfl (V_assign rfl) ?_)
        refine RA_step rfl (OA_st (b := b27) (m := 0) (k := 3) (vs := [.int .i64 ((rd r9 x22_17).f0), .int .u64 ((rd r9 x22_17).f1)]) (cs' := [.int .i64 ((rd r9 x22_17).f0), .int .u64 ((rd r9 x22_17).f1)]) rfl rfl rfl rfl rfl rfl sz88 rfl rfl ?_)
        refine RA_nil ?_
        refine at_normal ?_
        refine SA_seq ?_
        refine SA_region ?_
        refine RA_step rfl (OA_v (v := .pointer (some ⟨b27, 0, none⟩)) rfl (V_fieldAddrN (B := ⟨b27, 0, none⟩) (m := 0) (o := 0) Try.underlying88 rfl nz3 rfl rfl) ?_)
        refine RA_step rfl (OA_r rfl (VR_load_blk (b := b27) (m := 0) (k := 3) Try.underlying3 rfl rfl rfl rfl) ?_)
        refine RA_step rfl (OA_v (v := .bool (decide (((rd r9 x22_17).f0) > 0))) rfl (V_gtr rfl rfl) ?_)
        refine RA_nil ?_
        refine at_normal ?_
        by_cases h29 : ((rd r9 x22_17).f0) > 0
        · replace H := g_ift h29 H
          refine SA_condT rfl h29 ?_
          refine SA_drawH [0, 1, 2, 3, 4, 5] #[[], [0], [0, 1], [0, 1, 2], [], [], [0, 1, 2, 3, 4, 5]] [0, 3] [1, 2] mixed rfl rfl rfl fun I0 hS h0 hh0 w0 sH dd => ?_
          refine DH_take (v := .pointer (some ⟨b18, 0, none⟩)) 0 (by kernel_rfl) rfl rfl (.no rfl) (PanOk.inb (PanOk.thn (PanOk.thn (PanOk.inb (PanOk.thn (PanOk.thn PanOk.body)))))) sH rfl (VR.ofV (V_move rfl)) ?_
          refine DH_take (v := .pointer (some ⟨b18, 0, none⟩)) 1 (by kernel_rfl) rfl rfl (.no rfl) (PanOk.inb (PanOk.thn (PanOk.thn (PanOk.inb (PanOk.thn (PanOk.thn PanOk.body)))))) sH rfl (VR.ofV (V_nilCheck rfl)) ?_
          refine DH_take (v := .pointer (some ⟨b18, 0, none⟩)) 2 (by kernel_rfl) rfl rfl (.no rfl) (PanOk.inb (PanOk.thn (PanOk.thn (PanOk.inb (PanOk.thn (PanOk.thn PanOk.body)))))) sH rfl (VR.ofV (V_fieldAddrN (B := ⟨b18, 0, none⟩) (m := 0) (o := 0) Try.underlying136 rfl nz134 rfl rfl)) ?_
          refine DH_take 3 (by kernel_rfl) rfl rfl (.no rfl) (PanOk.inb (PanOk.thn (PanOk.thn (PanOk.inb (PanOk.thn (PanOk.thn PanOk.body)))))) sH rfl (VR_load_blk (b := b18) (m := 0) (k := 0) Try.underlying134 rfl rfl rfl rfl) ?_
          refine DH_take 4 (by kernel_rfl) rfl rfl (.no rfl) (PanOk.inb (PanOk.thn (PanOk.thn (PanOk.inb (PanOk.thn (PanOk.thn PanOk.body)))))) sH rfl (VR_loadA_blk (b := b27) (m := 0) (k := 1) (vs := [.int .i64 ((rd r9 x22_17).f0), .int .u64 ((rd r9 x22_17).f1)]) Try.underlying88 rfl sz88 rfl rfl rfl) ?_
          refine DH_take (v := .int .i64 x22_17) 5 (by kernel_rfl) rfl rfl (.no rfl) (PanOk.inb (PanOk.thn (PanOk.thn (PanOk.inb (PanOk.thn (PanOk.thn PanOk.body)))))) sH rfl (VR.ofV (V_move rfl)) ?_
          obtain ⟨n390, hn390, H⟩ := g_lt H
          refine DH_one 6 dd (by kernel_rfl) rfl (.no rfl) (OA_mapPut (k := 0) (key := (rd r9 x22_17)) (v := x22_17) rfl Try.underlying134 ko88 rfl rfl rfl rfl ?_)
          rewrite [← hn390]
          refine DH_open dd sH ?_
          refine DN_done (by kernel_rfl) ?_
          refine inb_normal ?_
          refine at_normal ?_
          refine SA_region ?_
          refine RA_step rfl (OA_v (v := .int .i64 (IntKind.i64.wrap (x22_17 + 1))) rfl (V_add rfl rfl) ?_)
          refine RA_step rfl (OA_v (v := .int .i64 (IntKind.i64.wrap (x22_17 + 1))) rfl (V_move rfl) ?_)
          refine RA_nil ?_
          exact at_normal ⟨k22, Nat.lt_succ_self _, _, _, b18, A19, c20, H, St.mk1 (aeq rfl (aeq rfl (aeq rfl (aeq rfl aeq0)))) (Gh.sel [0, 2, 3] rfl rfl)⟩
        · replace H := g_iff h29 H
          refine SA_condF rfl h29 ?_
          refine SA_skip ?_
          refine inb_normal ?_
          refine at_normal ?_
          refine SA_region ?_
          refine RA_step rfl (OA_v (v := .int .i64 (IntKind.i64.wrap (x22_17 + 1))) rfl (V_add rfl rfl) ?_)
          refine RA_step rfl (OA_v (v := .int .i64 (IntKind.i64.wrap (x22_17 + 1))) rfl (V_move rfl) ?_)
          refine RA_nil ?_
          exact at_normal ⟨k22, Nat.lt_succ_self _, _, _, b18, A19, c20, H, St.mk1 (aeq rfl (aeq rfl (aeq rfl (aeq rfl aeq0)))) (Gh.sel [0, 1, 2] rfl rfl)⟩
      · replace H := g_iff h24 H
        refine SA_condF rfl h24 ?_
        refine SA_exit ?_
        refine thn_exit ?_
        refine thn_exit ?_
        refine inb_hit ?_
        have hr_ := Option.some.inj H
        subst hr_
        exact at_normal ⟨b18, A19, c20, St.mk1 (aeq rfl aeq0) (Gh.sel [0, 1] rfl rfl)⟩
    · rintro e ds As ⟨b14, A15, c16, hst451⟩
      clear H
      have H := Bt13
      clear Bt13
      refine at_normal ?_
      refine SA.of_St hst451 fun junk => ?_
      refine SA_seq ?_
      refine SA_region ?_
      refine RA_step rfl (OA_v (v := .pointer (some ⟨b14, 0, none⟩)) rfl (V_move rfl) ?_)
      refine RA_step rfl (OA_v (v := .pointer (some ⟨b14, 0, none⟩)) rfl (V_assign rfl) ?_)
      refine RA_step rfl (OA_v (v := .int .i64 0) rfl (V_assign rfl) ?_)
      refine RA_nil ?_
      refine at_normal ?_
      refine SA_ret ?_
      have hr_ := Option.some.inj H
      subst hr_
      exact BQ_R2 [Blk b14 136 [.map (some c16), .int .u64 t13.f1], Mp ek88 (fun x_ : Int => Value.int .i64 x_) c16 t13.f0] rfl rfl rfl (Gh.sel [0, 1] rfl rfl) ⟨none, b14, A15, c16, rfl, rfl⟩

/-! ### function 55: (*wayfarer/huff.Table).Symbol -/
def F55.l0 (p0 : S136) (l1 : (List Int)) (a2 : Int) : Nat → S88 → Option (Int × Int × Int)
  | 0, _ => none
  | k + 1, x9_5 => if 0 ≤ (IntKind.u64.wrap (IntKind.i64.wrap (15 - x9_5.f0))) then (if (shlI .u64 x9_5.f1 (IntKind.u64.wrap (IntKind.i64.wrap (15 - x9_5.f0)))) ≥ p0.f1 then (some ((0, 0, 8))) else (lt (IntKind.i64.wrap (a2 + x9_5.f0)) fun n731 => lt ((decide (a2 > (IntKind.i64.wrap (8 * (l1.length : Int))))) || (decide (n731 ≥ (IntKind.i64.wrap (8 * (l1.length : Int)))))) fun q732 => if q732 = true then (some ((0, 0, 7))) else (if 0 ≤ (IntKind.i64.wrap (n731.tdiv 8)) ∧ (IntKind.i64.wrap (n731.tdiv 8)) < (l1.length : Int) then (if 0 ≤ (IntKind.u64.wrap (n731.tmod 8)) then (lt (mapGet p0.f0 (S88.mk (IntKind.i64.wrap (x9_5.f0 + 1)) (orI .u64 (shlI .u64 x9_5.f1 1) (IntKind.u64.wrap (andI .u8 (shrI .u8 (rd l1 (IntKind.i64.wrap (n731.tdiv 8))) (IntKind.u64.wrap (n731.tmod 8))) 1))))) fun n2237 => (lt ((Option.getD n2237 0)) fun n2477 => if n2237.isSome = true then (lt (IntKind.i64.wrap (x9_5.f0 + 1)) fun n2839 => some ((n2477, n2839, 0))) else (F55.l0 p0 l1 a2 k (S88.mk (IntKind.i64.wrap (x9_5.f0 + 1)) (orI .u64 (shlI .u64 x9_5.f1 1) (IntKind.u64.wrap (andI .u8 (shrI .u8 (rd l1 (IntKind.i64.wrap (n731.tdiv 8))) (IntKind.u64.wrap (n731.tmod 8))) 1))))))) else none) else none))) else none
def F55.f (k : Nat) (p0 : S136) (l1 : (List Int)) (a2 : Int) : Option (Int × Int × Int) := F55.l0 p0 l1 a2 k (S88.mk 0 0)
set_option maxHeartbeats 2000000 in
set_option maxRecDepth 100000 in
theorem F55.ok {k : Nat} {p0 : S136} {l1 : (List Int)} {a2 : Int} {b0_ : Nat} {A0_0 : Option Addr} {c0_0 : Nat} {A1 : Option Addr} {c1 : Nat} {r : Int × Int × Int} (H : F55.f k p0 l1 a2 = some r) : SCA Try.prog 55 #[.pointer (some ⟨b0_, 0, none⟩), .slice A1 l1.length c1, .int .i64 a2] [Blk b0_ 136 [.map (some c0_0), .int .u64 p0.f1], Mp ek88 (fun x_ : Int => Value.int .i64 x_) c0_0 p0.f0, Ro (Kd.int .u8) A1 c1 l1] (fun v B => v = .tuple #[.int .i64 r.1, .int .i64 r.2.1, .int .i64 r.2.2] ∧ B = [Blk b0_ 136 [.map (some c0_0), .int .u64 p0.f1]]) := by
  refine SCA_of_body Try.func55 rfl rfl ?_
  unfold F55.f at H
  refine SA_seq ?_
  refine SA_region ?_
  refine RA_step rfl (OA_v (v := .int .i64 0) rfl (V_assign rfl) ?_)
  refine RA_step rfl (OA_v (v := .int .i64 0) rfl (V_assign rfl) ?_)
  refine RA_step rfl (OA_v (v := .int .i64 0) rfl (V_assign rfl) ?_)
  refine RA_nil ?_
  refine at_normal ?_
  refine SA_seq ?_
  refine SA_region ?_
  refine RA_step rfl (OA_alloc rfl zero88 fun b4 => ?_)
  refine RA_nil ?_
  refine at_normal ?_
  refine SA_block ?_
  refine SA_loop (fun k_ e ds As => ∃ (x9_5 : S88), ∃ (b6 : Nat), F55.l0 p0 l1 a2 k_ x9_5 = some r ∧ St [(0, .pointer (some ⟨b0_, 0, none⟩)), (1, .slice A1 l1.length c1), (2, .int .i64 a2), (9, .pointer (some ⟨b6, 0, none⟩))] [Blk b0_ 136 [.map (some c0_0), .int .u64 p0.f1], Mp ek88 (fun x_ : Int => Value.int .i64 x_) c0_0 p0.f0, Ro (Kd.int .u8) A1 c1 l1, Blk b6 88 [.int .i64 x9_5.f0, .int .u64 x9_5.f1]] e ds As) (k := k) ⟨_, b4, H, St.mk1 (aeq rfl (aeq rfl (aeq rfl (aeq rfl aeq0)))) (Gh.sel [0, 1, 2, 3] rfl rfl)⟩ ?_
  clear H
  rintro k7 e ds As ⟨x9_5, b6, H, hst8⟩
  obtain _ | k7 := k7
  · cases H
  rw [F55.l0] at H
  refine SA.of_St hst8 fun junk => ?_
  refine SA_block ?_
  refine SA_seq ?_
  refine SA_seq ?_
  refine SA_drawH [0, 1, 2, 3, 4, 5, 6, 7, 8, 9, 10, 11] #[[], [0], [], [2], [2, 3], [2, 3, 4], [0, 1, 2, 3, 4, 5], [], [7], [7, 8], [7, 8, 9], [0, 1, 2, 3, 4, 5, 6, 7, 8, 9, 10]] [0, 2, 3] [1, 2] mixed rfl rfl rfl fun I0 hS h0 hh0 w0 sH dd => ?_
  refine DH_take (v := .pointer (some ((⟨b6, 0, none⟩ : Addr).add 1))) 0 (by kernel_rfl) rfl rfl (.no rfl) (PanOk.thn (PanOk.thn (PanOk.inb (PanOk.thn (PanOk.inb PanOk.body))))) sH rfl (VR.ofV (V_fieldAddrN (B := ⟨b6, 0, none⟩) (m := 0) (o := 1) Try.underlying88 rfl nz50 rfl rfl)) ?_
  refine DH_take 1 (by kernel_rfl) rfl rfl (.no rfl) (PanOk.thn (PanOk.thn (PanOk.inb (PanOk.thn (PanOk.inb PanOk.body))))) sH rfl (VR_load_blk (b := b6) (m := 1) (k := 2) Try.underlying50 rfl rfl rfl rfl) ?_
  refine DH_take (v := .pointer (some ⟨b6, 0, none⟩)) 2 (by kernel_rfl) rfl rfl (.no rfl) (PanOk.thn (PanOk.thn (PanOk.inb (PanOk.thn (PanOk.inb PanOk.body))))) sH rfl (VR.ofV (V_fieldAddrN (B := ⟨b6, 0, none⟩) (m := 0) (o := 0) Try.underlying88 rfl nz3 rfl rfl)) ?_
  refine DH_take 3 (by kernel_rfl) rfl rfl (.no rfl) (PanOk.thn (PanOk.thn (PanOk.inb (PanOk.thn (PanOk.inb PanOk.body))))) sH rfl (VR_load_blk (b := b6) (m := 0) (k := 2) Try.underlying3 rfl rfl rfl rfl) ?_
  refine DH_take (v := .int .i64 (IntKind.i64.wrap (15 - x9_5.f0))) 4 (by kernel_rfl) rfl rfl (.no rfl) (PanOk.thn (PanOk.thn (PanOk.inb (PanOk.thn (PanOk.inb PanOk.body))))) sH rfl (VR.ofV (V_sub rfl rfl)) ?_
  refine DH_take (v := .int .u64 (IntKind.u64.wrap (IntKind.i64.wrap (15 - x9_5.f0)))) 5 (by kernel_rfl) rfl rfl (.no rfl) (PanOk.thn (PanOk.thn (PanOk.inb (PanOk.thn (PanOk.inb PanOk.body))))) sH rfl (VR.ofV (V_conv (T := 3) (by kernel_rfl) Try.underlying53 rfl)) ?_
  obtain ⟨g369, H⟩ := g_pos H
  refine DH_take (v := .int .u64 (shlI .u64 x9_5.f1 (IntKind.u64.wrap (IntKind.i64.wrap (15 - x9_5.f0))))) 6 (by kernel_rfl) rfl rfl (.no rfl) (PanOk.thn (PanOk.thn (PanOk.inb (PanOk.thn (PanOk.inb PanOk.body))))) sH rfl (VR.ofV (V_shl rfl rfl g369)) ?_
  refine DH_take (v := .pointer (some ⟨b0_, 0, none⟩)) 7 (by kernel_rfl) rfl rfl (.no rfl) (PanOk.thn (PanOk.thn (PanOk.inb (PanOk.thn (PanOk.inb PanOk.body))))) sH rfl (VR.ofV (V_move rfl)) ?_
  refine DH_take (v := .pointer (some ⟨b0_, 0, none⟩)) 8 (by kernel_rfl) rfl rfl (.no rfl) (PanOk.thn (PanOk.thn (PanOk.inb (PanOk.thn (PanOk.inb PanOk.body))))) sH rfl (VR.ofV (V_nilCheck rfl)) ?_
  refine DH_take (v := .pointer (some ((⟨b0_, 0, none⟩ : Addr).add 1))) 9 (by kernel_rfl) rfl rfl (.no rfl) (PanOk.thn (PanOk.thn (PanOk.inb (PanOk.thn (PanOk.inb PanOk.body))))) sH rfl (VR.ofV (V_fieldAddrN (B := ⟨b0_, 0, none⟩) (m := 0) (o := 1) Try.underlying136 rfl nz50 rfl rfl)) ?_
  refine DH_take 10 (by kernel_rfl) rfl rfl (.no rfl) (PanOk.thn (PanOk.thn (PanOk.inb (PanOk.thn (PanOk.inb PanOk.body))))) sH rfl (VR_load_blk (b := b0_) (m := 1) (k := 0) Try.underlying50 rfl rfl rfl rfl) ?_
  refine DH_take (v := .bool (decide ((shlI .u64 x9_5.f1 (IntKind.u64.wrap (IntKind.i64.wrap (15 - x9_5.f0)))) ≥ p0.f1))) 11 (by kernel_rfl) rfl rfl (.no rfl) (PanOk.thn (PanOk.thn (PanOk.inb (PanOk.thn (PanOk.inb PanOk.body))))) sH rfl (VR.ofV (V_geq rfl rfl)) ?_
  refine DH_open dd sH ?_
  refine DN_done (by kernel_rfl) ?_
  refine at_normal ?_
  by_cases h730 : (shlI .u64 x9_5.f1 (IntKind.u64.wrap (IntKind.i64.wrap (15 - x9_5.f0)))) ≥ p0.f1
  · replace H := g_ift h730 H
    refine SA_condT rfl h730 ?_
    refine SA_seq ?_
    refine SA_region ?_
    refine RA_step rfl (OA_v (v := .int .i64 0) rfl (V_assign rfl) ?_)
    refine RA_step rfl (OA_v (v := .int .i64 0) rfl (V_assign rfl) ?_)
    refine RA_step rfl (OA_v (v := .int .i64 8) rfl (V_assign rfl) ?_)
    refine RA_nil ?_
    refine at_normal ?_
    refine SA_ret ?_
    refine thn_ret ?_
    refine inb_ret ?_
    refine thn_ret ?_
    refine inb_ret ?_
    have hr_ := Option.some.inj H
    subst hr_
    exact BQ_R3 [Blk b0_ 136 [.map (some c0_0), .int .u64 p0.f1]] rfl rfl rfl rfl (Gh.sel [0] rfl rfl) ⟨rfl, rfl⟩
  · replace H := g_iff h730 H
    refine SA_condF rfl h730 ?_
    refine SA_skip ?_
    refine at_normal ?_
    refine SA_seq ?_
    refine SA_region ?_
    refine RA_step rfl (OA_v (v := .int .i64 a2) rfl (V_move rfl) ?_)
    refine RA_step rfl (OA_v (v := .pointer (some ⟨b6, 0, none⟩)) rfl (V_fieldAddrN (B := ⟨b6, 0, none⟩) (m := 0) (o := 0) Try.underlying88 rfl nz3 rfl rfl) ?_)
    refine RA_step rfl (OA_r rfl (VR_load_blk (b := b6) (m := 0) (k := 2) Try.underlying3 rfl rfl rfl rfl) ?_)
    refine RA_step rfl (OA_v (v := .int .i64 (IntKind.i64.wrap (a2 + x9_5.f0))) rfl (V_add rfl rfl) ?_)
    obtain ⟨n731, hn731, H⟩ := g_lt H
    refine RA_step rfl (OA_v (v := .int .i64 n731) rfl (V_assign (v := .int .i64 n731) (congrArg (Value.int .i64) hn731.symm)) ?_)
    refine RA_nil ?_
    refine at_normal ?_
    refine SA_seq ?_
    refine SA_seq ?_
    refine SA_region ?_
    refine RA_step rfl (OA_v (v := .int .i64 a2) rfl (V_move rfl) ?_)
    refine RA_step rfl (OA_v (v := .slice A1 l1.length c1) rfl (V_move rfl) ?_)
    refine RA_step rfl (OA_v (v := .int .i64 (l1.length : Int)) rfl (V_len Try.underlying23 rfl) ?_)
    refine RA_step rfl (OA_v (v := .int .i64 (IntKind.i64.wrap (8 * (l1.length : Int)))) rfl (V_mul rfl rfl) ?_)
    refine RA_step rfl (OA_v (v := .bool (decide (a2 > (IntKind.i64.wrap (8 * (l1.length : Int)))))) rfl (V_gtr rfl rfl) ?_)
    refine RA_step rfl (OA_v (v := .bool (decide (a2 > (IntKind.i64.wrap (8 * (l1.length : Int)))))) rfl (V_move rfl) ?_)
    obtain ⟨q732, hq732, H⟩ := g_lt H
    refine RA_cut 6 (fun e ds As => St [(0, .pointer (some ⟨b0_, 0, none⟩)), (1, .slice A1 l1.length c1), (2, .int .i64 a2), (9, .pointer (some ⟨b6, 0, none⟩)), (10, .int .i64 n731), (40, .bool q732)] [Blk b0_ 136 [.map (some c0_0), .int .u64 p0.f1], Mp ek88 (fun x_ : Int => Value.int .i64 x_) c0_0 p0.f0, Ro (Kd.int .u8) A1 c1 l1, Blk b6 88 [.int .i64 x9_5.f0, .int .u64 x9_5.f1]] e ds As) ?_ ?_
    · by_cases h733 : a2 > (IntKind.i64.wrap (8 * (l1.length : Int)))
      · refine RA_noB rfl rfl rfl rfl (dec_t h733) rfl ?_
        refine RA_noB rfl rfl rfl rfl (dec_t h733) rfl ?_
        refine RA_noB rfl rfl rfl rfl (dec_t h733) rfl ?_
        refine RA_noB rfl rfl rfl rfl (dec_t h733) rfl ?_
        refine RA_noB rfl rfl rfl rfl (dec_t h733) rfl ?_
        refine RA_step rfl (OA_v rfl (V_pickT rfl (dec_t h733) rfl) ?_)
        refine RA_nil ?_
        exact at_normal (St.mk1 (aeq rfl (aeq rfl (aeq rfl (aeq rfl (aeq rfl (aeq (congrArg Value.bool (or_t hq732 (dec_t h733))) aeq0)))))) (Gh.sel [0, 3, 1, 2] rfl rfl))
      · refine RA_yesB rfl rfl rfl rfl (dec_f h733) (OA_v (v := .int .i64 n731) rfl (V_move rfl) ?_)
        refine RA_yesB rfl rfl rfl rfl (dec_f h733) (OA_v (v := .slice A1 l1.length c1) rfl (V_move rfl) ?_)
        refine RA_yesB rfl rfl rfl rfl (dec_f h733) (OA_v (v := .int .i64 (l1.length : Int)) rfl (V_len Try.underlying23 rfl) ?_)
        refine RA_yesB rfl rfl rfl rfl (dec_f h733) (OA_v (v := .int .i64 (IntKind.i64.wrap (8 * (l1.length : Int)))) rfl (V_mul rfl rfl) ?_)
        refine RA_yesB rfl rfl rfl rfl (dec_f h733) (OA_v (v := .bool (decide (n731 ≥ (IntKind.i64.wrap (8 * (l1.length : Int)))))) rfl (V_geq rfl rfl) ?_)
        refine RA_step rfl (OA_v rfl (V_pickF rfl (dec_f h733) rfl) ?_)
        refine RA_nil ?_
        exact at_normal (St.mk1 (aeq rfl (aeq rfl (aeq rfl (aeq rfl (aeq rfl (aeq (congrArg Value.bool (or_f hq732 (dec_f h733))) aeq0)))))) (Gh.sel [0, 3, 1, 2] rfl rfl))
    · rintro e ds As hst734
      refine RA_nil ?_
      refine at_normal ?_
      refine SA.of_St hst734 fun junk => ?_
      by_cases h735 : q732 = true
      · replace H := g_ift h735 H
        refine SA_condTb rfl h735 ?_
        refine SA_seq ?_
        refine SA_region ?_
        refine RA_step rfl (OA_v (v := .int .i64 0) rfl (V_assign rfl) ?_)
        refine RA_step rfl (OA_v (v := .int .i64 0) rfl (V_assign rfl) ?_)
        refine RA_step rfl (OA_v (v := .int .i64 7) rfl (V_assign rfl) ?_)
        refine RA_nil ?_
        refine at_normal ?_
        refine SA_ret ?_
        refine thn_ret ?_
        refine inb_ret ?_
        refine thn_ret ?_
        refine inb_ret ?_
        have hr_ := Option.some.inj H
        subst hr_
        exact BQ_R3 [Blk b0_ 136 [.map (some c0_0), .int .u64 p0.f1]] rfl rfl rfl rfl (Gh.sel [0] rfl rfl) ⟨rfl, rfl⟩
      · replace H := g_iff h735 H
        refine SA_condFb rfl h735 ?_
        refine SA_skip ?_
        refine at_normal ?_
        refine SA_seq ?_
        refine SA_drawH (0 :: 1 :: 2 :: 3 :: 4 :: 5 :: 6 :: 7 :: 8 :: 9 :: 10 :: 11 :: 12 :: 13 :: 14 :: 15 :: 16 :: 17 :: 18 :: []) (List.toArray ([] :: [0] :: [0, 1] :: [] :: [3] :: [3, 4] :: [] :: [] :: [7] :: [6, 7, 8] :: [6, 7, 8, 9] :: [] :: [11] :: [11, 12] :: [6, 7, 8, 9, 10, 11, 12, 13] :: [6, 7, 8, 9, 10, 11, 12, 13, 14] :: [6, 7, 8, 9, 10, 11, 12, 13, 14, 15] :: (3 :: 4 :: 5 :: 6 :: 7 :: 8 :: 9 :: 10 :: 11 :: 12 :: 13 :: 14 :: 15 :: 16 :: []) :: (0 :: 1 :: 2 :: 3 :: 4 :: 5 :: 6 :: 7 :: 8 :: 9 :: 10 :: 11 :: 12 :: 13 :: 14 :: 15 :: 16 :: 17 :: []) :: (0 :: 1 :: 2 :: 3 :: 4 :: 5 :: 6 :: 7 :: 8 :: 9 :: 10 :: 11 :: 12 :: 13 :: 14 :: 15 :: 16 :: 17 :: 18 :: []) :: [])) [2, 3] [0, 1, 2] mixed rfl rfl rfl fun I0 hS h0 hh0 w0 sH dd => ?_
        refine DH_take (v := .pointer (some ⟨b6, 0, none⟩)) 0 (by kernel_rfl) rfl rfl (.no rfl) (PanOk.thn (PanOk.inb (PanOk.thn (PanOk.inb PanOk.body)))) sH rfl (VR.ofV (V_fieldAddrN (B := ⟨b6, 0, none⟩) (m := 0) (o := 0) Try.underlying88 rfl nz3 rfl rfl)) ?_
        refine DH_take 1 (by kernel_rfl) rfl rfl (.no rfl) (PanOk.thn (PanOk.inb (PanOk.thn (PanOk.inb PanOk.body)))) sH rfl (VR_load_blk (b := b6) (m := 0) (k := 1) Try.underlying3 rfl rfl rfl rfl) ?_
        refine DH_take (v := .int .i64 (IntKind.i64.wrap (x9_5.f0 + 1))) 2 (by kernel_rfl) rfl rfl (.no rfl) (PanOk.thn (PanOk.inb (PanOk.thn (PanOk.inb PanOk.body)))) sH rfl (VR.ofV (V_add rfl rfl)) ?_
        refine DH_take (v := .pointer (some ((⟨b6, 0, none⟩ : Addr).add 1))) 3 (by kernel_rfl) rfl rfl (.no rfl) (PanOk.thn (PanOk.inb (PanOk.thn (PanOk.inb PanOk.body)))) sH rfl (VR.ofV (V_fieldAddrN (B := ⟨b6, 0, none⟩) (m := 0) (o := 1) Try.underlying88 rfl nz50 rfl rfl)) ?_
        refine DH_take 4 (by kernel_rfl) rfl rfl (.no rfl) (PanOk.thn (PanOk.inb (PanOk.thn (PanOk.inb PanOk.body)))) sH rfl (VR_load_blk (b := b6) (m := 1) (k := 1) Try.underlying50 rfl rfl rfl rfl) ?_
        refine DH_take (v := .int .u64 (shlI .u64 x9_5.f1 1)) 5 (by kernel_rfl) rfl rfl (.no rfl) (PanOk.thn (PanOk.inb (PanOk.thn (PanOk.inb PanOk.body)))) sH rfl (VR.ofV (V_shl rfl rfl (by decide))) ?_
        refine DH_take (v := .slice A1 l1.length c1) 6 (by kernel_rfl) rfl rfl (.no rfl) (PanOk.thn (PanOk.inb (PanOk.thn (PanOk.inb PanOk.body)))) sH rfl (VR.ofV (V_move rfl)) ?_
        refine DH_take (v := .int .i64 n731) 7 (by kernel_rfl) rfl rfl (.no rfl) (PanOk.thn (PanOk.inb (PanOk.thn (PanOk.inb PanOk.body)))) sH rfl (VR.ofV (V_move rfl)) ?_
        refine DH_take (v := .int .i64 (IntKind.i64.wrap (n731.tdiv 8))) 8 (by kernel_rfl) rfl rfl (.no rfl) (PanOk.thn (PanOk.inb (PanOk.thn (PanOk.inb PanOk.body)))) sH rfl (VR.ofV (V_quo rfl rfl (by decide))) ?_
        obtain ⟨⟨g1276, g1277⟩, H⟩ := g_pos H
        refine DH_take 9 (by kernel_rfl) rfl rfl (.no rfl) (PanOk.thn (PanOk.inb (PanOk.thn (PanOk.inb PanOk.body)))) sH rfl (VR_index (i := IntKind.i64.wrap (n731.tdiv 8)) Try.underlying23 sz5 rfl rfl (Src.ro (k := 0) rfl) g1276 g1277) ?_
        refine DH_take 10 (by kernel_rfl) rfl rfl (.no rfl) (PanOk.thn (PanOk.inb (PanOk.thn (PanOk.inb PanOk.body)))) sH rfl (VR_load_el (enc := (fun x_ : Int => [Value.int .u8 x_])) (i := IntKind.i64.wrap (n731.tdiv 8)) (j := (IntKind.i64.wrap (n731.tdiv 8)).toNat * 1) (m := 0) (sz := 1) Try.underlying5 rfl rfl rfl rfl (Src.ro (k := 0) rfl) g1276 g1277 (fun _ _ h => h) rfl) ?_
        refine DH_take (v := .int .i64 n731) 11 (by kernel_rfl) rfl rfl (.no rfl) (PanOk.thn (PanOk.inb (PanOk.thn (PanOk.inb PanOk.body)))) sH rfl (VR.ofV (V_move rfl)) ?_
        refine DH_take (v := .int .i64 (n731.tmod 8)) 12 (by kernel_rfl) rfl rfl (.no rfl) (PanOk.thn (PanOk.inb (PanOk.thn (PanOk.inb PanOk.body)))) sH rfl (VR.ofV (V_rem rfl rfl (by decide))) ?_
        refine DH_take (v := .int .u64 (IntKind.u64.wrap (n731.tmod 8))) 13 (by kernel_rfl) rfl rfl (.no rfl) (PanOk.thn (PanOk.inb (PanOk.thn (PanOk.inb PanOk.body)))) sH rfl (VR.ofV (V_conv (T := 3) (by kernel_rfl) Try.underlying53 rfl)) ?_
        obtain ⟨g1576, H⟩ := g_pos H
        refine DH_take (v := .int .u8 (shrI .u8 (rd l1 (IntKind.i64.wrap (n731.tdiv 8))) (IntKind.u64.wrap (n731.tmod 8)))) 14 (by kernel_rfl) rfl rfl (.no rfl) (PanOk.thn (PanOk.inb (PanOk.thn (PanOk.inb PanOk.body)))) sH rfl (VR.ofV (V_shr rfl rfl g1576)) ?_
        refine DH_take (v := .int .u8 (andI .u8 (shrI .u8 (rd l1 (IntKind.i64.wrap (n731.tdiv 8))) (IntKind.u64.wrap (n731.tmod 8))) 1)) 15 (by kernel_rfl) rfl rfl (.no rfl) (PanOk.thn (PanOk.inb (PanOk.thn (PanOk.inb PanOk.body)))) sH rfl (VR.ofV (V_and rfl rfl)) ?_
        refine DH_take (v := .int .u64 (IntKind.u64.wrap (andI .u8 (shrI .u8 (rd l1 (IntKind.i64.wrap (n731.tdiv 8))) (IntKind.u64.wrap (n731.tmod 8))) 1))) 16 (by kernel_rfl) rfl rfl (.no rfl) (PanOk.thn (PanOk.inb (PanOk.thn (PanOk.inb PanOk.body)))) sH rfl (VR.ofV (V_conv (T := 5) (by kernel_rfl) Try.underlying50 rfl)) ?_
        refine DH_take (v := .int .u64 (orI .u64 (shlI .u64 x9_5.f1 1) (IntKind.u64.wrap (andI .u8 (shrI .u8 (rd l1 (IntKind.i64.wrap (n731.tdiv 8))) (IntKind.u64.wrap (n731.tmod 8))) 1)))) 17 (by kernel_rfl) rfl rfl (.no rfl) (PanOk.thn (PanOk.inb (PanOk.thn (PanOk.inb PanOk.body)))) sH rfl (VR.ofV (V_or rfl rfl)) ?_
        refine DH_take (v := .agg #[.int .i64 (IntKind.i64.wrap (x9_5.f0 + 1)), .int .u64 (orI .u64 (shlI .u64 x9_5.f1 1) (IntKind.u64.wrap (andI .u8 (shrI .u8 (rd l1 (IntKind.i64.wrap (n731.tdiv 8))) (IntKind.u64.wrap (n731.tmod 8))) 1)))]) 18 (by kernel_rfl) rfl rfl (.no rfl) (PanOk.thn (PanOk.inb (PanOk.thn (PanOk.inb PanOk.body)))) sH rfl (VR.ofV (V_build (cells := [.int .i64 (IntKind.i64.wrap (x9_5.f0 + 1)), .int .u64 (orI .u64 (shlI .u64 x9_5.f1 1) (IntKind.u64.wrap (andI .u8 (shrI .u8 (rd l1 (IntKind.i64.wrap (n731.tdiv 8))) (IntKind.u64.wrap (n731.tmod 8))) 1)))]) zero88 Try.underlying88 plc88 (by kernel_rfl))) ?_
        refine DH_open dd sH ?_
        refine DN_one 19 (by kernel_rfl) rfl rfl (.no rfl) (OA_st (b := b6) (m := 0) (k := 1) (vs := [.int .i64 (IntKind.i64.wrap (x9_5.f0 + 1)), .int .u64 (orI .u64 (shlI .u64 x9_5.f1 1) (IntKind.u64.wrap (andI .u8 (shrI .u8 (rd l1 (IntKind.i64.wrap (n731.tdiv 8))) (IntKind.u64.wrap (n731.tmod 8))) 1)))]) (cs' := [.int .i64 (IntKind.i64.wrap (x9_5.f0 + 1)), .int .u64 (orI .u64 (shlI .u64 x9_5.f1 1) (IntKind.u64.wrap (andI .u8 (shrI .u8 (rd l1 (IntKind.i64.wrap (n731.tdiv 8))) (IntKind.u64.wrap (n731.tmod 8))) 1)))]) rfl rfl rfl rfl rfl rfl sz88 rfl rfl ?_)
        refine DN_done (by kernel_rfl) ?_
        refine at_normal ?_
        refine SA_seq ?_
        refine SA_drawH [0, 1, 2, 3, 4, 5, 6, 7, 8, 9, 10] #[[], [0], [0, 1], [0, 1, 2], [], [0, 1, 2, 3, 4], [0, 1, 2, 3, 4, 5], [0, 1, 2, 3, 4, 5, 6], [0, 1, 2, 3, 4, 5, 6], [0, 1, 2, 3, 4, 5, 6, 7], [0, 1, 2, 3, 4, 5, 6, 7, 8, 9]] [0, 1, 2, 3, 0] [0, 0] mixed rfl rfl rfl fun I0 hS h0 hh0 w0 sH dd => ?_
        refine DH_take (v := .pointer (some ⟨b0_, 0, none⟩)) 0 (by kernel_rfl) rfl rfl (.no rfl) (PanOk.thn (PanOk.inb (PanOk.thn (PanOk.inb PanOk.body)))) sH rfl (VR.ofV (V_move rfl)) ?_
        refine DH_take (v := .pointer (some ⟨b0_, 0, none⟩)) 1 (by kernel_rfl) rfl rfl (.no rfl) (PanOk.thn (PanOk.inb (PanOk.thn (PanOk.inb PanOk.body)))) sH rfl (VR.ofV (V_nilCheck rfl)) ?_
        refine DH_take (v := .pointer (some ⟨b0_, 0, none⟩)) 2 (by kernel_rfl) rfl rfl (.no rfl) (PanOk.thn (PanOk.inb (PanOk.thn (PanOk.inb PanOk.body)))) sH rfl (VR.ofV (V_fieldAddrN (B := ⟨b0_, 0, none⟩) (m := 0) (o := 0) Try.underlying136 rfl nz134 rfl rfl)) ?_
        refine DH_take 3 (by kernel_rfl) rfl rfl (.no rfl) (PanOk.thn (PanOk.inb (PanOk.thn (PanOk.inb PanOk.body)))) sH rfl (VR_load_blk (b := b0_) (m := 0) (k := 2) Try.underlying134 rfl rfl rfl rfl) ?_
        refine DH_take 4 (by kernel_rfl) rfl rfl (.no rfl) (PanOk.thn (PanOk.inb (PanOk.thn (PanOk.inb PanOk.body)))) sH rfl (VR_loadA_blk (b := b6) (m := 0) (k := 1) (vs := [.int .i64 (IntKind.i64.wrap (x9_5.f0 + 1)), .int .u64 (orI .u64 (shlI .u64 x9_5.f1 1) (IntKind.u64.wrap (andI .u8 (shrI .u8 (rd l1 (IntKind.i64.wrap (n731.tdiv 8))) (IntKind.u64.wrap (n731.tmod 8))) 1)))]) Try.underlying88 rfl sz88 rfl rfl rfl) ?_
        obtain ⟨n2237, hn2237, H⟩ := g_lt H
        refine DH_take 5 (by kernel_rfl) rfl rfl (.no rfl) (PanOk.thn (PanOk.inb (PanOk.thn (PanOk.inb PanOk.body)))) sH rfl (VR_lookup (k := 3) (key := (S88.mk (IntKind.i64.wrap (x9_5.f0 + 1)) (orI .u64 (shlI .u64 x9_5.f1 1) (IntKind.u64.wrap (andI .u8 (shrI .u8 (rd l1 (IntKind.i64.wrap (n731.tdiv 8))) (IntKind.u64.wrap (n731.tmod 8))) 1))))) (z0 := 0) Try.underlying134 zero3 ko88 rfl rfl rfl) ?_
        rewrite [← hn2237]
        refine DH_take (v := .tuple #[.int .i64 (Option.getD n2237 0), .bool n2237.isSome]) 6 (by kernel_rfl) rfl rfl (.no rfl) (PanOk.thn (PanOk.inb (PanOk.thn (PanOk.inb PanOk.body)))) sH rfl (VR.ofV (V_move rfl)) ?_
        refine DH_take (v := .int .i64 (Option.getD n2237 0)) 7 (by kernel_rfl) rfl rfl (.no rfl) (PanOk.thn (PanOk.inb (PanOk.thn (PanOk.inb PanOk.body)))) sH rfl (VR.ofV (V_extract rfl rfl)) ?_
        refine DH_take (v := .bool n2237.isSome) 8 (by kernel_rfl) rfl rfl (.no rfl) (PanOk.thn (PanOk.inb (PanOk.thn (PanOk.inb PanOk.body)))) sH rfl (VR.ofV (V_extract rfl rfl)) ?_
        obtain ⟨n2477, hn2477, H⟩ := g_lt H
        refine DH_take (v := .int .i64 n2477) 9 (by kernel_rfl) rfl rfl (.no rfl) (PanOk.thn (PanOk.inb (PanOk.thn (PanOk.inb PanOk.body)))) sH rfl (VR.ofV (V_assign (v := .int .i64 n2477) (congrArg (Value.int .i64) hn2477.symm))) ?_
        refine DH_take (v := .bool n2237.isSome) 10 (by kernel_rfl) rfl rfl (.no rfl) (PanOk.thn (PanOk.inb (PanOk.thn (PanOk.inb PanOk.body)))) sH rfl (VR.ofV (V_assign rfl)) ?_
        refine DH_open dd sH ?_
        refine DN_done (by kernel_rfl) ?_
        refine at_normal ?_
        refine SA.of_St (l := [(0, .pointer (some ⟨b0_, 0, none⟩)), (1, .slice A1 l1.length c1), (2, .int .i64 a2), (9, .pointer (some ⟨b6, 0, none⟩)), (11, .int .i64 n2477), (12, .bool n2237.isSome)]) (B := [Blk b0_ 136 [.map (some c0_0), .int .u64 p0.f1], Mp ek88 (fun x_ : Int => Value.int .i64 x_) c0_0 p0.f0, Ro (Kd.int .u8) A1 c1 l1, Blk b6 88 [.int .i64 (IntKind.i64.wrap (x9_5.f0 + 1)), .int .u64 (orI .u64 (shlI .u64 x9_5.f1 1) (IntKind.u64.wrap (andI .u8 (shrI .u8 (rd l1 (IntKind.i64.wrap (n731.tdiv 8))) (IntKind.u64.wrap (n731.tmod 8))) 1)))]]) (St.mk1 (aeq rfl (aeq rfl (aeq rfl (aeq rfl (aeq rfl (aeq rfl aeq0)))))) (Gh.sel [2, 3, 0, 1] rfl rfl)) fun junk => ?_
        refine SA_seq ?_
        refine SA_region ?_
        refine RA_step rfl (OA_v (v := .bool n2237.isSome) rfl (V_move rfl) ?_)
        refine RA_nil ?_
        refine at_normal ?_
        by_cases h2598 : n2237.isSome = true
        · replace H := g_ift h2598 H
          refine SA_condTb rfl h2598 ?_
          refine SA_seq ?_
          refine SA_drawH [0, 1, 2, 3, 4, 5] #[[], [], [1], [0], [0, 1, 2, 3], [0, 1, 2, 3, 4]] [2, 3] [0, 1, 2] mixed rfl rfl rfl fun I0 hS h0 hh0 w0 sH dd => ?_
          refine DH_take (v := .int .i64 n2477) 0 (by kernel_rfl) rfl rfl (.no rfl) (PanOk.thn (PanOk.inb (PanOk.thn (PanOk.inb PanOk.body)))) sH rfl (VR.ofV (V_move rfl)) ?_
          refine DH_take (v := .pointer (some ⟨b6, 0, none⟩)) 1 (by kernel_rfl) rfl rfl (.no rfl) (PanOk.thn (PanOk.inb (PanOk.thn (PanOk.inb PanOk.body)))) sH rfl (VR.ofV (V_fieldAddrN (B := ⟨b6, 0, none⟩) (m := 0) (o := 0) Try.underlying88 rfl nz3 rfl rfl)) ?_
          refine DH_take 2 (by kernel_rfl) rfl rfl (.no rfl) (PanOk.thn (PanOk.inb (PanOk.thn (PanOk.inb PanOk.body)))) sH rfl (VR_load_blk (b := b6) (m := 0) (k := 1) Try.underlying3 rfl rfl rfl rfl) ?_
          refine DH_take (v := .int .i64 n2477) 3 (by kernel_rfl) rfl rfl (.no rfl) (PanOk.thn (PanOk.inb (PanOk.thn (PanOk.inb PanOk.body)))) sH rfl (VR.ofV (V_assign rfl)) ?_
          obtain ⟨n2839, hn2839, H⟩ := g_lt H
          refine DH_take (v := .int .i64 n2839) 4 (by kernel_rfl) rfl rfl (.no rfl) (PanOk.thn (PanOk.inb (PanOk.thn (PanOk.inb PanOk.body)))) sH rfl (VR.ofV (V_assign (v := .int .i64 n2839) (congrArg (Value.int .i64) hn2839.symm))) ?_
          refine DH_take (v := .int .i64 0) 5 (by kernel_rfl) rfl rfl (.no rfl) (PanOk.thn (PanOk.inb (PanOk.thn (PanOk.inb PanOk.body)))) sH rfl (VR.ofV (V_assign rfl)) ?_
          refine DH_open dd sH ?_
          refine DN_done (by kernel_rfl) ?_
          refine at_normal ?_
          refine SA_ret ?_
          refine inb_ret ?_
          refine thn_ret ?_
          refine inb_ret ?_
          have hr_ := Option.some.inj H
          subst hr_
          exact BQ_R3 [Blk b0_ 136 [.map (some c0_0), .int .u64 p0.f1]] rfl rfl rfl rfl (Gh.sel [2] rfl rfl) ⟨rfl, rfl⟩
        · replace H := g_iff h2598 H
          refine SA_condFb rfl h2598 ?_
          refine SA_skip ?_
          refine inb_normal ?_
          exact at_normal ⟨k7, Nat.lt_succ_self _, _, b6, H, St.mk1 (aeq rfl (aeq rfl (aeq rfl (aeq rfl aeq0)))) (Gh.sel [0, 1, 2, 3] rfl rfl)⟩

/-! ### function 24: wayfarer/huff.Symbol -/
def F24.f (k : Nat) (l0 : (List Int)) (l1 : (List Int)) (a2 : Int) : Option (Int × Int × Int) := (F52.f k l0 15).bind (fun r3 => (if (!r3) = true then (some true) else ((F53.f k l0).bind (fun r6 => some (decide (r6 > 32768)))) : Option Bool).bind (fun q4 => lt (q4 || (decide (a2 < 0))) fun q9 => if q9 = true then (some ((0, 0, 2))) else ((F54.f k l0).bind (fun r13 => ptrC r13.1 (if r13.2 ≠ 0 then (some ((0, 0, r13.2))) else (none)) fun x14 => (if r13.2 ≠ 0 then (some ((0, 0, r13.2))) else ((F55.f k x14 l1 a2).bind (fun r31 => some ((r31.1, r31.2.1, r31.2.2)))))))))
set_option maxHeartbeats 2000000 in
set_option maxRecDepth 100000 in
theorem F24.ok {k : Nat} {l0 : (List Int)} {l1 : (List Int)} {a2 : Int} {A0 : Option Addr} {c0 : Nat} {A1 : Option Addr} {c1 : Nat} {r : Int × Int × Int} (H : F24.f k l0 l1 a2 = some r) : SCA Try.prog 24 #[.slice A0 l0.length c0, .slice A1 l1.length c1, .int .i64 a2] [Ro (Kd.int .i64) A0 c0 l0, Ro (Kd.int .u8) A1 c1 l1] (fun v B => v = .tuple #[.int .i64 r.1, .int .i64 r.2.1, .int .i64 r.2.2] ∧ B = []) := by
  refine SCA_of_body Try.func24 rfl rfl ?_
  unfold F24.f at H
  refine SA_seq ?_
  refine SA_region ?_
  refine RA_step rfl (OA_v (v := .int .i64 0) rfl (V_assign rfl) ?_)
  refine RA_step rfl (OA_v (v := .int .i64 0) rfl (V_assign rfl) ?_)
  refine RA_step rfl (OA_v (v := .int .i64 0) rfl (V_assign rfl) ?_)
  refine RA_nil ?_
  refine at_normal ?_
  refine SA_seq ?_
  refine SA_seq ?_
  refine SA_region ?_
  refine RA_step rfl (OA_v (v := .slice A0 l0.length c0) rfl (V_move rfl) ?_)
  obtain ⟨r3, C33, H⟩ := g_bind H
  refine RA_step rfl (OA_callA [0] [0, 1] rfl (X_fn (vs := [.slice A0 l0.length c0, .int .i64 15]) Try.func52 nm52 rfl rfl) rfl (F52.ok (l0 := l0) (A0 := A0) (c0 := c0) (a1 := 15) C33) rfl ?_)
  rintro _ _ ⟨rfl, rfl⟩
  refine RA_step rfl (OA_v (v := .bool (!r3)) rfl (V_not rfl) ?_)
  refine RA_step rfl (OA_v (v := .bool (!r3)) rfl (V_move rfl) ?_)
  obtain ⟨q4, H, Bq4⟩ := g_bind H
  refine RA_cut 4 (fun e ds As => St [(0, .slice A0 l0.length c0), (1, .slice A1 l1.length c1), (2, .int .i64 a2), (17, .bool q4)] [Ro (Kd.int .i64) A0 c0 l0, Ro (Kd.int .u8) A1 c1 l1] e ds As) ?_ ?_
  · by_cases h5 : (!r3) = true
    · replace H := g_ift h5 H
      refine RA_noB rfl rfl rfl rfl (h5) rfl ?_
      refine RA_noB rfl rfl rfl rfl (h5) rfl ?_
      refine RA_noB rfl rfl rfl rfl (h5) rfl ?_
      refine RA_step rfl (OA_v rfl (V_pickT rfl (h5) rfl) ?_)
      have hr_ := Option.some.inj H
      subst hr_
      refine RA_nil ?_
      exact at_normal (St.mk1 (aeq rfl (aeq rfl (aeq rfl (aeq rfl aeq0)))) (Gh.sel [0, 1] rfl rfl))
    · replace H := g_iff h5 H
      refine RA_yesB rfl rfl rfl rfl (bno h5) (OA_v (v := .slice A0 l0.length c0) rfl (V_move rfl) ?_)
      obtain ⟨r6, C7, H⟩ := g_bind H
      refine RA_yesB rfl rfl rfl rfl (bno h5) (OA_callA [0] [0, 1] rfl (X_fn (vs := [.slice A0 l0.length c0]) Try.func53 nm53 rfl rfl) rfl (F53.ok (l0 := l0) (A0 := A0) (c0 := c0) C7) rfl ?_)
      rintro _ _ ⟨rfl, rfl⟩
      refine RA_yesB rfl rfl rfl rfl (bno h5) (OA_v (v := .bool (decide (r6 > 32768))) rfl (V_gtr rfl rfl) ?_)
      refine RA_step rfl (OA_v rfl (V_pickF rfl (bno h5) rfl) ?_)
      have hr_ := Option.some.inj H
      subst hr_
      refine RA_nil ?_
      exact at_normal (St.mk1 (aeq rfl (aeq rfl (aeq rfl (aeq rfl aeq0)))) (Gh.sel [0, 1] rfl rfl))
  · rintro e ds As hst8
    clear H
    have H := Bq4
    clear Bq4
    refine RA.of_St rfl hst8 fun junk => ?_
    refine RA_step rfl (OA_v (v := .bool q4) rfl (V_move rfl) ?_)
    obtain ⟨q9, hq9, H⟩ := g_lt H
    refine RA_cut 3 (fun e ds As => St [(0, .slice A0 l0.length c0), (1, .slice A1 l1.length c1), (2, .int .i64 a2), (21, .bool q9)] [Ro (Kd.int .i64) A0 c0 l0, Ro (Kd.int .u8) A1 c1 l1] e ds As) ?_ ?_
    · by_cases h10 : q4 = true
      · refine RA_noB rfl rfl rfl rfl (h10) rfl ?_
        refine RA_noB rfl rfl rfl rfl (h10) rfl ?_
        refine RA_step rfl (OA_v rfl (V_pickT rfl (h10) rfl) ?_)
        refine RA_nil ?_
        exact at_normal (St.mk1 (aeq rfl (aeq rfl (aeq rfl (aeq (congrArg Value.bool (or_t hq9 (h10))) aeq0)))) (Gh.sel [0, 1] rfl rfl))
      · refine RA_yesB rfl rfl rfl rfl (bno h10) (OA_v (v := .int .i64 a2) rfl (V_move rfl) ?_)
        refine RA_yesB rfl rfl rfl rfl (bno h10) (OA_v (v := .bool (decide (a2 < 0))) rfl (V_lss rfl rfl) ?_)
        refine RA_step rfl (OA_v rfl (V_pickF rfl (bno h10) rfl) ?_)
        refine RA_nil ?_
        exact at_normal (St.mk1 (aeq rfl (aeq rfl (aeq rfl (aeq (congrArg Value.bool (or_f hq9 (bno h10))) aeq0)))) (Gh.sel [0, 1] rfl rfl))
    · rintro e ds As hst11
      refine RA_nil ?_
      refine at_normal ?_
      refine SA.of_St hst11 fun junk => ?_
      by_cases h12 : q9 = true
      · replace H := g_ift h12 H
        refine SA_condTb rfl h12 ?_
        refine SA_seq ?_
        refine SA_region ?_
        refine RA_step rfl (OA_v (v := .int .i64 0) rfl (V_assign rfl) ?_)
        refine RA_step rfl (OA_v (v := .int .i64 0) rfl (V_assign rfl) ?_)
        refine RA_step rfl (OA_v (v := .int .i64 2) rfl (V_assign rfl) ?_)
        refine RA_nil ?_
        refine at_normal ?_
        refine SA_ret ?_
        refine thn_ret ?_
        have hr_ := Option.some.inj H
        subst hr_
        exact BQ_R3 [] rfl rfl rfl rfl (Gh.sel [] rfl rfl) ⟨rfl, rfl⟩
      · replace H := g_iff h12 H
        refine SA_condFb rfl h12 ?_
        refine SA_skip ?_
        refine at_normal ?_
        refine SA_seq ?_
        refine SA_region ?_
        refine RA_step rfl (OA_v (v := .slice A0 l0.length c0) rfl (V_move rfl) ?_)
        obtain ⟨r13, C15, H⟩ := g_bind H
        rcases ho16 : r13.1 with _ | x14
        · replace H := ptrC_n ho16 H
          have hok_ := F54.ok (l0 := l0) (A0 := A0) (c0 := c0) C15
          simp only [ho16, ptrV_n, ptrL_n, List.nil_append, List.cons_append] at hok_
          refine RA_step rfl (OA_callA [0] [0, 1] rfl (X_fn (vs := [.slice A0 l0.length c0]) Try.func54 nm54 rfl rfl) rfl hok_ rfl ?_)
          rintro _ _ ⟨A17, b18, A20, c21, rfl, rfl⟩
          refine RA_step rfl (OA_v (v := .tuple #[.pointer none, .int .i64 r13.2]) rfl (V_move rfl) ?_)
          refine RA_step rfl (OA_v (v := .pointer none) rfl (V_extract rfl rfl) ?_)
          refine RA_step rfl (OA_v (v := .int .i64 r13.2) rfl (V_extract rfl rfl) ?_)
          refine RA_step rfl (OA_v (v := .pointer none) rfl (V_assign rfl) ?_)
          refine RA_step rfl (OA_v (v := .int .i64 r13.2) rfl (V_assign rfl) ?_)
          refine RA_nil ?_
          refine at_normal ?_
          refine SA_seq ?_
          refine SA_seq ?_
          refine SA_region ?_
          refine RA_step rfl (OA_v (v := .int .i64 r13.2) rfl (V_move rfl) ?_)
          refine RA_step rfl (OA_v (v := .bool (decide (r13.2 ≠ 0))) rfl (V_neq rfl rfl) ?_)
          refine RA_nil ?_
          refine at_normal ?_
          by_cases h23 : r13.2 ≠ 0
          · replace H := g_ift h23 H
            refine SA_condT rfl h23 ?_
            refine SA_seq ?_
            refine SA_region ?_
            refine RA_step rfl (OA_v (v := .int .i64 r13.2) rfl (V_move rfl) ?_)
            refine RA_step rfl (OA_v (v := .int .i64 0) rfl (V_assign rfl) ?_)
            refine RA_step rfl (OA_v (v := .int .i64 0) rfl (V_assign rfl) ?_)
            refine RA_step rfl (OA_v (v := .int .i64 r13.2) rfl (V_assign rfl) ?_)
            refine RA_nil ?_
            refine at_normal ?_
            refine SA_ret ?_
            refine thn_ret ?_
            have hr_ := Option.some.inj H
            subst hr_
            exact BQ_R3 [] rfl rfl rfl rfl (Gh.sel [] rfl rfl) ⟨rfl, rfl⟩
          · replace H := g_iff h23 H
            refine SA_condF rfl h23 ?_
            refine SA_skip ?_
            refine at_normal ?_
            refine SA_seq ?_
            refine SA_region ?_
            refine RA_step rfl (OA_v (v := .pointer none) rfl (V_move rfl) ?_)
            refine RA_step rfl (OA_v (v := .slice A1 l1.length c1) rfl (V_move rfl) ?_)
            refine RA_step rfl (OA_v (v := .int .i64 a2) rfl (V_move rfl) ?_)
            cases H
        · replace H := ptrC_s ho16 H
          have hok_ := F54.ok (l0 := l0) (A0 := A0) (c0 := c0) C15
          simp only [ho16, ptrV_s, ptrL_s, List.nil_append, List.cons_append] at hok_
          refine RA_step rfl (OA_callA [0] [0, 1] rfl (X_fn (vs := [.slice A0 l0.length c0]) Try.func54 nm54 rfl rfl) rfl hok_ rfl ?_)
          rintro _ _ ⟨A24, b25, A27, c28, rfl, rfl⟩
          refine RA_step rfl (OA_v (v := .tuple #[.pointer (some ⟨b25, 0, none⟩), .int .i64 r13.2]) rfl (V_move rfl) ?_)
          refine RA_step rfl (OA_v (v := .pointer (some ⟨b25, 0, none⟩)) rfl (V_extract rfl rfl) ?_)
          refine RA_step rfl (OA_v (v := .int .i64 r13.2) rfl (V_extract rfl rfl) ?_)
          refine RA_step rfl (OA_v (v := .pointer (some ⟨b25, 0, none⟩)) rfl (V_assign rfl) ?_)
          refine RA_step rfl (OA_v (v := .int .i64 r13.2) rfl (V_assign rfl) ?_)
          refine RA_nil ?_
          refine at_normal ?_
          refine SA_seq ?_
          refine SA_seq ?_
          refine SA_region ?_
          refine RA_step rfl (OA_v (v := .int .i64 r13.2) rfl (V_move rfl) ?_)
          refine RA_step rfl (OA_v (v := .bool (decide (r13.2 ≠ 0))) rfl (V_neq rfl rfl) ?_)
          refine RA_nil ?_
          refine at_normal ?_
          by_cases h30 : r13.2 ≠ 0
          · replace H := g_ift h30 H
            refine SA_condT rfl h30 ?_
            refine SA_seq ?_
            refine SA_region ?_
            refine RA_step rfl (OA_v (v := .int .i64 r13.2) rfl (V_move rfl) ?_)
            refine RA_step rfl (OA_v (v := .int .i64 0) rfl (V_assign rfl) ?_)
            refine RA_step rfl (OA_v (v := .int .i64 0) rfl (V_assign rfl) ?_)
            refine RA_step rfl (OA_v (v := .int .i64 r13.2) rfl (V_assign rfl) ?_)
            refine RA_nil ?_
            refine at_normal ?_
            refine SA_ret ?_
            refine thn_ret ?_
            have hr_ := Option.some.inj H
            subst hr_
            exact BQ_R3 [] rfl rfl rfl rfl (Gh.sel [] rfl rfl) ⟨rfl, rfl⟩
          · replace H := g_iff h30 H
            refine SA_condF rfl h30 ?_
            refine SA_skip ?_
            refine at_normal ?_
            refine SA_seq ?_
            refine SA_region ?_
            refine RA_step rfl (OA_v (v := .pointer (some ⟨b25, 0, none⟩)) rfl (V_move rfl) ?_)
            refine RA_step rfl (OA_v (v := .slice A1 l1.length c1) rfl (V_move rfl) ?_)
            refine RA_step rfl (OA_v (v := .int .i64 a2) rfl (V_move rfl) ?_)
            obtain ⟨r31, C32, H⟩ := g_bind H
            refine RA_step rfl (OA_callA [0, 1, 3] [2, 3] rfl (X_fn (vs := [.pointer (some ⟨b25, 0, none⟩), .slice A1 l1.length c1, .int .i64 a2]) Try.func55 nm55 rfl rfl) rfl (F55.ok (b0_ := b25) (A0_0 := A27) (c0_0 := c28) (p0 := x14) (l1 := l1) (A1 := A1) (c1 := c1) (a2 := a2) C32) rfl ?_)
            rintro _ _ ⟨rfl, rfl⟩
            refine RA_step rfl (OA_v (v := .int .i64 r31.1) rfl (V_extract rfl rfl) ?_)
            refine RA_step rfl (OA_v (v := .int .i64 r31.2.1) rfl (V_extract rfl rfl) ?_)
            refine RA_step rfl (OA_v (v := .int .i64 r31.2.2) rfl (V_extract rfl rfl) ?_)
            refine RA_step rfl (OA_v (v := .int .i64 r31.1) rfl (V_assign rfl) ?_)
            refine RA_step rfl (OA_v (v := .int .i64 r31.2.1) rfl (V_assign rfl) ?_)
            refine RA_step rfl (OA_v (v := .int .i64 r31.2.2) rfl (V_assign rfl) ?_)
            refine RA_nil ?_
            refine at_normal ?_
            refine SA_ret ?_
            have hr_ := Option.some.inj H
            subst hr_
            exact BQ_R3 [] rfl rfl rfl rfl (Gh.sel [] rfl rfl) ⟨rfl, rfl⟩
end Go.Proofs.Ytocjoegcfojjhaa.Hd

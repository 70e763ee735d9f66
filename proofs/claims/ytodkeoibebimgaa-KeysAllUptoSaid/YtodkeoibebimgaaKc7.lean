/- What functions compute, and that they do: 75. -/
import Derived.Test.YtodkeoibebimgaaKc0
import Derived.Test.YtodkeoibebimgaaKc4
import Derived.Test.YtodkeoibebimgaaKc6
namespace Go.Proofs.Ytodkeoibebimgaa.Kc
open Go Go.RowKit Go.Proofs.Ytodkeoibebimgaa.SL
set_option linter.unusedVariables false
set_option linter.unusedSimpArgs false
attribute [local irreducible] IntKind.wrap minI maxI shrI shlI andI orI xorI andNotI cplI rd sub bytesOf strOf slA
/-! ### function 75: wayfarer/wayfarerref16.May -/
def F75.l1 (a0 : S83) : Nat → Int → Option (Out (Bool) (Unit))
  | 0, _ => none
  | k + 1, x5_2098 => if x5_2098 < (a0.f17.length : Int) then (if 0 ≤ x5_2098 ∧ x5_2098 < (a0.f17.length : Int) then (if (rd a0.f17 x5_2098) < 0 then (some (Out.ret (false))) else (lt (IntKind.i64.wrap (x5_2098 + 1)) fun n2105 => F75.l1 a0 k n2105)) else none) else (some (Out.go ()))
def F75.l0 (a0 : S83) : Nat → Int → Option (Out (Bool) (Unit))
  | 0, _ => none
  | k + 1, x4_41 => if x4_41 < (a0.f7.length : Int) then ((if 0 ≤ x4_41 ∧ x4_41 < (a0.f7.length : Int) then (if (rd a0.f7 x4_41) < 0 then (if true = true then (some true) else (if x4_41 > 0 then (if 0 ≤ x4_41 ∧ x4_41 < (a0.f7.length : Int) then (if 0 ≤ (IntKind.i64.wrap (x4_41 - 1)) ∧ (IntKind.i64.wrap (x4_41 - 1)) < (a0.f7.length : Int) then (some (decide ((rd a0.f7 x4_41) ≤ (rd a0.f7 (IntKind.i64.wrap (x4_41 - 1)))))) else none) else none) else (some false))) else (if 0 ≤ x4_41 ∧ x4_41 < (a0.f7.length : Int) then (if (rd a0.f7 x4_41) ≥ a0.f0.f0 then (some true) else (if x4_41 > 0 then (if 0 ≤ x4_41 ∧ x4_41 < (a0.f7.length : Int) then (if 0 ≤ (IntKind.i64.wrap (x4_41 - 1)) ∧ (IntKind.i64.wrap (x4_41 - 1)) < (a0.f7.length : Int) then (some (decide ((rd a0.f7 x4_41) ≤ (rd a0.f7 (IntKind.i64.wrap (x4_41 - 1)))))) else none) else none) else (some false))) else none)) else none : Option (Bool)).bind (fun t45 => if t45 = true then (some (Out.ret (false))) else (lt (IntKind.i64.wrap (x4_41 + 1)) fun n2094 => F75.l0 a0 k n2094))) else (some (Out.go ()))
def F75.f (k : Nat) (a0 : S83) : Option (Bool) := (F30.f k a0.f0).bind (fun r9 => (if (!r9) = true then (some true) else ((F108.f a0.f0 a0.f1 a0.f2 a0.f3).bind (fun r12 => some (!r12))) : Option Bool).bind (fun q10 => (if q10 = true then (some true) else ((F108.f a0.f0 a0.f14.f0 a0.f14.f1 a0.f14.f2).bind (fun r17 => some (!r17))) : Option Bool).bind (fun q15 => lt (q15 || (decide (a0.f5 < 0))) fun q20 => lt (q20 || (decide (a0.f5 > a0.f6))) fun q23 => lt (q23 || (decide (a0.f6 ≥ a0.f0.f1))) fun q26 => (if q26 = true then (some true) else ((F89.f a0.f4).bind (fun r31 => some (!r31))) : Option Bool).bind (fun q29 => (if q29 = true then (some true) else ((F89.f a0.f14.f4).bind (fun r36 => some (!r36))) : Option Bool).bind (fun q34 => if q34 = true then (some (false)) else ((F75.l0 a0 k 0 : Option (Out (Bool) (Unit))).bind (fun t40 => Out.el t40 (fun r_ => some r_) (fun s41 => if (a0.f17.length : Int) > 256 then (some (false)) else ((F75.l1 a0 k 0 : Option (Out (Bool) (Unit))).bind (fun t2097 => Out.el t2097 (fun r_ => some r_) (fun s2098 => if a0.f15 = true then ((F30.f k a0.f16).bind (fun r2108 => lt (r2108 && (decide (a0.f16.f0 = a0.f0.f0))) fun q2109 => lt (q2109 && (decide (a0.f16.f1 = a0.f0.f1))) fun q2112 => some (q2112))) else (lt ((decide (a0.f16.f0 = 0)) && (decide (a0.f16.f1 = 0))) fun q2116 => lt (q2116 && (decide ((a0.f16.f2.length : Int) = 0))) fun q2119 => some (q2119)))))))))))))
set_option maxHeartbeats 2000000 in
set_option maxRecDepth 100000 in
theorem F75.ok {k : Nat} {a0 : S83} {A0_0 : Option Addr} {c0_0 : Nat} {A0_1 : Option Addr} {c0_1 : Nat} {A0_2 : Option Addr} {c0_2 : Nat} {A0_3 : Option Addr} {c0_3 : Nat} {r : Bool} (H : F75.f k a0 = some r) : SCA Try.prog 75 #[.agg (List.toArray (.int .i64 a0.f0.f0 :: .int .i64 a0.f0.f1 :: .slice A0_0 a0.f0.f2.length c0_0 :: .int .i64 a0.f1 :: .int .i64 a0.f2 :: .bool a0.f3 :: .int .i64 a0.f4.f0 :: .int .i64 a0.f4.f1 :: .bool a0.f4.f2 :: .bool a0.f4.f3 :: .bool a0.f4.f4 :: .bool a0.f4.f5 :: .bool a0.f4.f6 :: .bool a0.f4.f7 :: .bool a0.f4.f8 :: .bool a0.f4.f9 :: .int .i64 a0.f5 :: .int .i64 a0.f6 :: .slice A0_1 a0.f7.length c0_1 :: .bool a0.f8 :: .bool a0.f9 :: .bool a0.f10 :: .bool a0.f11 :: .bool a0.f12 :: .bool a0.f13 :: .int .i64 a0.f14.f0 :: .int .i64 a0.f14.f1 :: .bool a0.f14.f2 :: .bool a0.f14.f3 :: .int .i64 a0.f14.f4.f0 :: .int .i64 a0.f14.f4.f1 :: .bool a0.f14.f4.f2 :: .bool a0.f14.f4.f3 :: .bool a0.f14.f4.f4 :: .bool a0.f14.f4.f5 :: .bool a0.f14.f4.f6 :: .bool a0.f14.f4.f7 :: .bool a0.f14.f4.f8 :: .bool a0.f14.f4.f9 :: .bool a0.f15 :: .int .i64 a0.f16.f0 :: .int .i64 a0.f16.f1 :: .slice A0_2 a0.f16.f2.length c0_2 :: .slice A0_3 a0.f17.length c0_3 :: []))] [Ro k76 A0_0 c0_0 a0.f0.f2, Ro (Kd.int .i64) A0_1 c0_1 a0.f7, Ro k76 A0_2 c0_2 a0.f16.f2, Ro (Kd.int .i32) A0_3 c0_3 a0.f17] (fun v B => v = .bool r ∧ B = []) := by
  refine SCA_of_body Try.func75 rfl rfl ?_
  unfold F75.f at H
  refine SA_seq ?_
  refine SA_region ?_
  refine RA_step rfl (OA_box rfl rfl fun b5 => ?_)
  refine RA_step rfl (OA_v (v := .bool false) rfl (V_assign rfl) ?_)
  refine RA_nil ?_
  refine at_normal ?_
  refine SA_seq ?_
  refine SA_region ?_
  refine RA_step rfl (OA_v (v := .pointer (some ⟨b5, 0, none⟩)) rfl (V_fieldAddrN (B := ⟨b5, 0, none⟩) (m := 0) (o := 0) Try.underlying83 rfl nz67 rfl rfl) ?_)
  refine RA_step rfl (OA_r rfl (VR_loadA_blk (b := b5) (m := 0) (k := 4) (vs := [.int .i64 a0.f0.f0, .int .i64 a0.f0.f1, .slice A0_0 a0.f0.f2.length c0_0]) Try.underlying67 rfl sz67 rfl rfl rfl) ?_)
  refine RA_step rfl (OA_alloc rfl zero67 fun b7 => ?_)
  refine RA_step rfl (OA_st (b := b7) (m := 0) (k := 5) (vs := [.int .i64 a0.f0.f0, .int .i64 a0.f0.f1, .slice A0_0 a0.f0.f2.length c0_0]) (cs' := [.int .i64 a0.f0.f0, .int .i64 a0.f0.f1, .slice A0_0 a0.f0.f2.length c0_0]) rfl rfl rfl rfl rfl rfl sz67 rfl rfl ?_)
  refine RA_nil ?_
  refine at_normal ?_
  refine SA_seq ?_
  refine SA_seq ?_
  refine SA_region ?_
  refine RA_step rfl (OA_r rfl (VR_loadA_blk (b := b7) (m := 0) (k := 5) (vs := [.int .i64 a0.f0.f0, .int .i64 a0.f0.f1, .slice A0_0 a0.f0.f2.length c0_0]) Try.underlying67 rfl sz67 rfl rfl rfl) ?_)
  obtain ⟨r9, C2122, H⟩ := g_bind H
  refine RA_step rfl (OA_callA [0] [0, 1, 2, 3, 4, 5] rfl (X_fn (vs := [.agg #[.int .i64 a0.f0.f0, .int .i64 a0.f0.f1, .slice A0_0 a0.f0.f2.length c0_0]]) Try.func30 nm30 rfl rfl) rfl (F30.ok (a0 := a0.f0) (A0_0 := A0_0) (c0_0 := c0_0) C2122) rfl ?_)
  rintro _ _ ⟨rfl, rfl⟩
  refine RA_step rfl (OA_v (v := .bool (!r9)) rfl (V_not rfl) ?_)
  refine RA_step rfl (OA_v (v := .bool (!r9)) rfl (V_move rfl) ?_)
  obtain ⟨q10, H, Bq10⟩ := g_bind H
  refine RA_cut 10 (fun e ds As => St [(1, .pointer (some ⟨b5, 0, none⟩)), (3, .pointer (some ⟨b7, 0, none⟩)), (21, .bool q10)] [Blk b5 83 (.int .i64 a0.f0.f0 :: .int .i64 a0.f0.f1 :: .slice A0_0 a0.f0.f2.length c0_0 :: .int .i64 a0.f1 :: .int .i64 a0.f2 :: .bool a0.f3 :: .int .i64 a0.f4.f0 :: .int .i64 a0.f4.f1 :: .bool a0.f4.f2 :: .bool a0.f4.f3 :: .bool a0.f4.f4 :: .bool a0.f4.f5 :: .bool a0.f4.f6 :: .bool a0.f4.f7 :: .bool a0.f4.f8 :: .bool a0.f4.f9 :: .int .i64 a0.f5 :: .int .i64 a0.f6 :: .slice A0_1 a0.f7.length c0_1 :: .bool a0.f8 :: .bool a0.f9 :: .bool a0.f10 :: .bool a0.f11 :: .bool a0.f12 :: .bool a0.f13 :: .int .i64 a0.f14.f0 :: .int .i64 a0.f14.f1 :: .bool a0.f14.f2 :: .bool a0.f14.f3 :: .int .i64 a0.f14.f4.f0 :: .int .i64 a0.f14.f4.f1 :: .bool a0.f14.f4.f2 :: .bool a0.f14.f4.f3 :: .bool a0.f14.f4.f4 :: .bool a0.f14.f4.f5 :: .bool a0.f14.f4.f6 :: .bool a0.f14.f4.f7 :: .bool a0.f14.f4.f8 :: .bool a0.f14.f4.f9 :: .bool a0.f15 :: .int .i64 a0.f16.f0 :: .int .i64 a0.f16.f1 :: .slice A0_2 a0.f16.f2.length c0_2 :: .slice A0_3 a0.f17.length c0_3 :: []), Ro k76 A0_0 c0_0 a0.f0.f2, Ro (Kd.int .i64) A0_1 c0_1 a0.f7, Ro k76 A0_2 c0_2 a0.f16.f2, Ro (Kd.int .i32) A0_3 c0_3 a0.f17, Blk b7 67 [.int .i64 a0.f0.f0, .int .i64 a0.f0.f1, .slice A0_0 a0.f0.f2.length c0_0]] e ds As) ?_ ?_
  · by_cases h11 : (!r9) = true
    · replace H := g_ift h11 H
      refine RA_noB rfl rfl rfl rfl (h11) rfl ?_
      refine RA_noB rfl rfl rfl rfl (h11) rfl ?_
      refine RA_noB rfl rfl rfl rfl (h11) rfl ?_
      refine RA_noB rfl rfl rfl rfl (h11) rfl ?_
      refine RA_noB rfl rfl rfl rfl (h11) rfl ?_
      refine RA_noB rfl rfl rfl rfl (h11) rfl ?_
      refine RA_noB rfl rfl rfl rfl (h11) rfl ?_
      refine RA_noB rfl rfl rfl rfl (h11) rfl ?_
      refine RA_noB rfl rfl rfl rfl (h11) rfl ?_
      refine RA_step rfl (OA_v rfl (V_pickT rfl (h11) rfl) ?_)
      have hr_ := Option.some.inj H
      subst hr_
      refine RA_nil ?_
      exact at_normal (St.mk1 (aeq rfl (aeq rfl (aeq rfl aeq0))) (Gh.sel [4, 0, 1, 2, 3, 5] rfl rfl))
    · replace H := g_iff h11 H
      refine RA_yesB rfl rfl rfl rfl (bno h11) (OA_r rfl (VR_loadA_blk (b := b7) (m := 0) (k := 5) (vs := [.int .i64 a0.f0.f0, .int .i64 a0.f0.f1, .slice A0_0 a0.f0.f2.length c0_0]) Try.underlying67 rfl sz67 rfl rfl rfl) ?_)
      refine RA_yesB rfl rfl rfl rfl (bno h11) (OA_v (v := .pointer (some ((⟨b5, 0, none⟩ : Addr).add 3))) rfl (V_fieldAddrN (B := ⟨b5, 0, none⟩) (m := 0) (o := 3) Try.underlying83 rfl nz3 rfl rfl) ?_)
      refine RA_yesB rfl rfl rfl rfl (bno h11) (OA_r rfl (VR_load_blk (b := b5) (m := 3) (k := 4) Try.underlying3 rfl rfl rfl rfl) ?_)
      refine RA_yesB rfl rfl rfl rfl (bno h11) (OA_v (v := .pointer (some ((⟨b5, 0, none⟩ : Addr).add 4))) rfl (V_fieldAddrN (B := ⟨b5, 0, none⟩) (m := 0) (o := 4) Try.underlying83 rfl nz3 rfl rfl) ?_)
      refine RA_yesB rfl rfl rfl rfl (bno h11) (OA_r rfl (VR_load_blk (b := b5) (m := 4) (k := 4) Try.underlying3 rfl rfl rfl rfl) ?_)
      refine RA_yesB rfl rfl rfl rfl (bno h11) (OA_v (v := .pointer (some ((⟨b5, 0, none⟩ : Addr).add 5))) rfl (V_fieldAddrN (B := ⟨b5, 0, none⟩) (m := 0) (o := 5) Try.underlying83 rfl nz4 rfl rfl) ?_)
      refine RA_yesB rfl rfl rfl rfl (bno h11) (OA_r rfl (VR_load_blk (b := b5) (m := 5) (k := 4) Try.underlying4 rfl rfl rfl rfl) ?_)
      obtain ⟨r12, C13, H⟩ := g_bind H
      refine RA_yesB rfl rfl rfl rfl (bno h11) (OA_callA [0] [0, 1, 2, 3, 4, 5] rfl (X_fn (vs := [.agg #[.int .i64 a0.f0.f0, .int .i64 a0.f0.f1, .slice A0_0 a0.f0.f2.length c0_0], .int .i64 a0.f1, .int .i64 a0.f2, .bool a0.f3]) Try.func108 nm108 rfl rfl) rfl (F108.ok (a0 := a0.f0) (A0_0 := A0_0) (c0_0 := c0_0) (a1 := a0.f1) (a2 := a0.f2) (a3 := a0.f3) C13) rfl ?_)
      rintro _ _ ⟨rfl, rfl⟩
      refine RA_yesB rfl rfl rfl rfl (bno h11) (OA_v (v := .bool (!r12)) rfl (V_not rfl) ?_)
      refine RA_step rfl (OA_v rfl (V_pickF rfl (bno h11) rfl) ?_)
      have hr_ := Option.some.inj H
      subst hr_
      refine RA_nil ?_
      exact at_normal (St.mk1 (aeq rfl (aeq rfl (aeq rfl aeq0))) (Gh.sel [4, 0, 1, 2, 3, 5] rfl rfl))
  · rintro e ds As hst14
    clear H
    have H := Bq10
    clear Bq10
    refine RA.of_St rfl hst14 fun junk => ?_
    refine RA_step rfl (OA_v (v := .bool q10) rfl (V_move rfl) ?_)
    obtain ⟨q15, H, Bq15⟩ := g_bind H
    refine RA_cut 13 (fun e ds As => St [(1, .pointer (some ⟨b5, 0, none⟩)), (3, .pointer (some ⟨b7, 0, none⟩)), (35, .bool q15)] [Blk b5 83 (.int .i64 a0.f0.f0 :: .int .i64 a0.f0.f1 :: .slice A0_0 a0.f0.f2.length c0_0 :: .int .i64 a0.f1 :: .int .i64 a0.f2 :: .bool a0.f3 :: .int .i64 a0.f4.f0 :: .int .i64 a0.f4.f1 :: .bool a0.f4.f2 :: .bool a0.f4.f3 :: .bool a0.f4.f4 :: .bool a0.f4.f5 :: .bool a0.f4.f6 :: .bool a0.f4.f7 :: .bool a0.f4.f8 :: .bool a0.f4.f9 :: .int .i64 a0.f5 :: .int .i64 a0.f6 :: .slice A0_1 a0.f7.length c0_1 :: .bool a0.f8 :: .bool a0.f9 :: .bool a0.f10 :: .bool a0.f11 :: .bool a0.f12 :: .bool a0.f13 :: .int .i64 a0.f14.f0 :: .int .i64 a0.f14.f1 :: .bool a0.f14.f2 :: .bool a0.f14.f3 :: .int .i64 a0.f14.f4.f0 :: .int .i64 a0.f14.f4.f1 :: .bool a0.f14.f4.f2 :: .bool a0.f14.f4.f3 :: .bool a0.f14.f4.f4 :: .bool a0.f14.f4.f5 :: .bool a0.f14.f4.f6 :: .bool a0.f14.f4.f7 :: .bool a0.f14.f4.f8 :: .bool a0.f14.f4.f9 :: .bool a0.f15 :: .int .i64 a0.f16.f0 :: .int .i64 a0.f16.f1 :: .slice A0_2 a0.f16.f2.length c0_2 :: .slice A0_3 a0.f17.length c0_3 :: []), Ro k76 A0_0 c0_0 a0.f0.f2, Ro (Kd.int .i64) A0_1 c0_1 a0.f7, Ro k76 A0_2 c0_2 a0.f16.f2, Ro (Kd.int .i32) A0_3 c0_3 a0.f17, Blk b7 67 [.int .i64 a0.f0.f0, .int .i64 a0.f0.f1, .slice A0_0 a0.f0.f2.length c0_0]] e ds As) ?_ ?_
    · by_cases h16 : q10 = true
      · replace H := g_ift h16 H
        refine RA_noB rfl rfl rfl rfl (h16) rfl ?_
        refine RA_noB rfl rfl rfl rfl (h16) rfl ?_
        refine RA_noB rfl rfl rfl rfl (h16) rfl ?_
        refine RA_noB rfl rfl rfl rfl (h16) rfl ?_
        refine RA_noB rfl rfl rfl rfl (h16) rfl ?_
        refine RA_noB rfl rfl rfl rfl (h16) rfl ?_
        refine RA_noB rfl rfl rfl rfl (h16) rfl ?_
        refine RA_noB rfl rfl rfl rfl (h16) rfl ?_
        refine RA_noB rfl rfl rfl rfl (h16) rfl ?_
        refine RA_noB rfl rfl rfl rfl (h16) rfl ?_
        refine RA_noB rfl rfl rfl rfl (h16) rfl ?_
        refine RA_noB rfl rfl rfl rfl (h16) rfl ?_
        refine RA_step rfl (OA_v rfl (V_pickT rfl (h16) rfl) ?_)
        have hr_ := Option.some.inj H
        subst hr_
        refine RA_nil ?_
        exact at_normal (St.mk1 (aeq rfl (aeq rfl (aeq rfl aeq0))) (Gh.sel [0, 1, 2, 3, 4, 5] rfl rfl))
      · replace H := g_iff h16 H
        refine RA_yesB rfl rfl rfl rfl (bno h16) (OA_r rfl (VR_loadA_blk (b := b7) (m := 0) (k := 5) (vs := [.int .i64 a0.f0.f0, .int .i64 a0.f0.f1, .slice A0_0 a0.f0.f2.length c0_0]) Try.underlying67 rfl sz67 rfl rfl rfl) ?_)
        refine RA_yesB rfl rfl rfl rfl (bno h16) (OA_v (v := .pointer (some ((⟨b5, 0, none⟩ : Addr).add 25))) rfl (V_fieldAddrN (B := ⟨b5, 0, none⟩) (m := 0) (o := 25) Try.underlying83 rfl nz80 rfl rfl) ?_)
        refine RA_yesB rfl rfl rfl rfl (bno h16) (OA_v (v := .pointer (some ((⟨b5, 0, none⟩ : Addr).add 25))) rfl (V_fieldAddrN (B := ⟨b5, 0, none⟩) (m := 25) (o := 25) Try.underlying80 rfl nz3 rfl rfl) ?_)
        refine RA_yesB rfl rfl rfl rfl (bno h16) (OA_r rfl (VR_load_blk (b := b5) (m := 25) (k := 0) Try.underlying3 rfl rfl rfl rfl) ?_)
        refine RA_yesB rfl rfl rfl rfl (bno h16) (OA_v (v := .pointer (some ((⟨b5, 0, none⟩ : Addr).add 25))) rfl (V_fieldAddrN (B := ⟨b5, 0, none⟩) (m := 0) (o := 25) Try.underlying83 rfl nz80 rfl rfl) ?_)
        refine RA_yesB rfl rfl rfl rfl (bno h16) (OA_v (v := .pointer (some ((⟨b5, 0, none⟩ : Addr).add 26))) rfl (V_fieldAddrN (B := ⟨b5, 0, none⟩) (m := 25) (o := 26) Try.underlying80 rfl nz3 rfl rfl) ?_)
        refine RA_yesB rfl rfl rfl rfl (bno h16) (OA_r rfl (VR_load_blk (b := b5) (m := 26) (k := 0) Try.underlying3 rfl rfl rfl rfl) ?_)
        refine RA_yesB rfl rfl rfl rfl (bno h16) (OA_v (v := .pointer (some ((⟨b5, 0, none⟩ : Addr).add 25))) rfl (V_fieldAddrN (B := ⟨b5, 0, none⟩) (m := 0) (o := 25) Try.underlying83 rfl nz80 rfl rfl) ?_)
        refine RA_yesB rfl rfl rfl rfl (bno h16) (OA_v (v := .pointer (some ((⟨b5, 0, none⟩ : Addr).add 27))) rfl (V_fieldAddrN (B := ⟨b5, 0, none⟩) (m := 25) (o := 27) Try.underlying80 rfl nz4 rfl rfl) ?_)
        refine RA_yesB rfl rfl rfl rfl (bno h16) (OA_r rfl (VR_load_blk (b := b5) (m := 27) (k := 0) Try.underlying4 rfl rfl rfl rfl) ?_)
        obtain ⟨r17, C18, H⟩ := g_bind H
        refine RA_yesB rfl rfl rfl rfl (bno h16) (OA_callA [1] [0, 1, 2, 3, 4, 5] rfl (X_fn (vs := [.agg #[.int .i64 a0.f0.f0, .int .i64 a0.f0.f1, .slice A0_0 a0.f0.f2.length c0_0], .int .i64 a0.f14.f0, .int .i64 a0.f14.f1, .bool a0.f14.f2]) Try.func108 nm108 rfl rfl) rfl (F108.ok (a0 := a0.f0) (A0_0 := A0_0) (c0_0 := c0_0) (a1 := a0.f14.f0) (a2 := a0.f14.f1) (a3 := a0.f14.f2) C18) rfl ?_)
        rintro _ _ ⟨rfl, rfl⟩
        refine RA_yesB rfl rfl rfl rfl (bno h16) (OA_v (v := .bool (!r17)) rfl (V_not rfl) ?_)
        refine RA_step rfl (OA_v rfl (V_pickF rfl (bno h16) rfl) ?_)
        have hr_ := Option.some.inj H
        subst hr_
        refine RA_nil ?_
        exact at_normal (St.mk1 (aeq rfl (aeq rfl (aeq rfl aeq0))) (Gh.sel [0, 1, 2, 3, 4, 5] rfl rfl))
    · rintro e ds As hst19
      clear H
      have H := Bq15
      clear Bq15
      refine RA.of_St rfl hst19 fun junk => ?_
      refine RA_step rfl (OA_v (v := .bool q15) rfl (V_move rfl) ?_)
      obtain ⟨q20, hq20, H⟩ := g_lt H
      refine RA_cut 4 (fun e ds As => St [(1, .pointer (some ⟨b5, 0, none⟩)), (3, .pointer (some ⟨b7, 0, none⟩)), (40, .bool q20)] [Blk b5 83 (.int .i64 a0.f0.f0 :: .int .i64 a0.f0.f1 :: .slice A0_0 a0.f0.f2.length c0_0 :: .int .i64 a0.f1 :: .int .i64 a0.f2 :: .bool a0.f3 :: .int .i64 a0.f4.f0 :: .int .i64 a0.f4.f1 :: .bool a0.f4.f2 :: .bool a0.f4.f3 :: .bool a0.f4.f4 :: .bool a0.f4.f5 :: .bool a0.f4.f6 :: .bool a0.f4.f7 :: .bool a0.f4.f8 :: .bool a0.f4.f9 :: .int .i64 a0.f5 :: .int .i64 a0.f6 :: .slice A0_1 a0.f7.length c0_1 :: .bool a0.f8 :: .bool a0.f9 :: .bool a0.f10 :: .bool a0.f11 :: .bool a0.f12 :: .bool a0.f13 :: .int .i64 a0.f14.f0 :: .int .i64 a0.f14.f1 :: .bool a0.f14.f2 :: .bool a0.f14.f3 :: .int .i64 a0.f14.f4.f0 :: .int .i64 a0.f14.f4.f1 :: .bool a0.f14.f4.f2 :: .bool a0.f14.f4.f3 :: .bool a0.f14.f4.f4 :: .bool a0.f14.f4.f5 :: .bool a0.f14.f4.f6 :: .bool a0.f14.f4.f7 :: .bool a0.f14.f4.f8 :: .bool a0.f14.f4.f9 :: .bool a0.f15 :: .int .i64 a0.f16.f0 :: .int .i64 a0.f16.f1 :: .slice A0_2 a0.f16.f2.length c0_2 :: .slice A0_3 a0.f17.length c0_3 :: []), Ro k76 A0_0 c0_0 a0.f0.f2, Ro (Kd.int .i64) A0_1 c0_1 a0.f7, Ro k76 A0_2 c0_2 a0.f16.f2, Ro (Kd.int .i32) A0_3 c0_3 a0.f17, Blk b7 67 [.int .i64 a0.f0.f0, .int .i64 a0.f0.f1, .slice A0_0 a0.f0.f2.length c0_0]] e ds As) ?_ ?_
      · by_cases h21 : q15 = true
        · refine RA_noB rfl rfl rfl rfl (h21) rfl ?_
          refine RA_noB rfl rfl rfl rfl (h21) rfl ?_
          refine RA_noB rfl rfl rfl rfl (h21) rfl ?_
          refine RA_step rfl (OA_v rfl (V_pickT rfl (h21) rfl) ?_)
          refine RA_nil ?_
          exact at_normal (St.mk1 (aeq rfl (aeq rfl (aeq (congrArg Value.bool (or_t hq20 (h21))) aeq0))) (Gh.sel [0, 1, 2, 3, 4, 5] rfl rfl))
        · refine RA_yesB rfl rfl rfl rfl (bno h21) (OA_v (v := .pointer (some ((⟨b5, 0, none⟩ : Addr).add 16))) rfl (V_fieldAddrN (B := ⟨b5, 0, none⟩) (m := 0) (o := 16) Try.underlying83 rfl nz3 rfl rfl) ?_)
          refine RA_yesB rfl rfl rfl rfl (bno h21) (OA_r rfl (VR_load_blk (b := b5) (m := 16) (k := 0) Try.underlying3 rfl rfl rfl rfl) ?_)
          refine RA_yesB rfl rfl rfl rfl (bno h21) (OA_v (v := .bool (decide (a0.f5 < 0))) rfl (V_lss rfl rfl) ?_)
          refine RA_step rfl (OA_v rfl (V_pickF rfl (bno h21) rfl) ?_)
          refine RA_nil ?_
          exact at_normal (St.mk1 (aeq rfl (aeq rfl (aeq (congrArg Value.bool (or_f hq20 (bno h21))) aeq0))) (Gh.sel [0, 1, 2, 3, 4, 5] rfl rfl))
      · rintro e ds As hst22
        refine RA.of_St rfl hst22 fun junk => ?_
        refine RA_step rfl (OA_v (v := .bool q20) rfl (V_move rfl) ?_)
        obtain ⟨q23, hq23, H⟩ := g_lt H
        refine RA_cut 6 (fun e ds As => St [(1, .pointer (some ⟨b5, 0, none⟩)), (3, .pointer (some ⟨b7, 0, none⟩)), (47, .bool q23)] [Blk b5 83 (.int .i64 a0.f0.f0 :: .int .i64 a0.f0.f1 :: .slice A0_0 a0.f0.f2.length c0_0 :: .int .i64 a0.f1 :: .int .i64 a0.f2 :: .bool a0.f3 :: .int .i64 a0.f4.f0 :: .int .i64 a0.f4.f1 :: .bool a0.f4.f2 :: .bool a0.f4.f3 :: .bool a0.f4.f4 :: .bool a0.f4.f5 :: .bool a0.f4.f6 :: .bool a0.f4.f7 :: .bool a0.f4.f8 :: .bool a0.f4.f9 :: .int .i64 a0.f5 :: .int .i64 a0.f6 :: .slice A0_1 a0.f7.length c0_1 :: .bool a0.f8 :: .bool a0.f9 :: .bool a0.f10 :: .bool a0.f11 :: .bool a0.f12 :: .bool a0.f13 :: .int .i64 a0.f14.f0 :: .int .i64 a0.f14.f1 :: .bool a0.f14.f2 :: .bool a0.f14.f3 :: .int .i64 a0.f14.f4.f0 :: .int .i64 a0.f14.f4.f1 :: .bool a0.f14.f4.f2 :: .bool a0.f14.f4.f3 :: .bool a0.f14.f4.f4 :: .bool a0.f14.f4.f5 :: .bool a0.f14.f4.f6 :: .bool a0.f14.f4.f7 :: .bool a0.f14.f4.f8 :: .bool a0.f14.f4.f9 :: .bool a0.f15 :: .int .i64 a0.f16.f0 :: .int .i64 a0.f16.f1 :: .slice A0_2 a0.f16.f2.length c0_2 :: .slice A0_3 a0.f17.length c0_3 :: []), Ro k76 A0_0 c0_0 a0.f0.f2, Ro (Kd.int .i64) A0_1 c0_1 a0.f7, Ro k76 A0_2 c0_2 a0.f16.f2, Ro (Kd.int .i32) A0_3 c0_3 a0.f17, Blk b7 67 [.int .i64 a0.f0.f0, .int .i64 a0.f0.f1, .slice A0_0 a0.f0.f2.length c0_0]] e ds As) ?_ ?_
        · by_cases h24 : q20 = true
          · refine RA_noB rfl rfl rfl rfl (h24) rfl ?_
            refine RA_noB rfl rfl rfl rfl (h24) rfl ?_
            refine RA_noB rfl rfl rfl rfl (h24) rfl ?_
            refine RA_noB rfl rfl rfl rfl (h24) rfl ?_
            refine RA_noB rfl rfl rfl rfl (h24) rfl ?_
            refine RA_step rfl (OA_v rfl (V_pickT rfl (h24) rfl) ?_)
            refine RA_nil ?_
            exact at_normal (St.mk1 (aeq rfl (aeq rfl (aeq (congrArg Value.bool (or_t hq23 (h24))) aeq0))) (Gh.sel [0, 1, 2, 3, 4, 5] rfl rfl))
          · refine RA_yesB rfl rfl rfl rfl (bno h24) (OA_v (v := .pointer (some ((⟨b5, 0, none⟩ : Addr).add 16))) rfl (V_fieldAddrN (B := ⟨b5, 0, none⟩) (m := 0) (o := 16) Try.underlying83 rfl nz3 rfl rfl) ?_)
            refine RA_yesB rfl rfl rfl rfl (bno h24) (OA_r rfl (VR_load_blk (b := b5) (m := 16) (k := 0) Try.underlying3 rfl rfl rfl rfl) ?_)
            refine RA_yesB rfl rfl rfl rfl (bno h24) (OA_v (v := .pointer (some ((⟨b5, 0, none⟩ : Addr).add 17))) rfl (V_fieldAddrN (B := ⟨b5, 0, none⟩) (m := 0) (o := 17) Try.underlying83 rfl nz3 rfl rfl) ?_)
            refine RA_yesB rfl rfl rfl rfl (bno h24) (OA_r rfl (VR_load_blk (b := b5) (m := 17) (k := 0) Try.underlying3 rfl rfl rfl rfl) ?_)
            refine RA_yesB rfl rfl rfl rfl (bno h24) (OA_v (v := .bool (decide (a0.f5 > a0.f6))) rfl (V_gtr rfl rfl) ?_)
            refine RA_step rfl (OA_v rfl (V_pickF rfl (bno h24) rfl) ?_)
            refine RA_nil ?_
            exact at_normal (St.mk1 (aeq rfl (aeq rfl (aeq (congrArg Value.bool (or_f hq23 (bno h24))) aeq0))) (Gh.sel [0, 1, 2, 3, 4, 5] rfl rfl))
        · rintro e ds As hst25
          refine RA.of_St rfl hst25 fun junk => ?_
          refine RA_step rfl (OA_v (v := .bool q23) rfl (V_move rfl) ?_)
          obtain ⟨q26, hq26, H⟩ := g_lt H
          refine RA_cut 6 (fun e ds As => St [(1, .pointer (some ⟨b5, 0, none⟩)), (3, .pointer (some ⟨b7, 0, none⟩)), (54, .bool q26)] [Blk b5 83 (.int .i64 a0.f0.f0 :: .int .i64 a0.f0.f1 :: .slice A0_0 a0.f0.f2.length c0_0 :: .int .i64 a0.f1 :: .int .i64 a0.f2 :: .bool a0.f3 :: .int .i64 a0.f4.f0 :: .int .i64 a0.f4.f1 :: .bool a0.f4.f2 :: .bool a0.f4.f3 :: .bool a0.f4.f4 :: .bool a0.f4.f5 :: .bool a0.f4.f6 :: .bool a0.f4.f7 :: .bool a0.f4.f8 :: .bool a0.f4.f9 :: .int .i64 a0.f5 :: .int .i64 a0.f6 :: .slice A0_1 a0.f7.length c0_1 :: .bool a0.f8 :: .bool a0.f9 :: .bool a0.f10 :: .bool a0.f11 :: .bool a0.f12 :: .bool a0.f13 :: .int .i64 a0.f14.f0 :: .int .i64 a0.f14.f1 :: .bool a0.f14.f2 :: .bool a0.f14.f3 :: .int .i64 a0.f14.f4.f0 :: .int .i64 a0.f14.f4.f1 :: .bool a0.f14.f4.f2 :: .bool a0.f14.f4.f3 :: .bool a0.f14.f4.f4 :: .bool a0.f14.f4.f5 :: .bool a0.f14.f4.f6 :: .bool a0.f14.f4.f7 :: .bool a0.f14.f4.f8 :: .bool a0.f14.f4.f9 :: .bool a0.f15 :: .int .i64 a0.f16.f0 :: .int .i64 a0.f16.f1 :: .slice A0_2 a0.f16.f2.length c0_2 :: .slice A0_3 a0.f17.length c0_3 :: []), Ro k76 A0_0 c0_0 a0.f0.f2, Ro (Kd.int .i64) A0_1 c0_1 a0.f7, Ro k76 A0_2 c0_2 a0.f16.f2, Ro (Kd.int .i32) A0_3 c0_3 a0.f17, Blk b7 67 [.int .i64 a0.f0.f0, .int .i64 a0.f0.f1, .slice A0_0 a0.f0.f2.length c0_0]] e ds As) ?_ ?_
          · by_cases h27 : q23 = true
            · refine RA_noB rfl rfl rfl rfl (h27) rfl ?_
              refine RA_noB rfl rfl rfl rfl (h27) rfl ?_
              refine RA_noB rfl rfl rfl rfl (h27) rfl ?_
              refine RA_noB rfl rfl rfl rfl (h27) rfl ?_
              refine RA_noB rfl rfl rfl rfl (h27) rfl ?_
              refine RA_step rfl (OA_v rfl (V_pickT rfl (h27) rfl) ?_)
              refine RA_nil ?_
              exact at_normal (St.mk1 (aeq rfl (aeq rfl (aeq (congrArg Value.bool (or_t hq26 (h27))) aeq0))) (Gh.sel [0, 1, 2, 3, 4, 5] rfl rfl))
            · refine RA_yesB rfl rfl rfl rfl (bno h27) (OA_v (v := .pointer (some ((⟨b5, 0, none⟩ : Addr).add 17))) rfl (V_fieldAddrN (B := ⟨b5, 0, none⟩) (m := 0) (o := 17) Try.underlying83 rfl nz3 rfl rfl) ?_)
              refine RA_yesB rfl rfl rfl rfl (bno h27) (OA_r rfl (VR_load_blk (b := b5) (m := 17) (k := 0) Try.underlying3 rfl rfl rfl rfl) ?_)
              refine RA_yesB rfl rfl rfl rfl (bno h27) (OA_v (v := .pointer (some ((⟨b7, 0, none⟩ : Addr).add 1))) rfl (V_fieldAddrN (B := ⟨b7, 0, none⟩) (m := 0) (o := 1) Try.underlying67 rfl nz3 rfl rfl) ?_)
              refine RA_yesB rfl rfl rfl rfl (bno h27) (OA_r rfl (VR_load_blk (b := b7) (m := 1) (k := 5) Try.underlying3 rfl rfl rfl rfl) ?_)
              refine RA_yesB rfl rfl rfl rfl (bno h27) (OA_v (v := .bool (decide (a0.f6 ≥ a0.f0.f1))) rfl (V_geq rfl rfl) ?_)
              refine RA_step rfl (OA_v rfl (V_pickF rfl (bno h27) rfl) ?_)
              refine RA_nil ?_
              exact at_normal (St.mk1 (aeq rfl (aeq rfl (aeq (congrArg Value.bool (or_f hq26 (bno h27))) aeq0))) (Gh.sel [0, 1, 2, 3, 4, 5] rfl rfl))
          · rintro e ds As hst28
            refine RA.of_St rfl hst28 fun junk => ?_
            refine RA_step rfl (OA_v (v := .bool q26) rfl (V_move rfl) ?_)
            obtain ⟨q29, H, Bq29⟩ := g_bind H
            refine RA_cut 5 (fun e ds As => St [(1, .pointer (some ⟨b5, 0, none⟩)), (3, .pointer (some ⟨b7, 0, none⟩)), (60, .bool q29)] [Blk b5 83 (.int .i64 a0.f0.f0 :: .int .i64 a0.f0.f1 :: .slice A0_0 a0.f0.f2.length c0_0 :: .int .i64 a0.f1 :: .int .i64 a0.f2 :: .bool a0.f3 :: .int .i64 a0.f4.f0 :: .int .i64 a0.f4.f1 :: .bool a0.f4.f2 :: .bool a0.f4.f3 :: .bool a0.f4.f4 :: .bool a0.f4.f5 :: .bool a0.f4.f6 :: .bool a0.f4.f7 :: .bool a0.f4.f8 :: .bool a0.f4.f9 :: .int .i64 a0.f5 :: .int .i64 a0.f6 :: .slice A0_1 a0.f7.length c0_1 :: .bool a0.f8 :: .bool a0.f9 :: .bool a0.f10 :: .bool a0.f11 :: .bool a0.f12 :: .bool a0.f13 :: .int .i64 a0.f14.f0 :: .int .i64 a0.f14.f1 :: .bool a0.f14.f2 :: .bool a0.f14.f3 :: .int .i64 a0.f14.f4.f0 :: .int .i64 a0.f14.f4.f1 :: .bool a0.f14.f4.f2 :: .bool a0.f14.f4.f3 :: .bool a0.f14.f4.f4 :: .bool a0.f14.f4.f5 :: .bool a0.f14.f4.f6 :: .bool a0.f14.f4.f7 :: .bool a0.f14.f4.f8 :: .bool a0.f14.f4.f9 :: .bool a0.f15 :: .int .i64 a0.f16.f0 :: .int .i64 a0.f16.f1 :: .slice A0_2 a0.f16.f2.length c0_2 :: .slice A0_3 a0.f17.length c0_3 :: []), Ro k76 A0_0 c0_0 a0.f0.f2, Ro (Kd.int .i64) A0_1 c0_1 a0.f7, Ro k76 A0_2 c0_2 a0.f16.f2, Ro (Kd.int .i32) A0_3 c0_3 a0.f17, Blk b7 67 [.int .i64 a0.f0.f0, .int .i64 a0.f0.f1, .slice A0_0 a0.f0.f2.length c0_0]] e ds As) ?_ ?_
            · by_cases h30 : q26 = true
              · replace H := g_ift h30 H
                refine RA_noB rfl rfl rfl rfl (h30) rfl ?_
                refine RA_noB rfl rfl rfl rfl (h30) rfl ?_
                refine RA_noB rfl rfl rfl rfl (h30) rfl ?_
                refine RA_noB rfl rfl rfl rfl (h30) rfl ?_
                refine RA_step rfl (OA_v rfl (V_pickT rfl (h30) rfl) ?_)
                have hr_ := Option.some.inj H
                subst hr_
                refine RA_nil ?_
                exact at_normal (St.mk1 (aeq rfl (aeq rfl (aeq rfl aeq0))) (Gh.sel [0, 1, 2, 3, 4, 5] rfl rfl))
              · replace H := g_iff h30 H
                refine RA_yesB rfl rfl rfl rfl (bno h30) (OA_v (v := .pointer (some ((⟨b5, 0, none⟩ : Addr).add 6))) rfl (V_fieldAddrN (B := ⟨b5, 0, none⟩) (m := 0) (o := 6) Try.underlying83 rfl nz70 rfl rfl) ?_)
                refine RA_yesB rfl rfl rfl rfl (bno h30) (OA_r rfl (VR_loadA_blk (b := b5) (m := 6) (k := 0) (vs := [.int .i64 a0.f4.f0, .int .i64 a0.f4.f1, .bool a0.f4.f2, .bool a0.f4.f3, .bool a0.f4.f4, .bool a0.f4.f5, .bool a0.f4.f6, .bool a0.f4.f7, .bool a0.f4.f8, .bool a0.f4.f9]) Try.underlying70 rfl sz70 rfl rfl rfl) ?_)
                obtain ⟨r31, C32, H⟩ := g_bind H
                refine RA_yesB rfl rfl rfl rfl (bno h30) (OA_callA [] [0, 1, 2, 3, 4, 5] rfl (X_fn (vs := [.agg #[.int .i64 a0.f4.f0, .int .i64 a0.f4.f1, .bool a0.f4.f2, .bool a0.f4.f3, .bool a0.f4.f4, .bool a0.f4.f5, .bool a0.f4.f6, .bool a0.f4.f7, .bool a0.f4.f8, .bool a0.f4.f9]]) Try.func89 nm89 rfl rfl) rfl (F89.ok (a0 := a0.f4) C32) rfl ?_)
                rintro _ _ ⟨rfl, rfl⟩
                refine RA_yesB rfl rfl rfl rfl (bno h30) (OA_v (v := .bool (!r31)) rfl (V_not rfl) ?_)
                refine RA_step rfl (OA_v rfl (V_pickF rfl (bno h30) rfl) ?_)
                have hr_ := Option.some.inj H
                subst hr_
                refine RA_nil ?_
                exact at_normal (St.mk1 (aeq rfl (aeq rfl (aeq rfl aeq0))) (Gh.sel [0, 1, 2, 3, 4, 5] rfl rfl))
            · rintro e ds As hst33
              clear H
              have H := Bq29
              clear Bq29
              refine RA.of_St rfl hst33 fun junk => ?_
              refine RA_step rfl (OA_v (v := .bool q29) rfl (V_move rfl) ?_)
              obtain ⟨q34, H, Bq34⟩ := g_bind H
              refine RA_cut 6 (fun e ds As => St [(1, .pointer (some ⟨b5, 0, none⟩)), (3, .pointer (some ⟨b7, 0, none⟩)), (67, .bool q34)] [Blk b5 83 (.int .i64 a0.f0.f0 :: .int .i64 a0.f0.f1 :: .slice A0_0 a0.f0.f2.length c0_0 :: .int .i64 a0.f1 :: .int .i64 a0.f2 :: .bool a0.f3 :: .int .i64 a0.f4.f0 :: .int .i64 a0.f4.f1 :: .bool a0.f4.f2 :: .bool a0.f4.f3 :: .bool a0.f4.f4 :: .bool a0.f4.f5 :: .bool a0.f4.f6 :: .bool a0.f4.f7 :: .bool a0.f4.f8 :: .bool a0.f4.f9 :: .int .i64 a0.f5 :: .int .i64 a0.f6 :: .slice A0_1 a0.f7.length c0_1 :: .bool a0.f8 :: .bool a0.f9 :: .bool a0.f10 :: .bool a0.f11 :: .bool a0.f12 :: .bool a0.f13 :: .int .i64 a0.f14.f0 :: .int .i64 a0.f14.f1 :: .bool a0.f14.f2 :: .bool a0.f14.f3 :: .int .i64 a0.f14.f4.f0 :: .int .i64 a0.f14.f4.f1 :: .bool a0.f14.f4.f2 :: .bool a0.f14.f4.f3 :: .bool a0.f14.f4.f4 :: .bool a0.f14.f4.f5 :: .bool a0.f14.f4.f6 :: .bool a0.f14.f4.f7 :: .bool a0.f14.f4.f8 :: .bool a0.f14.f4.f9 :: .bool a0.f15 :: .int .i64 a0.f16.f0 :: .int .i64 a0.f16.f1 :: .slice A0_2 a0.f16.f2.length c0_2 :: .slice A0_3 a0.f17.length c0_3 :: []), Ro k76 A0_0 c0_0 a0.f0.f2, Ro (Kd.int .i64) A0_1 c0_1 a0.f7, Ro k76 A0_2 c0_2 a0.f16.f2, Ro (Kd.int .i32) A0_3 c0_3 a0.f17, Blk b7 67 [.int .i64 a0.f0.f0, .int .i64 a0.f0.f1, .slice A0_0 a0.f0.f2.length c0_0]] e ds As) ?_ ?_
              · by_cases h35 : q29 = true
                · replace H := g_ift h35 H
                  refine RA_noB rfl rfl rfl rfl (h35) rfl ?_
                  refine RA_noB rfl rfl rfl rfl (h35) rfl ?_
                  refine RA_noB rfl rfl rfl rfl (h35) rfl ?_
                  refine RA_noB rfl rfl rfl rfl (h35) rfl ?_
                  refine RA_noB rfl rfl rfl rfl (h35) rfl ?_
                  refine RA_step rfl (OA_v rfl (V_pickT rfl (h35) rfl) ?_)
                  have hr_ := Option.some.inj H
                  subst hr_
                  refine RA_nil ?_
                  exact at_normal (St.mk1 (aeq rfl (aeq rfl (aeq rfl aeq0))) (Gh.sel [0, 1, 2, 3, 4, 5] rfl rfl))
                · replace H := g_iff h35 H
                  refine RA_yesB rfl rfl rfl rfl (bno h35) (OA_v (v := .pointer (some ((⟨b5, 0, none⟩ : Addr).add 25))) rfl (V_fieldAddrN (B := ⟨b5, 0, none⟩) (m := 0) (o := 25) Try.underlying83 rfl nz80 rfl rfl) ?_)
                  refine RA_yesB rfl rfl rfl rfl (bno h35) (OA_v (v := .pointer (some ((⟨b5, 0, none⟩ : Addr).add 29))) rfl (V_fieldAddrN (B := ⟨b5, 0, none⟩) (m := 25) (o := 29) Try.underlying80 rfl nz70 rfl rfl) ?_)
                  refine RA_yesB rfl rfl rfl rfl (bno h35) (OA_r rfl (VR_loadA_blk (b := b5) (m := 29) (k := 0) (vs := [.int .i64 a0.f14.f4.f0, .int .i64 a0.f14.f4.f1, .bool a0.f14.f4.f2, .bool a0.f14.f4.f3, .bool a0.f14.f4.f4, .bool a0.f14.f4.f5, .bool a0.f14.f4.f6, .bool a0.f14.f4.f7, .bool a0.f14.f4.f8, .bool a0.f14.f4.f9]) Try.underlying70 rfl sz70 rfl rfl rfl) ?_)
                  obtain ⟨r36, C37, H⟩ := g_bind H
                  refine RA_yesB rfl rfl rfl rfl (bno h35) (OA_callA [] [0, 1, 2, 3, 4, 5] rfl (X_fn (vs := [.agg #[.int .i64 a0.f14.f4.f0, .int .i64 a0.f14.f4.f1, .bool a0.f14.f4.f2, .bool a0.f14.f4.f3, .bool a0.f14.f4.f4, .bool a0.f14.f4.f5, .bool a0.f14.f4.f6, .bool a0.f14.f4.f7, .bool a0.f14.f4.f8, .bool a0.f14.f4.f9]]) Try.func89 nm89 rfl rfl) rfl (F89.ok (a0 := a0.f14.f4) C37) rfl ?_)
                  rintro _ _ ⟨rfl, rfl⟩
                  refine RA_yesB rfl rfl rfl rfl (bno h35) (OA_v (v := .bool (!r36)) rfl (V_not rfl) ?_)
                  refine RA_step rfl (OA_v rfl (V_pickF rfl (bno h35) rfl) ?_)
                  have hr_ := Option.some.inj H
                  subst hr_
                  refine RA_nil ?_
                  exact at_normal (St.mk1 (aeq rfl (aeq rfl (aeq rfl aeq0))) (Gh.sel [0, 1, 2, 3, 4, 5] rfl rfl))
              · rintro e ds As hst38
                clear H
                have H := Bq34
                clear Bq34
                refine RA_nil ?_
                refine at_normal ?_
                refine SA.of_St hst38 fun junk => ?_
                by_cases h39 : q34 = true
                · replace H := g_ift h39 H
                  refine SA_condTb rfl h39 ?_
                  refine SA_seq ?_
                  refine SA_region ?_
                  refine RA_step rfl (OA_v (v := .bool false) rfl (V_assign rfl) ?_)
                  refine RA_nil ?_
                  refine at_normal ?_
                  refine SA_ret ?_
                  refine thn_ret ?_
                  have hr_ := Option.some.inj H
                  subst hr_
                  exact BQ_R1 [] rfl rfl (Gh.sel [] rfl rfl) ⟨rfl, rfl⟩
                · replace H := g_iff h39 H
                  refine SA_condFb rfl h39 ?_
                  refine SA_skip ?_
                  refine at_normal ?_
                  refine SA_seq ?_
                  refine SA_seq ?_
                  refine SA_region ?_
                  refine RA_step rfl (OA_v (v := .int .i64 0) rfl (V_assign rfl) ?_)
                  refine RA_nil ?_
                  refine at_normal ?_
                  obtain ⟨t40, H, Bt40⟩ := g_bind H
                  refine SA_mid (fun e ds As => ∃ (s41 : Unit), t40 = Out.go s41 ∧ St [(1, .pointer (some ⟨b5, 0, none⟩)), (3, .pointer (some ⟨b7, 0, none⟩))] [Blk b5 83 (.int .i64 a0.f0.f0 :: .int .i64 a0.f0.f1 :: .slice A0_0 a0.f0.f2.length c0_0 :: .int .i64 a0.f1 :: .int .i64 a0.f2 :: .bool a0.f3 :: .int .i64 a0.f4.f0 :: .int .i64 a0.f4.f1 :: .bool a0.f4.f2 :: .bool a0.f4.f3 :: .bool a0.f4.f4 :: .bool a0.f4.f5 :: .bool a0.f4.f6 :: .bool a0.f4.f7 :: .bool a0.f4.f8 :: .bool a0.f4.f9 :: .int .i64 a0.f5 :: .int .i64 a0.f6 :: .slice A0_1 a0.f7.length c0_1 :: .bool a0.f8 :: .bool a0.f9 :: .bool a0.f10 :: .bool a0.f11 :: .bool a0.f12 :: .bool a0.f13 :: .int .i64 a0.f14.f0 :: .int .i64 a0.f14.f1 :: .bool a0.f14.f2 :: .bool a0.f14.f3 :: .int .i64 a0.f14.f4.f0 :: .int .i64 a0.f14.f4.f1 :: .bool a0.f14.f4.f2 :: .bool a0.f14.f4.f3 :: .bool a0.f14.f4.f4 :: .bool a0.f14.f4.f5 :: .bool a0.f14.f4.f6 :: .bool a0.f14.f4.f7 :: .bool a0.f14.f4.f8 :: .bool a0.f14.f4.f9 :: .bool a0.f15 :: .int .i64 a0.f16.f0 :: .int .i64 a0.f16.f1 :: .slice A0_2 a0.f16.f2.length c0_2 :: .slice A0_3 a0.f17.length c0_3 :: []), Ro k76 A0_0 c0_0 a0.f0.f2, Ro (Kd.int .i64) A0_1 c0_1 a0.f7, Ro k76 A0_2 c0_2 a0.f16.f2, Ro (Kd.int .i32) A0_3 c0_3 a0.f17, Blk b7 67 [.int .i64 a0.f0.f0, .int .i64 a0.f0.f1, .slice A0_0 a0.f0.f2.length c0_0]] e ds As) ?_ ?_
                  · refine SA_block ?_
                    refine SA_loop (fun k_ e ds As => ∃ (x4_41 : Int), F75.l0 a0 k_ x4_41 = some t40 ∧ St [(1, .pointer (some ⟨b5, 0, none⟩)), (3, .pointer (some ⟨b7, 0, none⟩)), (4, .int .i64 x4_41)] [Blk b5 83 (.int .i64 a0.f0.f0 :: .int .i64 a0.f0.f1 :: .slice A0_0 a0.f0.f2.length c0_0 :: .int .i64 a0.f1 :: .int .i64 a0.f2 :: .bool a0.f3 :: .int .i64 a0.f4.f0 :: .int .i64 a0.f4.f1 :: .bool a0.f4.f2 :: .bool a0.f4.f3 :: .bool a0.f4.f4 :: .bool a0.f4.f5 :: .bool a0.f4.f6 :: .bool a0.f4.f7 :: .bool a0.f4.f8 :: .bool a0.f4.f9 :: .int .i64 a0.f5 :: .int .i64 a0.f6 :: .slice A0_1 a0.f7.length c0_1 :: .bool a0.f8 :: .bool a0.f9 :: .bool a0.f10 :: .bool a0.f11 :: .bool a0.f12 :: .bool a0.f13 :: .int .i64 a0.f14.f0 :: .int .i64 a0.f14.f1 :: .bool a0.f14.f2 :: .bool a0.f14.f3 :: .int .i64 a0.f14.f4.f0 :: .int .i64 a0.f14.f4.f1 :: .bool a0.f14.f4.f2 :: .bool a0.f14.f4.f3 :: .bool a0.f14.f4.f4 :: .bool a0.f14.f4.f5 :: .bool a0.f14.f4.f6 :: .bool a0.f14.f4.f7 :: .bool a0.f14.f4.f8 :: .bool a0.f14.f4.f9 :: .bool a0.f15 :: .int .i64 a0.f16.f0 :: .int .i64 a0.f16.f1 :: .slice A0_2 a0.f16.f2.length c0_2 :: .slice A0_3 a0.f17.length c0_3 :: []), Ro k76 A0_0 c0_0 a0.f0.f2, Ro (Kd.int .i64) A0_1 c0_1 a0.f7, Ro k76 A0_2 c0_2 a0.f16.f2, Ro (Kd.int .i32) A0_3 c0_3 a0.f17, Blk b7 67 [.int .i64 a0.f0.f0, .int .i64 a0.f0.f1, .slice A0_0 a0.f0.f2.length c0_0]] e ds As) (k := k) ⟨_, H, St.mk1 (aeq rfl (aeq rfl (aeq rfl aeq0))) (Gh.sel [0, 1, 2, 3, 4, 5] rfl rfl)⟩ ?_
                    clear H
                    rintro k42 e ds As ⟨x4_41, H, hst43⟩
                    obtain _ | k42 := k42
                    · cases H
                    rw [F75.l0] at H
                    refine SA.of_St hst43 fun junk => ?_
                    refine SA_seq ?_
                    refine SA_seq ?_
                    refine SA_region ?_
                    refine RA_step rfl (OA_v (v := .int .i64 x4_41) rfl (V_move rfl) ?_)
                    refine RA_step rfl (OA_v (v := .pointer (some ((⟨b5, 0, none⟩ : Addr).add 18))) rfl (V_fieldAddrN (B := ⟨b5, 0, none⟩) (m := 0) (o := 18) Try.underlying83 rfl nz78 rfl rfl) ?_)
                    refine RA_step rfl (OA_r rfl (VR_load_blk (b := b5) (m := 18) (k := 0) Try.underlying78 rfl rfl rfl rfl) ?_)
                    refine RA_step rfl (OA_v (v := .int .i64 (a0.f7.length : Int)) rfl (V_len Try.underlying78 rfl) ?_)
                    refine RA_step rfl (OA_v (v := .bool (decide (x4_41 < (a0.f7.length : Int)))) rfl (V_lss rfl rfl) ?_)
                    refine RA_nil ?_
                    refine at_normal ?_
                    by_cases h44 : x4_41 < (a0.f7.length : Int)
                    · replace H := g_ift h44 H
                      refine SA_condT rfl h44 ?_
                      refine SA_skip ?_
                      refine at_normal ?_
                      refine SA_seq ?_
                      refine SA_block ?_
                      refine SA_seq ?_
                      obtain ⟨t45, H, Bt45⟩ := g_bind H
                      refine SA_mid (fun e ds As => St [(1, .pointer (some ⟨b5, 0, none⟩)), (3, .pointer (some ⟨b7, 0, none⟩)), (4, .int .i64 x4_41), (108, .bool t45)] [Blk b5 83 (.int .i64 a0.f0.f0 :: .int .i64 a0.f0.f1 :: .slice A0_0 a0.f0.f2.length c0_0 :: .int .i64 a0.f1 :: .int .i64 a0.f2 :: .bool a0.f3 :: .int .i64 a0.f4.f0 :: .int .i64 a0.f4.f1 :: .bool a0.f4.f2 :: .bool a0.f4.f3 :: .bool a0.f4.f4 :: .bool a0.f4.f5 :: .bool a0.f4.f6 :: .bool a0.f4.f7 :: .bool a0.f4.f8 :: .bool a0.f4.f9 :: .int .i64 a0.f5 :: .int .i64 a0.f6 :: .slice A0_1 a0.f7.length c0_1 :: .bool a0.f8 :: .bool a0.f9 :: .bool a0.f10 :: .bool a0.f11 :: .bool a0.f12 :: .bool a0.f13 :: .int .i64 a0.f14.f0 :: .int .i64 a0.f14.f1 :: .bool a0.f14.f2 :: .bool a0.f14.f3 :: .int .i64 a0.f14.f4.f0 :: .int .i64 a0.f14.f4.f1 :: .bool a0.f14.f4.f2 :: .bool a0.f14.f4.f3 :: .bool a0.f14.f4.f4 :: .bool a0.f14.f4.f5 :: .bool a0.f14.f4.f6 :: .bool a0.f14.f4.f7 :: .bool a0.f14.f4.f8 :: .bool a0.f14.f4.f9 :: .bool a0.f15 :: .int .i64 a0.f16.f0 :: .int .i64 a0.f16.f1 :: .slice A0_2 a0.f16.f2.length c0_2 :: .slice A0_3 a0.f17.length c0_3 :: []), Ro k76 A0_0 c0_0 a0.f0.f2, Ro (Kd.int .i64) A0_1 c0_1 a0.f7, Ro k76 A0_2 c0_2 a0.f16.f2, Ro (Kd.int .i32) A0_3 c0_3 a0.f17, Blk b7 67 [.int .i64 a0.f0.f0, .int .i64 a0.f0.f1, .slice A0_0 a0.f0.f2.length c0_0]] e ds As) ?_ ?_
                      · refine SA_drawH (0 :: 1 :: 2 :: 3 :: 4 :: 5 :: 6 :: 7 :: 8 :: 9 :: 10 :: 11 :: 12 :: 13 :: 14 :: 15 :: 16 :: 17 :: 18 :: 19 :: 20 :: 21 :: 22 :: 23 :: 24 :: 25 :: 26 :: 27 :: 28 :: 29 :: 30 :: 31 :: 32 :: 33 :: []) (List.toArray ([] :: [0] :: [] :: [0, 1, 2] :: [0, 1, 2, 3] :: [0, 1, 2, 3, 4] :: [0, 1, 2, 3, 4, 5] :: [0, 1, 2, 3, 4, 5, 6] :: [0, 1, 2, 3, 4, 5, 6, 7] :: [0, 1, 2, 3, 4, 5, 6] :: [0, 1, 2, 3, 4, 5, 6, 7, 8, 9] :: [0, 1, 2, 3, 4, 5, 6, 7, 8, 9, 10] :: [0, 1, 2, 3, 4, 5, 6] :: [0, 1, 2, 3, 4, 5, 6, 12] :: (0 :: 1 :: 2 :: 3 :: 4 :: 5 :: 6 :: 7 :: 8 :: 9 :: 10 :: 11 :: 12 :: 13 :: []) :: (0 :: 1 :: 2 :: 3 :: 4 :: 5 :: 6 :: 7 :: 8 :: 9 :: 10 :: 11 :: 12 :: 13 :: 14 :: []) :: (0 :: 1 :: 2 :: 3 :: 4 :: 5 :: 6 :: 7 :: 8 :: 9 :: 10 :: 11 :: 12 :: 13 :: 14 :: 15 :: []) :: (0 :: 1 :: 2 :: 3 :: 4 :: 5 :: 6 :: 7 :: 8 :: 9 :: 10 :: 11 :: 12 :: 13 :: 14 :: 15 :: 16 :: []) :: (0 :: 1 :: 2 :: 3 :: 4 :: 5 :: 6 :: 7 :: 8 :: 9 :: 10 :: 11 :: 12 :: 13 :: 14 :: 15 :: 16 :: 17 :: []) :: (0 :: 1 :: 2 :: 3 :: 4 :: 5 :: 6 :: 7 :: 8 :: 9 :: 10 :: 11 :: 12 :: 13 :: 14 :: 15 :: 16 :: 17 :: 18 :: []) :: (0 :: 1 :: 2 :: 3 :: 4 :: 5 :: 6 :: 7 :: 8 :: 9 :: 10 :: 11 :: 12 :: 13 :: 14 :: 15 :: 16 :: 17 :: 18 :: 19 :: []) :: (0 :: 1 :: 2 :: 3 :: 4 :: 5 :: 6 :: 7 :: 8 :: 9 :: 10 :: 11 :: 12 :: 13 :: 14 :: 15 :: 16 :: 17 :: 18 :: 19 :: 20 :: []) :: (0 :: 1 :: 2 :: 3 :: 4 :: 5 :: 6 :: 7 :: 8 :: 9 :: 10 :: 11 :: 12 :: 13 :: 14 :: 15 :: 16 :: 17 :: 18 :: 19 :: []) :: (0 :: 1 :: 2 :: 3 :: 4 :: 5 :: 6 :: 7 :: 8 :: 9 :: 10 :: 11 :: 12 :: 13 :: 14 :: 15 :: 16 :: 17 :: 18 :: 19 :: 20 :: 21 :: 22 :: []) :: (0 :: 1 :: 2 :: 3 :: 4 :: 5 :: 6 :: 7 :: 8 :: 9 :: 10 :: 11 :: 12 :: 13 :: 14 :: 15 :: 16 :: 17 :: 18 :: 19 :: 20 :: 21 :: 22 :: 23 :: []) :: (0 :: 1 :: 2 :: 3 :: 4 :: 5 :: 6 :: 7 :: 8 :: 9 :: 10 :: 11 :: 12 :: 13 :: 14 :: 15 :: 16 :: 17 :: 18 :: 19 :: []) :: (0 :: 1 :: 2 :: 3 :: 4 :: 5 :: 6 :: 7 :: 8 :: 9 :: 10 :: 11 :: 12 :: 13 :: 14 :: 15 :: 16 :: 17 :: 18 :: 19 :: 25 :: []) :: (0 :: 1 :: 2 :: 3 :: 4 :: 5 :: 6 :: 7 :: 8 :: 9 :: 10 :: 11 :: 12 :: 13 :: 14 :: 15 :: 16 :: 17 :: 18 :: 19 :: []) :: (0 :: 1 :: 2 :: 3 :: 4 :: 5 :: 6 :: 7 :: 8 :: 9 :: 10 :: 11 :: 12 :: 13 :: 14 :: 15 :: 16 :: 17 :: 18 :: 19 :: 27 :: []) :: (0 :: 1 :: 2 :: 3 :: 4 :: 5 :: 6 :: 7 :: 8 :: 9 :: 10 :: 11 :: 12 :: 13 :: 14 :: 15 :: 16 :: 17 :: 18 :: 19 :: 25 :: 26 :: 27 :: 28 :: []) :: (0 :: 1 :: 2 :: 3 :: 4 :: 5 :: 6 :: 7 :: 8 :: 9 :: 10 :: 11 :: 12 :: 13 :: 14 :: 15 :: 16 :: 17 :: 18 :: 19 :: 25 :: 26 :: 27 :: 28 :: 29 :: []) :: (0 :: 1 :: 2 :: 3 :: 4 :: 5 :: 6 :: 7 :: 8 :: 9 :: 10 :: 11 :: 12 :: 13 :: 14 :: 15 :: 16 :: 17 :: 18 :: 19 :: 20 :: 21 :: 22 :: 23 :: 24 :: 25 :: 26 :: 27 :: 28 :: 29 :: 30 :: []) :: (0 :: 1 :: 2 :: 3 :: 4 :: 5 :: 6 :: 7 :: 8 :: 9 :: 10 :: 11 :: 12 :: 13 :: 14 :: 15 :: 16 :: 17 :: 18 :: 19 :: 20 :: 21 :: 22 :: 23 :: 24 :: 25 :: 26 :: 27 :: 28 :: 29 :: 30 :: 31 :: []) :: (0 :: 1 :: 2 :: 3 :: 4 :: 5 :: 6 :: 7 :: 8 :: 9 :: 10 :: 11 :: 12 :: 13 :: 14 :: 15 :: 16 :: 17 :: 18 :: 19 :: 20 :: 21 :: 22 :: 23 :: 24 :: 25 :: 26 :: 27 :: 28 :: 29 :: 30 :: 31 :: 32 :: []) :: [])) [0, 1, 2, 3, 4, 5] [1, 2, 3, 4] mixed rfl rfl rfl fun I0 hS h0 hh0 w0 sH dd => ?_
                        refine DH_take (v := .pointer (some ((⟨b5, 0, none⟩ : Addr).add 18))) 0 (by kernel_rfl) rfl rfl (.no rfl) (PanOk.thn (PanOk.thn (PanOk.inb (PanOk.thn (PanOk.thn (PanOk.inb (PanOk.thn (PanOk.thn PanOk.body)))))))) sH rfl (VR.ofV (V_fieldAddrN (B := ⟨b5, 0, none⟩) (m := 0) (o := 18) Try.underlying83 rfl nz78 rfl rfl)) ?_
                        refine DH_take 1 (by kernel_rfl) rfl rfl (.no rfl) (PanOk.thn (PanOk.thn (PanOk.inb (PanOk.thn (PanOk.thn (PanOk.inb (PanOk.thn (PanOk.thn PanOk.body)))))))) sH rfl (VR_load_blk (b := b5) (m := 18) (k := 0) Try.underlying78 rfl rfl rfl rfl) ?_
                        refine DH_take (v := .int .i64 x4_41) 2 (by kernel_rfl) rfl rfl (.no rfl) (PanOk.thn (PanOk.thn (PanOk.inb (PanOk.thn (PanOk.thn (PanOk.inb (PanOk.thn (PanOk.thn PanOk.body)))))))) sH rfl (VR.ofV (V_move rfl)) ?_
                        obtain ⟨⟨g226, g227⟩, H⟩ := g_pos H
                        refine DH_take 3 (by kernel_rfl) rfl rfl (.no rfl) (PanOk.thn (PanOk.thn (PanOk.inb (PanOk.thn (PanOk.thn (PanOk.inb (PanOk.thn (PanOk.thn PanOk.body)))))))) sH rfl (VR_index (i := x4_41) Try.underlying78 sz3 rfl rfl (Src.ro (k := 2) rfl) g226 g227) ?_
                        refine DH_take 4 (by kernel_rfl) rfl rfl (.no rfl) (PanOk.thn (PanOk.thn (PanOk.inb (PanOk.thn (PanOk.thn (PanOk.inb (PanOk.thn (PanOk.thn PanOk.body)))))))) sH rfl (VR_load_el (enc := (fun x_ : Int => [Value.int .i64 x_])) (i := x4_41) (j := x4_41.toNat * 1) (m := 0) (sz := 1) Try.underlying3 rfl rfl rfl rfl (Src.ro (k := 2) rfl) g226 g227 (fun _ _ h => h) rfl) ?_
                        refine DH_take (v := .bool (decide ((rd a0.f7 x4_41) < 0))) 5 (by kernel_rfl) rfl rfl (.no rfl) (PanOk.thn (PanOk.thn (PanOk.inb (PanOk.thn (PanOk.thn (PanOk.inb (PanOk.thn (PanOk.thn PanOk.body)))))))) sH rfl (VR.ofV (V_lss rfl rfl)) ?_
                        refine DH_take (v := .bool (decide ((rd a0.f7 x4_41) < 0))) 6 (by kernel_rfl) rfl rfl (.no rfl) (PanOk.thn (PanOk.thn (PanOk.inb (PanOk.thn (PanOk.thn (PanOk.inb (PanOk.thn (PanOk.thn PanOk.body)))))))) sH rfl (VR.ofV (V_move rfl)) ?_
                        by_cases h2087 : (rd a0.f7 x4_41) < 0
                        · replace H := g_ift h2087 H
                          refine DH_skip 7 (by kernel_rfl) rfl rfl (.no rfl rfl rfl rfl (dec_t h2087)) (PanOk.thn (PanOk.thn (PanOk.inb (PanOk.thn (PanOk.thn (PanOk.inb (PanOk.thn (PanOk.thn PanOk.body)))))))) rfl ?_
                          refine DH_skip 8 (by kernel_rfl) rfl rfl (.no rfl rfl rfl rfl (dec_t h2087)) (PanOk.thn (PanOk.thn (PanOk.inb (PanOk.thn (PanOk.thn (PanOk.inb (PanOk.thn (PanOk.thn PanOk.body)))))))) rfl ?_
                          refine DH_skip 9 (by kernel_rfl) rfl rfl (.no rfl rfl rfl rfl (dec_t h2087)) (PanOk.thn (PanOk.thn (PanOk.inb (PanOk.thn (PanOk.thn (PanOk.inb (PanOk.thn (PanOk.thn PanOk.body)))))))) rfl ?_
                          refine DH_skip 10 (by kernel_rfl) rfl rfl (.no rfl rfl rfl rfl (dec_t h2087)) (PanOk.thn (PanOk.thn (PanOk.inb (PanOk.thn (PanOk.thn (PanOk.inb (PanOk.thn (PanOk.thn PanOk.body)))))))) rfl ?_
                          refine DH_skip 11 (by kernel_rfl) rfl rfl (.no rfl rfl rfl rfl (dec_t h2087)) (PanOk.thn (PanOk.thn (PanOk.inb (PanOk.thn (PanOk.thn (PanOk.inb (PanOk.thn (PanOk.thn PanOk.body)))))))) rfl ?_
                          refine DH_skip 12 (by kernel_rfl) rfl rfl (.no rfl rfl rfl rfl (dec_t h2087)) (PanOk.thn (PanOk.thn (PanOk.inb (PanOk.thn (PanOk.thn (PanOk.inb (PanOk.thn (PanOk.thn PanOk.body)))))))) rfl ?_
                          refine DH_skip 13 (by kernel_rfl) rfl rfl (.no rfl rfl rfl rfl (dec_t h2087)) (PanOk.thn (PanOk.thn (PanOk.inb (PanOk.thn (PanOk.thn (PanOk.inb (PanOk.thn (PanOk.thn PanOk.body)))))))) rfl ?_
                          refine DH_skip 14 (by kernel_rfl) rfl rfl (.no rfl rfl rfl rfl (dec_t h2087)) (PanOk.thn (PanOk.thn (PanOk.inb (PanOk.thn (PanOk.thn (PanOk.inb (PanOk.thn (PanOk.thn PanOk.body)))))))) rfl ?_
                          refine DH_take 15 (by kernel_rfl) rfl rfl (.no rfl) (PanOk.thn (PanOk.thn (PanOk.inb (PanOk.thn (PanOk.thn (PanOk.inb (PanOk.thn (PanOk.thn PanOk.body)))))))) sH rfl (VR.ofV (V_pickT rfl (dec_t h2087) rfl)) ?_
                          refine DH_take (v := .bool true) 16 (by kernel_rfl) rfl rfl (.no rfl) (PanOk.thn (PanOk.thn (PanOk.inb (PanOk.thn (PanOk.thn (PanOk.inb (PanOk.thn (PanOk.thn PanOk.body)))))))) sH rfl (VR.ofV (V_move rfl)) ?_
                          by_cases h2088 : true = true
                          · replace H := g_ift h2088 H
                            refine DH_skip 17 (by kernel_rfl) rfl rfl (.no rfl rfl rfl rfl (h2088)) (PanOk.thn (PanOk.thn (PanOk.inb (PanOk.thn (PanOk.thn (PanOk.inb (PanOk.thn (PanOk.thn PanOk.body)))))))) rfl ?_
                            refine DH_skip 18 (by kernel_rfl) rfl rfl (.no rfl rfl rfl rfl (h2088)) (PanOk.thn (PanOk.thn (PanOk.inb (PanOk.thn (PanOk.thn (PanOk.inb (PanOk.thn (PanOk.thn PanOk.body)))))))) rfl ?_
                            refine DH_skip 19 (by kernel_rfl) rfl rfl (.no rfl rfl rfl rfl (h2088)) (PanOk.thn (PanOk.thn (PanOk.inb (PanOk.thn (PanOk.thn (PanOk.inb (PanOk.thn (PanOk.thn PanOk.body)))))))) rfl ?_
                            refine DH_skip 20 (by kernel_rfl) rfl rfl (.un rfl rfl rfl rfl) (PanOk.thn (PanOk.thn (PanOk.inb (PanOk.thn (PanOk.thn (PanOk.inb (PanOk.thn (PanOk.thn PanOk.body)))))))) rfl ?_
                            refine DH_skip 21 (by kernel_rfl) rfl rfl (.un rfl rfl rfl rfl) (PanOk.thn (PanOk.thn (PanOk.inb (PanOk.thn (PanOk.thn (PanOk.inb (PanOk.thn (PanOk.thn PanOk.body)))))))) rfl ?_
                            refine DH_skip 22 (by kernel_rfl) rfl rfl (.un rfl rfl rfl rfl) (PanOk.thn (PanOk.thn (PanOk.inb (PanOk.thn (PanOk.thn (PanOk.inb (PanOk.thn (PanOk.thn PanOk.body)))))))) rfl ?_
                            refine DH_skip 23 (by kernel_rfl) rfl rfl (.un rfl rfl rfl rfl) (PanOk.thn (PanOk.thn (PanOk.inb (PanOk.thn (PanOk.thn (PanOk.inb (PanOk.thn (PanOk.thn PanOk.body)))))))) rfl ?_
                            refine DH_skip 24 (by kernel_rfl) rfl rfl (.un rfl rfl rfl rfl) (PanOk.thn (PanOk.thn (PanOk.inb (PanOk.thn (PanOk.thn (PanOk.inb (PanOk.thn (PanOk.thn PanOk.body)))))))) rfl ?_
                            refine DH_skip 25 (by kernel_rfl) rfl rfl (.un rfl rfl rfl rfl) (PanOk.thn (PanOk.thn (PanOk.inb (PanOk.thn (PanOk.thn (PanOk.inb (PanOk.thn (PanOk.thn PanOk.body)))))))) rfl ?_
                            refine DH_skip 26 (by kernel_rfl) rfl rfl (.un rfl rfl rfl rfl) (PanOk.thn (PanOk.thn (PanOk.inb (PanOk.thn (PanOk.thn (PanOk.inb (PanOk.thn (PanOk.thn PanOk.body)))))))) rfl ?_
                            refine DH_skip 27 (by kernel_rfl) rfl rfl (.un rfl rfl rfl rfl) (PanOk.thn (PanOk.thn (PanOk.inb (PanOk.thn (PanOk.thn (PanOk.inb (PanOk.thn (PanOk.thn PanOk.body)))))))) rfl ?_
                            refine DH_skip 28 (by kernel_rfl) rfl rfl (.un rfl rfl rfl rfl) (PanOk.thn (PanOk.thn (PanOk.inb (PanOk.thn (PanOk.thn (PanOk.inb (PanOk.thn (PanOk.thn PanOk.body)))))))) rfl ?_
                            refine DH_skip 29 (by kernel_rfl) rfl rfl (.un rfl rfl rfl rfl) (PanOk.thn (PanOk.thn (PanOk.inb (PanOk.thn (PanOk.thn (PanOk.inb (PanOk.thn (PanOk.thn PanOk.body)))))))) rfl ?_
                            refine DH_skip 30 (by kernel_rfl) rfl rfl (.un rfl rfl rfl rfl) (PanOk.thn (PanOk.thn (PanOk.inb (PanOk.thn (PanOk.thn (PanOk.inb (PanOk.thn (PanOk.thn PanOk.body)))))))) rfl ?_
                            refine DH_skip 31 (by kernel_rfl) rfl rfl (.un rfl rfl rfl rfl) (PanOk.thn (PanOk.thn (PanOk.inb (PanOk.thn (PanOk.thn (PanOk.inb (PanOk.thn (PanOk.thn PanOk.body)))))))) rfl ?_
                            refine DH_skip 32 (by kernel_rfl) rfl rfl (.no rfl rfl rfl rfl (h2088)) (PanOk.thn (PanOk.thn (PanOk.inb (PanOk.thn (PanOk.thn (PanOk.inb (PanOk.thn (PanOk.thn PanOk.body)))))))) rfl ?_
                            refine DH_take 33 (by kernel_rfl) rfl rfl (.no rfl) (PanOk.thn (PanOk.thn (PanOk.inb (PanOk.thn (PanOk.thn (PanOk.inb (PanOk.thn (PanOk.thn PanOk.body)))))))) sH rfl (VR.ofV (V_pickT rfl (h2088) rfl)) ?_
                            refine DH_open dd sH ?_
                            refine DN_done (by kernel_rfl) ?_
                            have hr_ := Option.some.inj H
                            subst hr_
                            exact at_normal (St.mk1 (aeq rfl (aeq rfl (aeq rfl (aeq rfl aeq0)))) (Gh.sel [0, 1, 2, 3, 4, 5] rfl rfl))
                          · replace H := g_iff h2088 H
                            refine DH_take (v := .int .i64 x4_41) 17 (by kernel_rfl) rfl rfl (.yes rfl rfl rfl rfl (bno h2088)) (PanOk.thn (PanOk.thn (PanOk.inb (PanOk.thn (PanOk.thn (PanOk.inb (PanOk.thn (PanOk.thn PanOk.body)))))))) sH rfl (VR.ofV (V_move rfl)) ?_
                            refine DH_take (v := .bool (decide (x4_41 > 0))) 18 (by kernel_rfl) rfl rfl (.yes rfl rfl rfl rfl (bno h2088)) (PanOk.thn (PanOk.thn (PanOk.inb (PanOk.thn (PanOk.thn (PanOk.inb (PanOk.thn (PanOk.thn PanOk.body)))))))) sH rfl (VR.ofV (V_gtr rfl rfl)) ?_
                            refine DH_take (v := .bool (decide (x4_41 > 0))) 19 (by kernel_rfl) rfl rfl (.yes rfl rfl rfl rfl (bno h2088)) (PanOk.thn (PanOk.thn (PanOk.inb (PanOk.thn (PanOk.thn (PanOk.inb (PanOk.thn (PanOk.thn PanOk.body)))))))) sH rfl (VR.ofV (V_move rfl)) ?_
                            by_cases h2089 : x4_41 > 0
                            · replace H := g_ift h2089 H
                              refine DH_take (v := .pointer (some ((⟨b5, 0, none⟩ : Addr).add 18))) 20 (by kernel_rfl) rfl rfl (.yes rfl rfl rfl rfl (dec_t h2089)) (PanOk.thn (PanOk.thn (PanOk.inb (PanOk.thn (PanOk.thn (PanOk.inb (PanOk.thn (PanOk.thn PanOk.body)))))))) sH rfl (VR.ofV (V_fieldAddrN (B := ⟨b5, 0, none⟩) (m := 0) (o := 18) Try.underlying83 rfl nz78 rfl rfl)) ?_
                              refine DH_take 21 (by kernel_rfl) rfl rfl (.yes rfl rfl rfl rfl (dec_t h2089)) (PanOk.thn (PanOk.thn (PanOk.inb (PanOk.thn (PanOk.thn (PanOk.inb (PanOk.thn (PanOk.thn PanOk.body)))))))) sH rfl (VR_load_blk (b := b5) (m := 18) (k := 0) Try.underlying78 rfl rfl rfl rfl) ?_
                              refine DH_take (v := .int .i64 x4_41) 22 (by kernel_rfl) rfl rfl (.yes rfl rfl rfl rfl (dec_t h2089)) (PanOk.thn (PanOk.thn (PanOk.inb (PanOk.thn (PanOk.thn (PanOk.inb (PanOk.thn (PanOk.thn PanOk.body)))))))) sH rfl (VR.ofV (V_move rfl)) ?_
                              obtain ⟨⟨g1426, g1427⟩, H⟩ := g_pos H
                              refine DH_take 23 (by kernel_rfl) rfl rfl (.yes rfl rfl rfl rfl (dec_t h2089)) (PanOk.thn (PanOk.thn (PanOk.inb (PanOk.thn (PanOk.thn (PanOk.inb (PanOk.thn (PanOk.thn PanOk.body)))))))) sH rfl (VR_index (i := x4_41) Try.underlying78 sz3 rfl rfl (Src.ro (k := 2) rfl) g1426 g1427) ?_
                              refine DH_take 24 (by kernel_rfl) rfl rfl (.yes rfl rfl rfl rfl (dec_t h2089)) (PanOk.thn (PanOk.thn (PanOk.inb (PanOk.thn (PanOk.thn (PanOk.inb (PanOk.thn (PanOk.thn PanOk.body)))))))) sH rfl (VR_load_el (enc := (fun x_ : Int => [Value.int .i64 x_])) (i := x4_41) (j := x4_41.toNat * 1) (m := 0) (sz := 1) Try.underlying3 rfl rfl rfl rfl (Src.ro (k := 2) rfl) g1426 g1427 (fun _ _ h => h) rfl) ?_
                              refine DH_take (v := .pointer (some ((⟨b5, 0, none⟩ : Addr).add 18))) 25 (by kernel_rfl) rfl rfl (.yes rfl rfl rfl rfl (dec_t h2089)) (PanOk.thn (PanOk.thn (PanOk.inb (PanOk.thn (PanOk.thn (PanOk.inb (PanOk.thn (PanOk.thn PanOk.body)))))))) sH rfl (VR.ofV (V_fieldAddrN (B := ⟨b5, 0, none⟩) (m := 0) (o := 18) Try.underlying83 rfl nz78 rfl rfl)) ?_
                              refine DH_take 26 (by kernel_rfl) rfl rfl (.yes rfl rfl rfl rfl (dec_t h2089)) (PanOk.thn (PanOk.thn (PanOk.inb (PanOk.thn (PanOk.thn (PanOk.inb (PanOk.thn (PanOk.thn PanOk.body)))))))) sH rfl (VR_load_blk (b := b5) (m := 18) (k := 0) Try.underlying78 rfl rfl rfl rfl) ?_
                              refine DH_take (v := .int .i64 x4_41) 27 (by kernel_rfl) rfl rfl (.yes rfl rfl rfl rfl (dec_t h2089)) (PanOk.thn (PanOk.thn (PanOk.inb (PanOk.thn (PanOk.thn (PanOk.inb (PanOk.thn (PanOk.thn PanOk.body)))))))) sH rfl (VR.ofV (V_move rfl)) ?_
                              refine DH_take (v := .int .i64 (IntKind.i64.wrap (x4_41 - 1))) 28 (by kernel_rfl) rfl rfl (.yes rfl rfl rfl rfl (dec_t h2089)) (PanOk.thn (PanOk.thn (PanOk.inb (PanOk.thn (PanOk.thn (PanOk.inb (PanOk.thn (PanOk.thn PanOk.body)))))))) sH rfl (VR.ofV (V_sub rfl rfl)) ?_
                              obtain ⟨⟨g1786, g1787⟩, H⟩ := g_pos H
                              refine DH_take 29 (by kernel_rfl) rfl rfl (.yes rfl rfl rfl rfl (dec_t h2089)) (PanOk.thn (PanOk.thn (PanOk.inb (PanOk.thn (PanOk.thn (PanOk.inb (PanOk.thn (PanOk.thn PanOk.body)))))))) sH rfl (VR_index (i := IntKind.i64.wrap (x4_41 - 1)) Try.underlying78 sz3 rfl rfl (Src.ro (k := 2) rfl) g1786 g1787) ?_
                              refine DH_take 30 (by kernel_rfl) rfl rfl (.yes rfl rfl rfl rfl (dec_t h2089)) (PanOk.thn (PanOk.thn (PanOk.inb (PanOk.thn (PanOk.thn (PanOk.inb (PanOk.thn (PanOk.thn PanOk.body)))))))) sH rfl (VR_load_el (enc := (fun x_ : Int => [Value.int .i64 x_])) (i := IntKind.i64.wrap (x4_41 - 1)) (j := (IntKind.i64.wrap (x4_41 - 1)).toNat * 1) (m := 0) (sz := 1) Try.underlying3 rfl rfl rfl rfl (Src.ro (k := 2) rfl) g1786 g1787 (fun _ _ h => h) rfl) ?_
                              refine DH_take (v := .bool (decide ((rd a0.f7 x4_41) ≤ (rd a0.f7 (IntKind.i64.wrap (x4_41 - 1)))))) 31 (by kernel_rfl) rfl rfl (.yes rfl rfl rfl rfl (dec_t h2089)) (PanOk.thn (PanOk.thn (PanOk.inb (PanOk.thn (PanOk.thn (PanOk.inb (PanOk.thn (PanOk.thn PanOk.body)))))))) sH rfl (VR.ofV (V_leq rfl rfl)) ?_
                              refine DH_take 32 (by kernel_rfl) rfl rfl (.yes rfl rfl rfl rfl (bno h2088)) (PanOk.thn (PanOk.thn (PanOk.inb (PanOk.thn (PanOk.thn (PanOk.inb (PanOk.thn (PanOk.thn PanOk.body)))))))) sH rfl (VR.ofV (V_pickT rfl (dec_t h2089) rfl)) ?_
                              refine DH_take 33 (by kernel_rfl) rfl rfl (.no rfl) (PanOk.thn (PanOk.thn (PanOk.inb (PanOk.thn (PanOk.thn (PanOk.inb (PanOk.thn (PanOk.thn PanOk.body)))))))) sH rfl (VR.ofV (V_pickF rfl (bno h2088) rfl)) ?_
                              refine DH_open dd sH ?_
                              refine DN_done (by kernel_rfl) ?_
                              have hr_ := Option.some.inj H
                              subst hr_
                              exact at_normal (St.mk1 (aeq rfl (aeq rfl (aeq rfl (aeq rfl aeq0)))) (Gh.sel [0, 1, 2, 3, 4, 5] rfl rfl))
                            · replace H := g_iff h2089 H
                              refine DH_skip 20 (by kernel_rfl) rfl rfl (.no rfl rfl rfl rfl (dec_f h2089)) (PanOk.thn (PanOk.thn (PanOk.inb (PanOk.thn (PanOk.thn (PanOk.inb (PanOk.thn (PanOk.thn PanOk.body)))))))) rfl ?_
                              refine DH_skip 21 (by kernel_rfl) rfl rfl (.no rfl rfl rfl rfl (dec_f h2089)) (PanOk.thn (PanOk.thn (PanOk.inb (PanOk.thn (PanOk.thn (PanOk.inb (PanOk.thn (PanOk.thn PanOk.body)))))))) rfl ?_
                              refine DH_skip 22 (by kernel_rfl) rfl rfl (.no rfl rfl rfl rfl (dec_f h2089)) (PanOk.thn (PanOk.thn (PanOk.inb (PanOk.thn (PanOk.thn (PanOk.inb (PanOk.thn (PanOk.thn PanOk.body)))))))) rfl ?_
                              refine DH_skip 23 (by kernel_rfl) rfl rfl (.no rfl rfl rfl rfl (dec_f h2089)) (PanOk.thn (PanOk.thn (PanOk.inb (PanOk.thn (PanOk.thn (PanOk.inb (PanOk.thn (PanOk.thn PanOk.body)))))))) rfl ?_
                              refine DH_skip 24 (by kernel_rfl) rfl rfl (.no rfl rfl rfl rfl (dec_f h2089)) (PanOk.thn (PanOk.thn (PanOk.inb (PanOk.thn (PanOk.thn (PanOk.inb (PanOk.thn (PanOk.thn PanOk.body)))))))) rfl ?_
                              refine DH_skip 25 (by kernel_rfl) rfl rfl (.no rfl rfl rfl rfl (dec_f h2089)) (PanOk.thn (PanOk.thn (PanOk.inb (PanOk.thn (PanOk.thn (PanOk.inb (PanOk.thn (PanOk.thn PanOk.body)))))))) rfl ?_
                              refine DH_skip 26 (by kernel_rfl) rfl rfl (.no rfl rfl rfl rfl (dec_f h2089)) (PanOk.thn (PanOk.thn (PanOk.inb (PanOk.thn (PanOk.thn (PanOk.inb (PanOk.thn (PanOk.thn PanOk.body)))))))) rfl ?_
                              refine DH_skip 27 (by kernel_rfl) rfl rfl (.no rfl rfl rfl rfl (dec_f h2089)) (PanOk.thn (PanOk.thn (PanOk.inb (PanOk.thn (PanOk.thn (PanOk.inb (PanOk.thn (PanOk.thn PanOk.body)))))))) rfl ?_
                              refine DH_skip 28 (by kernel_rfl) rfl rfl (.no rfl rfl rfl rfl (dec_f h2089)) (PanOk.thn (PanOk.thn (PanOk.inb (PanOk.thn (PanOk.thn (PanOk.inb (PanOk.thn (PanOk.thn PanOk.body)))))))) rfl ?_
                              refine DH_skip 29 (by kernel_rfl) rfl rfl (.no rfl rfl rfl rfl (dec_f h2089)) (PanOk.thn (PanOk.thn (PanOk.inb (PanOk.thn (PanOk.thn (PanOk.inb (PanOk.thn (PanOk.thn PanOk.body)))))))) rfl ?_
                              refine DH_skip 30 (by kernel_rfl) rfl rfl (.no rfl rfl rfl rfl (dec_f h2089)) (PanOk.thn (PanOk.thn (PanOk.inb (PanOk.thn (PanOk.thn (PanOk.inb (PanOk.thn (PanOk.thn PanOk.body)))))))) rfl ?_
                              refine DH_skip 31 (by kernel_rfl) rfl rfl (.no rfl rfl rfl rfl (dec_f h2089)) (PanOk.thn (PanOk.thn (PanOk.inb (PanOk.thn (PanOk.thn (PanOk.inb (PanOk.thn (PanOk.thn PanOk.body)))))))) rfl ?_
                              refine DH_take 32 (by kernel_rfl) rfl rfl (.yes rfl rfl rfl rfl (bno h2088)) (PanOk.thn (PanOk.thn (PanOk.inb (PanOk.thn (PanOk.thn (PanOk.inb (PanOk.thn (PanOk.thn PanOk.body)))))))) sH rfl (VR.ofV (V_pickF rfl (dec_f h2089) rfl)) ?_
                              refine DH_take 33 (by kernel_rfl) rfl rfl (.no rfl) (PanOk.thn (PanOk.thn (PanOk.inb (PanOk.thn (PanOk.thn (PanOk.inb (PanOk.thn (PanOk.thn PanOk.body)))))))) sH rfl (VR.ofV (V_pickF rfl (bno h2088) rfl)) ?_
                              refine DH_open dd sH ?_
                              refine DN_done (by kernel_rfl) ?_
                              have hr_ := Option.some.inj H
                              subst hr_
                              exact at_normal (St.mk1 (aeq rfl (aeq rfl (aeq rfl (aeq rfl aeq0)))) (Gh.sel [0, 1, 2, 3, 4, 5] rfl rfl))
                        · replace H := g_iff h2087 H
                          refine DH_take (v := .pointer (some ((⟨b5, 0, none⟩ : Addr).add 18))) 7 (by kernel_rfl) rfl rfl (.yes rfl rfl rfl rfl (dec_f h2087)) (PanOk.thn (PanOk.thn (PanOk.inb (PanOk.thn (PanOk.thn (PanOk.inb (PanOk.thn (PanOk.thn PanOk.body)))))))) sH rfl (VR.ofV (V_fieldAddrN (B := ⟨b5, 0, none⟩) (m := 0) (o := 18) Try.underlying83 rfl nz78 rfl rfl)) ?_
                          refine DH_take 8 (by kernel_rfl) rfl rfl (.yes rfl rfl rfl rfl (dec_f h2087)) (PanOk.thn (PanOk.thn (PanOk.inb (PanOk.thn (PanOk.thn (PanOk.inb (PanOk.thn (PanOk.thn PanOk.body)))))))) sH rfl (VR_load_blk (b := b5) (m := 18) (k := 0) Try.underlying78 rfl rfl rfl rfl) ?_
                          refine DH_take (v := .int .i64 x4_41) 9 (by kernel_rfl) rfl rfl (.yes rfl rfl rfl rfl (dec_f h2087)) (PanOk.thn (PanOk.thn (PanOk.inb (PanOk.thn (PanOk.thn (PanOk.inb (PanOk.thn (PanOk.thn PanOk.body)))))))) sH rfl (VR.ofV (V_move rfl)) ?_
                          obtain ⟨⟨g646, g647⟩, H⟩ := g_pos H
                          refine DH_take 10 (by kernel_rfl) rfl rfl (.yes rfl rfl rfl rfl (dec_f h2087)) (PanOk.thn (PanOk.thn (PanOk.inb (PanOk.thn (PanOk.thn (PanOk.inb (PanOk.thn (PanOk.thn PanOk.body)))))))) sH rfl (VR_index (i := x4_41) Try.underlying78 sz3 rfl rfl (Src.ro (k := 2) rfl) g646 g647) ?_
                          refine DH_take 11 (by kernel_rfl) rfl rfl (.yes rfl rfl rfl rfl (dec_f h2087)) (PanOk.thn (PanOk.thn (PanOk.inb (PanOk.thn (PanOk.thn (PanOk.inb (PanOk.thn (PanOk.thn PanOk.body)))))))) sH rfl (VR_load_el (enc := (fun x_ : Int => [Value.int .i64 x_])) (i := x4_41) (j := x4_41.toNat * 1) (m := 0) (sz := 1) Try.underlying3 rfl rfl rfl rfl (Src.ro (k := 2) rfl) g646 g647 (fun _ _ h => h) rfl) ?_
                          refine DH_take (v := .pointer (some ⟨b7, 0, none⟩)) 12 (by kernel_rfl) rfl rfl (.yes rfl rfl rfl rfl (dec_f h2087)) (PanOk.thn (PanOk.thn (PanOk.inb (PanOk.thn (PanOk.thn (PanOk.inb (PanOk.thn (PanOk.thn PanOk.body)))))))) sH rfl (VR.ofV (V_fieldAddrN (B := ⟨b7, 0, none⟩) (m := 0) (o := 0) Try.underlying67 rfl nz3 rfl rfl)) ?_
                          refine DH_take 13 (by kernel_rfl) rfl rfl (.yes rfl rfl rfl rfl (dec_f h2087)) (PanOk.thn (PanOk.thn (PanOk.inb (PanOk.thn (PanOk.thn (PanOk.inb (PanOk.thn (PanOk.thn PanOk.body)))))))) sH rfl (VR_load_blk (b := b7) (m := 0) (k := 5) Try.underlying3 rfl rfl rfl rfl) ?_
                          refine DH_take (v := .bool (decide ((rd a0.f7 x4_41) ≥ a0.f0.f0))) 14 (by kernel_rfl) rfl rfl (.yes rfl rfl rfl rfl (dec_f h2087)) (PanOk.thn (PanOk.thn (PanOk.inb (PanOk.thn (PanOk.thn (PanOk.inb (PanOk.thn (PanOk.thn PanOk.body)))))))) sH rfl (VR.ofV (V_geq rfl rfl)) ?_
                          refine DH_take 15 (by kernel_rfl) rfl rfl (.no rfl) (PanOk.thn (PanOk.thn (PanOk.inb (PanOk.thn (PanOk.thn (PanOk.inb (PanOk.thn (PanOk.thn PanOk.body)))))))) sH rfl (VR.ofV (V_pickF rfl (dec_f h2087) rfl)) ?_
                          refine DH_take (v := .bool (decide ((rd a0.f7 x4_41) ≥ a0.f0.f0))) 16 (by kernel_rfl) rfl rfl (.no rfl) (PanOk.thn (PanOk.thn (PanOk.inb (PanOk.thn (PanOk.thn (PanOk.inb (PanOk.thn (PanOk.thn PanOk.body)))))))) sH rfl (VR.ofV (V_move rfl)) ?_
                          by_cases h2090 : (rd a0.f7 x4_41) ≥ a0.f0.f0
                          · replace H := g_ift h2090 H
                            refine DH_skip 17 (by kernel_rfl) rfl rfl (.no rfl rfl rfl rfl (dec_t h2090)) (PanOk.thn (PanOk.thn (PanOk.inb (PanOk.thn (PanOk.thn (PanOk.inb (PanOk.thn (PanOk.thn PanOk.body)))))))) rfl ?_
                            refine DH_skip 18 (by kernel_rfl) rfl rfl (.no rfl rfl rfl rfl (dec_t h2090)) (PanOk.thn (PanOk.thn (PanOk.inb (PanOk.thn (PanOk.thn (PanOk.inb (PanOk.thn (PanOk.thn PanOk.body)))))))) rfl ?_
                            refine DH_skip 19 (by kernel_rfl) rfl rfl (.no rfl rfl rfl rfl (dec_t h2090)) (PanOk.thn (PanOk.thn (PanOk.inb (PanOk.thn (PanOk.thn (PanOk.inb (PanOk.thn (PanOk.thn PanOk.body)))))))) rfl ?_
                            refine DH_skip 20 (by kernel_rfl) rfl rfl (.un rfl rfl rfl rfl) (PanOk.thn (PanOk.thn (PanOk.inb (PanOk.thn (PanOk.thn (PanOk.inb (PanOk.thn (PanOk.thn PanOk.body)))))))) rfl ?_
                            refine DH_skip 21 (by kernel_rfl) rfl rfl (.un rfl rfl rfl rfl) (PanOk.thn (PanOk.thn (PanOk.inb (PanOk.thn (PanOk.thn (PanOk.inb (PanOk.thn (PanOk.thn PanOk.body)))))))) rfl ?_
                            refine DH_skip 22 (by kernel_rfl) rfl rfl (.un rfl rfl rfl rfl) (PanOk.thn (PanOk.thn (PanOk.inb (PanOk.thn (PanOk.thn (PanOk.inb (PanOk.thn (PanOk.thn PanOk.body)))))))) rfl ?_
                            refine DH_skip 23 (by kernel_rfl) rfl rfl (.un rfl rfl rfl rfl) (PanOk.thn (PanOk.thn (PanOk.inb (PanOk.thn (PanOk.thn (PanOk.inb (PanOk.thn (PanOk.thn PanOk.body)))))))) rfl ?_
                            refine DH_skip 24 (by kernel_rfl) rfl rfl (.un rfl rfl rfl rfl) (PanOk.thn (PanOk.thn (PanOk.inb (PanOk.thn (PanOk.thn (PanOk.inb (PanOk.thn (PanOk.thn PanOk.body)))))))) rfl ?_
                            refine DH_skip 25 (by kernel_rfl) rfl rfl (.un rfl rfl rfl rfl) (PanOk.thn (PanOk.thn (PanOk.inb (PanOk.thn (PanOk.thn (PanOk.inb (PanOk.thn (PanOk.thn PanOk.body)))))))) rfl ?_
                            refine DH_skip 26 (by kernel_rfl) rfl rfl (.un rfl rfl rfl rfl) (PanOk.thn (PanOk.thn (PanOk.inb (PanOk.thn (PanOk.thn (PanOk.inb (PanOk.thn (PanOk.thn PanOk.body)))))))) rfl ?_
                            refine DH_skip 27 (by kernel_rfl) rfl rfl (.un rfl rfl rfl rfl) (PanOk.thn (PanOk.thn (PanOk.inb (PanOk.thn (PanOk.thn (PanOk.inb (PanOk.thn (PanOk.thn PanOk.body)))))))) rfl ?_
                            refine DH_skip 28 (by kernel_rfl) rfl rfl (.un rfl rfl rfl rfl) (PanOk.thn (PanOk.thn (PanOk.inb (PanOk.thn (PanOk.thn (PanOk.inb (PanOk.thn (PanOk.thn PanOk.body)))))))) rfl ?_
                            refine DH_skip 29 (by kernel_rfl) rfl rfl (.un rfl rfl rfl rfl) (PanOk.thn (PanOk.thn (PanOk.inb (PanOk.thn (PanOk.thn (PanOk.inb (PanOk.thn (PanOk.thn PanOk.body)))))))) rfl ?_
                            refine DH_skip 30 (by kernel_rfl) rfl rfl (.un rfl rfl rfl rfl) (PanOk.thn (PanOk.thn (PanOk.inb (PanOk.thn (PanOk.thn (PanOk.inb (PanOk.thn (PanOk.thn PanOk.body)))))))) rfl ?_
                            refine DH_skip 31 (by kernel_rfl) rfl rfl (.un rfl rfl rfl rfl) (PanOk.thn (PanOk.thn (PanOk.inb (PanOk.thn (PanOk.thn (PanOk.inb (PanOk.thn (PanOk.thn PanOk.body)))))))) rfl ?_
                            refine DH_skip 32 (by kernel_rfl) rfl rfl (.no rfl rfl rfl rfl (dec_t h2090)) (PanOk.thn (PanOk.thn (PanOk.inb (PanOk.thn (PanOk.thn (PanOk.inb (PanOk.thn (PanOk.thn PanOk.body)))))))) rfl ?_
                            refine DH_take 33 (by kernel_rfl) rfl rfl (.no rfl) (PanOk.thn (PanOk.thn (PanOk.inb (PanOk.thn (PanOk.thn (PanOk.inb (PanOk.thn (PanOk.thn PanOk.body)))))))) sH rfl (VR.ofV (V_pickT rfl (dec_t h2090) rfl)) ?_
                            refine DH_open dd sH ?_
                            refine DN_done (by kernel_rfl) ?_
                            have hr_ := Option.some.inj H
                            subst hr_
                            exact at_normal (St.mk1 (aeq rfl (aeq rfl (aeq rfl (aeq rfl aeq0)))) (Gh.sel [0, 1, 2, 3, 4, 5] rfl rfl))
                          · replace H := g_iff h2090 H
                            refine DH_take (v := .int .i64 x4_41) 17 (by kernel_rfl) rfl rfl (.yes rfl rfl rfl rfl (dec_f h2090)) (PanOk.thn (PanOk.thn (PanOk.inb (PanOk.thn (PanOk.thn (PanOk.inb (PanOk.thn (PanOk.thn PanOk.body)))))))) sH rfl (VR.ofV (V_move rfl)) ?_
                            refine DH_take (v := .bool (decide (x4_41 > 0))) 18 (by kernel_rfl) rfl rfl (.yes rfl rfl rfl rfl (dec_f h2090)) (PanOk.thn (PanOk.thn (PanOk.inb (PanOk.thn (PanOk.thn (PanOk.inb (PanOk.thn (PanOk.thn PanOk.body)))))))) sH rfl (VR.ofV (V_gtr rfl rfl)) ?_
                            refine DH_take (v := .bool (decide (x4_41 > 0))) 19 (by kernel_rfl) rfl rfl (.yes rfl rfl rfl rfl (dec_f h2090)) (PanOk.thn (PanOk.thn (PanOk.inb (PanOk.thn (PanOk.thn (PanOk.inb (PanOk.thn (PanOk.thn PanOk.body)))))))) sH rfl (VR.ofV (V_move rfl)) ?_
                            by_cases h2091 : x4_41 > 0
                            · replace H := g_ift h2091 H
                              refine DH_take (v := .pointer (some ((⟨b5, 0, none⟩ : Addr).add 18))) 20 (by kernel_rfl) rfl rfl (.yes rfl rfl rfl rfl (dec_t h2091)) (PanOk.thn (PanOk.thn (PanOk.inb (PanOk.thn (PanOk.thn (PanOk.inb (PanOk.thn (PanOk.thn PanOk.body)))))))) sH rfl (VR.ofV (V_fieldAddrN (B := ⟨b5, 0, none⟩) (m := 0) (o := 18) Try.underlying83 rfl nz78 rfl rfl)) ?_
                              refine DH_take 21 (by kernel_rfl) rfl rfl (.yes rfl rfl rfl rfl (dec_t h2091)) (PanOk.thn (PanOk.thn (PanOk.inb (PanOk.thn (PanOk.thn (PanOk.inb (PanOk.thn (PanOk.thn PanOk.body)))))))) sH rfl (VR_load_blk (b := b5) (m := 18) (k := 0) Try.underlying78 rfl rfl rfl rfl) ?_
                              refine DH_take (v := .int .i64 x4_41) 22 (by kernel_rfl) rfl rfl (.yes rfl rfl rfl rfl (dec_t h2091)) (PanOk.thn (PanOk.thn (PanOk.inb (PanOk.thn (PanOk.thn (PanOk.inb (PanOk.thn (PanOk.thn PanOk.body)))))))) sH rfl (VR.ofV (V_move rfl)) ?_
                              obtain ⟨⟨g1426, g1427⟩, H⟩ := g_pos H
                              refine DH_take 23 (by kernel_rfl) rfl rfl (.yes rfl rfl rfl rfl (dec_t h2091)) (PanOk.thn (PanOk.thn (PanOk.inb (PanOk.thn (PanOk.thn (PanOk.inb (PanOk.thn (PanOk.thn PanOk.body)))))))) sH rfl (VR_index (i := x4_41) Try.underlying78 sz3 rfl rfl (Src.ro (k := 2) rfl) g1426 g1427) ?_
                              refine DH_take 24 (by kernel_rfl) rfl rfl (.yes rfl rfl rfl rfl (dec_t h2091)) (PanOk.thn (PanOk.thn (PanOk.inb (PanOk.thn (PanOk.thn (PanOk.inb (PanOk.thn (PanOk.thn PanOk.body)))))))) sH rfl (VR_load_el (enc := (fun x_ : Int => [Value.int .i64 x_])) (i := x4_41) (j := x4_41.toNat * 1) (m := 0) (sz := 1) Try.underlying3 rfl rfl rfl rfl (Src.ro (k := 2) rfl) g1426 g1427 (fun _ _ h => h) rfl) ?_
                              refine DH_take (v := .pointer (some ((⟨b5, 0, none⟩ : Addr).add 18))) 25 (by kernel_rfl) rfl rfl (.yes rfl rfl rfl rfl (dec_t h2091)) (PanOk.thn (PanOk.thn (PanOk.inb (PanOk.thn (PanOk.thn (PanOk.inb (PanOk.thn (PanOk.thn PanOk.body)))))))) sH rfl (VR.ofV (V_fieldAddrN (B := ⟨b5, 0, none⟩) (m := 0) (o := 18) Try.underlying83 rfl nz78 rfl rfl)) ?_
                              refine DH_take 26 (by kernel_rfl) rfl rfl (.yes rfl rfl rfl rfl (dec_t h2091)) (PanOk.thn (PanOk.thn (PanOk.inb (PanOk.thn (PanOk.thn (PanOk.inb (PanOk.thn (PanOk.thn PanOk.body)))))))) sH rfl (VR_load_blk (b := b5) (m := 18) (k := 0) Try.underlying78 rfl rfl rfl rfl) ?_
                              refine DH_take (v := .int .i64 x4_41) 27 (by kernel_rfl) rfl rfl (.yes rfl rfl rfl rfl (dec_t h2091)) (PanOk.thn (PanOk.thn (PanOk.inb (PanOk.thn (PanOk.thn (PanOk.inb (PanOk.thn (PanOk.thn PanOk.body)))))))) sH rfl (VR.ofV (V_move rfl)) ?_
                              refine DH_take (v := .int .i64 (IntKind.i64.wrap (x4_41 - 1))) 28 (by kernel_rfl) rfl rfl (.yes rfl rfl rfl rfl (dec_t h2091)) (PanOk.thn (PanOk.thn (PanOk.inb (PanOk.thn (PanOk.thn (PanOk.inb (PanOk.thn (PanOk.thn PanOk.body)))))))) sH rfl (VR.ofV (V_sub rfl rfl)) ?_
                              obtain ⟨⟨g1786, g1787⟩, H⟩ := g_pos H
                              refine DH_take 29 (by kernel_rfl) rfl rfl (.yes rfl rfl rfl rfl (dec_t h2091)) (PanOk.thn (PanOk.thn (PanOk.inb (PanOk.thn (PanOk.thn (PanOk.inb (PanOk.thn (PanOk.thn PanOk.body)))))))) sH rfl (VR_index (i := IntKind.i64.wrap (x4_41 - 1)) Try.underlying78 sz3 rfl rfl (Src.ro (k := 2) rfl) g1786 g1787) ?_
                              refine DH_take 30 (by kernel_rfl) rfl rfl (.yes rfl rfl rfl rfl (dec_t h2091)) (PanOk.thn (PanOk.thn (PanOk.inb (PanOk.thn (PanOk.thn (PanOk.inb (PanOk.thn (PanOk.thn PanOk.body)))))))) sH rfl (VR_load_el (enc := (fun x_ : Int => [Value.int .i64 x_])) (i := IntKind.i64.wrap (x4_41 - 1)) (j := (IntKind.i64.wrap (x4_41 - 1)).toNat * 1) (m := 0) (sz := 1) Try.underlying3 rfl rfl rfl rfl (Src.ro (k := 2) rfl) g1786 g1787 (fun _ _ h => h) rfl) ?_
                              refine DH_take (v := .bool (decide ((rd a0.f7 x4_41) ≤ (rd a0.f7 (IntKind.i64.wrap (x4_41 - 1)))))) 31 (by kernel_rfl) rfl rfl (.yes rfl rfl rfl rfl (dec_t h2091)) (PanOk.thn (PanOk.thn (PanOk.inb (PanOk.thn (PanOk.thn (PanOk.inb (PanOk.thn (PanOk.thn PanOk.body)))))))) sH rfl (VR.ofV (V_leq rfl rfl)) ?_
                              refine DH_take 32 (by kernel_rfl) rfl rfl (.yes rfl rfl rfl rfl (dec_f h2090)) (PanOk.thn (PanOk.thn (PanOk.inb (PanOk.thn (PanOk.thn (PanOk.inb (PanOk.thn (PanOk.thn PanOk.body)))))))) sH rfl (VR.ofV (V_pickT rfl (dec_t h2091) rfl)) ?_
                              refine DH_take 33 (by kernel_rfl) rfl rfl (.no rfl) (PanOk.thn (PanOk.thn (PanOk.inb (PanOk.thn (PanOk.thn (PanOk.inb (PanOk.thn (PanOk.thn PanOk.body)))))))) sH rfl (VR.ofV (V_pickF rfl (dec_f h2090) rfl)) ?_
                              refine DH_open dd sH ?_
                              refine DN_done (by kernel_rfl) ?_
                              have hr_ := Option.some.inj H
                              subst hr_
                              exact at_normal (St.mk1 (aeq rfl (aeq rfl (aeq rfl (aeq rfl aeq0)))) (Gh.sel [0, 1, 2, 3, 4, 5] rfl rfl))
                            · replace H := g_iff h2091 H
                              refine DH_skip 20 (by kernel_rfl) rfl rfl (.no rfl rfl rfl rfl (dec_f h2091)) (PanOk.thn (PanOk.thn (PanOk.inb (PanOk.thn (PanOk.thn (PanOk.inb (PanOk.thn (PanOk.thn PanOk.body)))))))) rfl ?_
                              refine DH_skip 21 (by kernel_rfl) rfl rfl (.no rfl rfl rfl rfl (dec_f h2091)) (PanOk.thn (PanOk.thn (PanOk.inb (PanOk.thn (PanOk.thn (PanOk.inb (PanOk.thn (PanOk.thn PanOk.body)))))))) rfl ?_
                              refine DH_skip 22 (by kernel_rfl) rfl rfl (.no rfl rfl rfl rfl (dec_f h2091)) (PanOk.thn (PanOk.thn (PanOk.inb (PanOk.thn (PanOk.thn (PanOk.inb (PanOk.thn (PanOk.thn PanOk.body)))))))) rfl ?_
                              refine DH_skip 23 (by kernel_rfl) rfl rfl (.no rfl rfl rfl rfl (dec_f h2091)) (PanOk.thn (PanOk.thn (PanOk.inb (PanOk.thn (PanOk.thn (PanOk.inb (PanOk.thn (PanOk.thn PanOk.body)))))))) rfl ?_
                              refine DH_skip 24 (by kernel_rfl) rfl rfl (.no rfl rfl rfl rfl (dec_f h2091)) (PanOk.thn (PanOk.thn (PanOk.inb (PanOk.thn (PanOk.thn (PanOk.inb (PanOk.thn (PanOk.thn PanOk.body)))))))) rfl ?_
                              refine DH_skip 25 (by kernel_rfl) rfl rfl (.no rfl rfl rfl rfl (dec_f h2091)) (PanOk.thn (PanOk.thn (PanOk.inb (PanOk.thn (PanOk.thn (PanOk.inb (PanOk.thn (PanOk.thn PanOk.body)))))))) rfl ?_
                              refine DH_skip 26 (by kernel_rfl) rfl rfl (.no rfl rfl rfl rfl (dec_f h2091)) (PanOk.thn (PanOk.thn (PanOk.inb (PanOk.thn (PanOk.thn (PanOk.inb (PanOk.thn (PanOk.thn PanOk.body)))))))) rfl ?_
                              refine DH_skip 27 (by kernel_rfl) rfl rfl (.no rfl rfl rfl rfl (dec_f h2091)) (PanOk.thn (PanOk.thn (PanOk.inb (PanOk.thn (PanOk.thn (PanOk.inb (PanOk.thn (PanOk.thn PanOk.body)))))))) rfl ?_
                              refine DH_skip 28 (by kernel_rfl) rfl rfl (.no rfl rfl rfl rfl (dec_f h2091)) (PanOk.thn (PanOk.thn (PanOk.inb (PanOk.thn (PanOk.thn (PanOk.inb (PanOk.thn (PanOk.thn PanOk.body)))))))) rfl ?_
                              refine DH_skip 29 (by kernel_rfl) rfl rfl (.no rfl rfl rfl rfl (dec_f h2091)) (PanOk.thn (PanOk.thn (PanOk.inb (PanOk.thn (PanOk.thn (PanOk.inb (PanOk.thn (PanOk.thn PanOk.body)))))))) rfl ?_
                              refine DH_skip 30 (by kernel_rfl) rfl rfl (.no rfl rfl rfl rfl (dec_f h2091)) (PanOk.thn (PanOk.thn (PanOk.inb (PanOk.thn (PanOk.thn (PanOk.inb (PanOk.thn (PanOk.thn PanOk.body)))))))) rfl ?_
                              refine DH_skip 31 (by kernel_rfl) rfl rfl (.no rfl rfl rfl rfl (dec_f h2091)) (PanOk.thn (PanOk.thn (PanOk.inb (PanOk.thn (PanOk.thn (PanOk.inb (PanOk.thn (PanOk.thn PanOk.body)))))))) rfl ?_
                              refine DH_take 32 (by kernel_rfl) rfl rfl (.yes rfl rfl rfl rfl (dec_f h2090)) (PanOk.thn (PanOk.thn (PanOk.inb (PanOk.thn (PanOk.thn (PanOk.inb (PanOk.thn (PanOk.thn PanOk.body)))))))) sH rfl (VR.ofV (V_pickF rfl (dec_f h2091) rfl)) ?_
                              refine DH_take 33 (by kernel_rfl) rfl rfl (.no rfl) (PanOk.thn (PanOk.thn (PanOk.inb (PanOk.thn (PanOk.thn (PanOk.inb (PanOk.thn (PanOk.thn PanOk.body)))))))) sH rfl (VR.ofV (V_pickF rfl (dec_f h2090) rfl)) ?_
                              refine DH_open dd sH ?_
                              refine DN_done (by kernel_rfl) ?_
                              have hr_ := Option.some.inj H
                              subst hr_
                              exact at_normal (St.mk1 (aeq rfl (aeq rfl (aeq rfl (aeq rfl aeq0)))) (Gh.sel [0, 1, 2, 3, 4, 5] rfl rfl))
                      · rintro e ds As hst2092
                        clear H
                        have H := Bt45
                        clear Bt45
                        refine at_normal ?_
                        refine SA.of_St hst2092 fun junk => ?_
                        by_cases h2093 : t45 = true
                        · replace H := g_ift h2093 H
                          refine SA_condTb rfl h2093 ?_
                          refine SA_seq ?_
                          refine SA_region ?_
                          refine RA_step rfl (OA_v (v := .bool false) rfl (V_assign rfl) ?_)
                          refine RA_nil ?_
                          refine at_normal ?_
                          refine SA_ret ?_
                          refine inb_ret ?_
                          refine thn_ret ?_
                          refine thn_ret ?_
                          refine inb_ret ?_
                          refine thn_ret ?_
                          refine thn_ret ?_
                          have hr_ := Option.some.inj H
                          subst hr_
                          have hb_ := el_ret Bt40
                          have hr_ := Option.some.inj hb_
                          clear hb_
                          subst hr_
                          exact BQ_R1 [] rfl rfl (Gh.sel [] rfl rfl) ⟨rfl, rfl⟩
                        · replace H := g_iff h2093 H
                          refine SA_condFb rfl h2093 ?_
                          refine SA_skip ?_
                          refine inb_normal ?_
                          refine at_normal ?_
                          refine SA_region ?_
                          refine RA_step rfl (OA_v (v := .int .i64 x4_41) rfl (V_move rfl) ?_)
                          refine RA_step rfl (OA_v (v := .int .i64 (IntKind.i64.wrap (x4_41 + 1))) rfl (V_add rfl rfl) ?_)
                          obtain ⟨n2094, hn2094, H⟩ := g_lt H
                          refine RA_step rfl (OA_v (v := .int .i64 n2094) rfl (V_assign (v := .int .i64 n2094) (congrArg (Value.int .i64) hn2094.symm)) ?_)
                          refine RA_nil ?_
                          exact at_normal ⟨k42, Nat.lt_succ_self _, _, H, St.mk1 (aeq rfl (aeq rfl (aeq rfl aeq0))) (Gh.sel [0, 1, 2, 3, 4, 5] rfl rfl)⟩
                    · replace H := g_iff h44 H
                      refine SA_condF rfl h44 ?_
                      refine SA_exit ?_
                      refine thn_exit ?_
                      refine thn_exit ?_
                      refine inb_hit ?_
                      have hr_ := Option.some.inj H
                      subst hr_
                      exact at_normal ⟨(), rfl, St.mk1 (aeq rfl (aeq rfl aeq0)) (Gh.sel [0, 1, 2, 3, 4, 5] rfl rfl)⟩
                  · rintro e ds As ⟨s41, ht, hst2095⟩
                    clear H
                    subst ht
                    replace Bt40 := el_go Bt40
                    have H := Bt40
                    clear Bt40
                    refine at_normal ?_
                    refine SA.of_St hst2095 fun junk => ?_
                    refine SA_seq ?_
                    refine SA_seq ?_
                    refine SA_region ?_
                    refine RA_step rfl (OA_v (v := .pointer (some ((⟨b5, 0, none⟩ : Addr).add 43))) rfl (V_fieldAddrN (B := ⟨b5, 0, none⟩) (m := 0) (o := 43) Try.underlying83 rfl nz81 rfl rfl) ?_)
                    refine RA_step rfl (OA_r rfl (VR_load_blk (b := b5) (m := 43) (k := 0) Try.underlying81 rfl rfl rfl rfl) ?_)
                    refine RA_step rfl (OA_v (v := .int .i64 (a0.f17.length : Int)) rfl (V_len Try.underlying81 rfl) ?_)
                    refine RA_step rfl (OA_v (v := .bool (decide ((a0.f17.length : Int) > 256))) rfl (V_gtr rfl rfl) ?_)
                    refine RA_nil ?_
                    refine at_normal ?_
                    by_cases h2096 : (a0.f17.length : Int) > 256
                    · replace H := g_ift h2096 H
                      refine SA_condT rfl h2096 ?_
                      refine SA_seq ?_
                      refine SA_region ?_
                      refine RA_step rfl (OA_v (v := .bool false) rfl (V_assign rfl) ?_)
                      refine RA_nil ?_
                      refine at_normal ?_
                      refine SA_ret ?_
                      refine thn_ret ?_
                      have hr_ := Option.some.inj H
                      subst hr_
                      exact BQ_R1 [] rfl rfl (Gh.sel [] rfl rfl) ⟨rfl, rfl⟩
                    · replace H := g_iff h2096 H
                      refine SA_condF rfl h2096 ?_
                      refine SA_skip ?_
                      refine at_normal ?_
                      refine SA_seq ?_
                      refine SA_seq ?_
                      refine SA_region ?_
                      refine RA_step rfl (OA_v (v := .int .i64 0) rfl (V_assign rfl) ?_)
                      refine RA_nil ?_
                      refine at_normal ?_
                      obtain ⟨t2097, H, Bt2097⟩ := g_bind H
                      refine SA_mid (fun e ds As => ∃ (s2098 : Unit), t2097 = Out.go s2098 ∧ St [(1, .pointer (some ⟨b5, 0, none⟩)), (3, .pointer (some ⟨b7, 0, none⟩))] [Blk b5 83 (.int .i64 a0.f0.f0 :: .int .i64 a0.f0.f1 :: .slice A0_0 a0.f0.f2.length c0_0 :: .int .i64 a0.f1 :: .int .i64 a0.f2 :: .bool a0.f3 :: .int .i64 a0.f4.f0 :: .int .i64 a0.f4.f1 :: .bool a0.f4.f2 :: .bool a0.f4.f3 :: .bool a0.f4.f4 :: .bool a0.f4.f5 :: .bool a0.f4.f6 :: .bool a0.f4.f7 :: .bool a0.f4.f8 :: .bool a0.f4.f9 :: .int .i64 a0.f5 :: .int .i64 a0.f6 :: .slice A0_1 a0.f7.length c0_1 :: .bool a0.f8 :: .bool a0.f9 :: .bool a0.f10 :: .bool a0.f11 :: .bool a0.f12 :: .bool a0.f13 :: .int .i64 a0.f14.f0 :: .int .i64 a0.f14.f1 :: .bool a0.f14.f2 :: .bool a0.f14.f3 :: .int .i64 a0.f14.f4.f0 :: .int .i64 a0.f14.f4.f1 :: .bool a0.f14.f4.f2 :: .bool a0.f14.f4.f3 :: .bool a0.f14.f4.f4 :: .bool a0.f14.f4.f5 :: .bool a0.f14.f4.f6 :: .bool a0.f14.f4.f7 :: .bool a0.f14.f4.f8 :: .bool a0.f14.f4.f9 :: .bool a0.f15 :: .int .i64 a0.f16.f0 :: .int .i64 a0.f16.f1 :: .slice A0_2 a0.f16.f2.length c0_2 :: .slice A0_3 a0.f17.length c0_3 :: []), Ro k76 A0_0 c0_0 a0.f0.f2, Ro (Kd.int .i64) A0_1 c0_1 a0.f7, Ro k76 A0_2 c0_2 a0.f16.f2, Ro (Kd.int .i32) A0_3 c0_3 a0.f17, Blk b7 67 [.int .i64 a0.f0.f0, .int .i64 a0.f0.f1, .slice A0_0 a0.f0.f2.length c0_0]] e ds As) ?_ ?_
                      · refine SA_block ?_
                        refine SA_loop (fun k_ e ds As => ∃ (x5_2098 : Int), F75.l1 a0 k_ x5_2098 = some t2097 ∧ St [(1, .pointer (some ⟨b5, 0, none⟩)), (3, .pointer (some ⟨b7, 0, none⟩)), (5, .int .i64 x5_2098)] [Blk b5 83 (.int .i64 a0.f0.f0 :: .int .i64 a0.f0.f1 :: .slice A0_0 a0.f0.f2.length c0_0 :: .int .i64 a0.f1 :: .int .i64 a0.f2 :: .bool a0.f3 :: .int .i64 a0.f4.f0 :: .int .i64 a0.f4.f1 :: .bool a0.f4.f2 :: .bool a0.f4.f3 :: .bool a0.f4.f4 :: .bool a0.f4.f5 :: .bool a0.f4.f6 :: .bool a0.f4.f7 :: .bool a0.f4.f8 :: .bool a0.f4.f9 :: .int .i64 a0.f5 :: .int .i64 a0.f6 :: .slice A0_1 a0.f7.length c0_1 :: .bool a0.f8 :: .bool a0.f9 :: .bool a0.f10 :: .bool a0.f11 :: .bool a0.f12 :: .bool a0.f13 :: .int .i64 a0.f14.f0 :: .int .i64 a0.f14.f1 :: .bool a0.f14.f2 :: .bool a0.f14.f3 :: .int .i64 a0.f14.f4.f0 :: .int .i64 a0.f14.f4.f1 :: .bool a0.f14.f4.f2 :: .bool a0.f14.f4.f3 :: .bool a0.f14.f4.f4 :: .bool a0.f14.f4.f5 :: .bool a0.f14.f4.f6 :: .bool a0.f14.f4.f7 :: .bool a0.f14.f4.f8 :: .bool a0.f14.f4.f9 :: .bool a0.f15 :: .int .i64 a0.f16.f0 :: .int .i64 a0.f16.f1 :: .slice A0_2 a0.f16.f2.length c0_2 :: .slice A0_3 a0.f17.length c0_3 :: []), Ro k76 A0_0 c0_0 a0.f0.f2, Ro (Kd.int .i64) A0_1 c0_1 a0.f7, Ro k76 A0_2 c0_2 a0.f16.f2, Ro (Kd.int .i32) A0_3 c0_3 a0.f17, Blk b7 67 [.int .i64 a0.f0.f0, .int .i64 a0.f0.f1, .slice A0_0 a0.f0.f2.length c0_0]] e ds As) (k := k) ⟨_, H, St.mk1 (aeq rfl (aeq rfl (aeq rfl aeq0))) (Gh.sel [0, 1, 2, 3, 4, 5] rfl rfl)⟩ ?_
                        clear H
                        rintro k2099 e ds As ⟨x5_2098, H, hst2100⟩
                        obtain _ | k2099 := k2099
                        · cases H
                        rw [F75.l1] at H
                        refine SA.of_St hst2100 fun junk => ?_
                        refine SA_seq ?_
                        refine SA_seq ?_
                        refine SA_region ?_
                        refine RA_step rfl (OA_v (v := .int .i64 x5_2098) rfl (V_move rfl) ?_)
                        refine RA_step rfl (OA_v (v := .pointer (some ((⟨b5, 0, none⟩ : Addr).add 43))) rfl (V_fieldAddrN (B := ⟨b5, 0, none⟩) (m := 0) (o := 43) Try.underlying83 rfl nz81 rfl rfl) ?_)
                        refine RA_step rfl (OA_r rfl (VR_load_blk (b := b5) (m := 43) (k := 0) Try.underlying81 rfl rfl rfl rfl) ?_)
                        refine RA_step rfl (OA_v (v := .int .i64 (a0.f17.length : Int)) rfl (V_len Try.underlying81 rfl) ?_)
                        refine RA_step rfl (OA_v (v := .bool (decide (x5_2098 < (a0.f17.length : Int)))) rfl (V_lss rfl rfl) ?_)
                        refine RA_nil ?_
                        refine at_normal ?_
                        by_cases h2101 : x5_2098 < (a0.f17.length : Int)
                        · replace H := g_ift h2101 H
                          refine SA_condT rfl h2101 ?_
                          refine SA_skip ?_
                          refine at_normal ?_
                          refine SA_seq ?_
                          refine SA_block ?_
                          refine SA_seq ?_
                          refine SA_region ?_
                          refine RA_step rfl (OA_v (v := .pointer (some ((⟨b5, 0, none⟩ : Addr).add 43))) rfl (V_fieldAddrN (B := ⟨b5, 0, none⟩) (m := 0) (o := 43) Try.underlying83 rfl nz81 rfl rfl) ?_)
                          refine RA_step rfl (OA_r rfl (VR_load_blk (b := b5) (m := 43) (k := 0) Try.underlying81 rfl rfl rfl rfl) ?_)
                          refine RA_step rfl (OA_v (v := .int .i64 x5_2098) rfl (V_move rfl) ?_)
                          obtain ⟨⟨g2102, g2103⟩, H⟩ := g_pos H
                          refine RA_step rfl (OA_r rfl (VR_index (i := x5_2098) Try.underlying81 sz21 rfl rfl (Src.ro (k := 4) rfl) g2102 g2103) ?_)
                          refine RA_step rfl (OA_r rfl (VR_load_el (enc := (fun x_ : Int => [Value.int .i32 x_])) (i := x5_2098) (j := x5_2098.toNat * 1) (m := 0) (sz := 1) Try.underlying21 rfl rfl rfl rfl (Src.ro (k := 4) rfl) g2102 g2103 (fun _ _ h => h) rfl) ?_)
                          refine RA_step rfl (OA_v (v := .bool (decide ((rd a0.f17 x5_2098) < 0))) rfl (V_lss rfl rfl) ?_)
                          refine RA_nil ?_
                          refine at_normal ?_
                          by_cases h2104 : (rd a0.f17 x5_2098) < 0
                          · replace H := g_ift h2104 H
                            refine SA_condT rfl h2104 ?_
                            refine SA_seq ?_
                            refine SA_region ?_
                            refine RA_step rfl (OA_v (v := .bool false) rfl (V_assign rfl) ?_)
                            refine RA_nil ?_
                            refine at_normal ?_
                            refine SA_ret ?_
                            refine inb_ret ?_
                            refine thn_ret ?_
                            refine thn_ret ?_
                            refine inb_ret ?_
                            refine thn_ret ?_
                            refine thn_ret ?_
                            have hr_ := Option.some.inj H
                            subst hr_
                            have hb_ := el_ret Bt2097
                            have hr_ := Option.some.inj hb_
                            clear hb_
                            subst hr_
                            exact BQ_R1 [] rfl rfl (Gh.sel [] rfl rfl) ⟨rfl, rfl⟩
                          · replace H := g_iff h2104 H
                            refine SA_condF rfl h2104 ?_
                            refine SA_skip ?_
                            refine inb_normal ?_
                            refine at_normal ?_
                            refine SA_region ?_
                            refine RA_step rfl (OA_v (v := .int .i64 x5_2098) rfl (V_move rfl) ?_)
                            refine RA_step rfl (OA_v (v := .int .i64 (IntKind.i64.wrap (x5_2098 + 1))) rfl (V_add rfl rfl) ?_)
                            obtain ⟨n2105, hn2105, H⟩ := g_lt H
                            refine RA_step rfl (OA_v (v := .int .i64 n2105) rfl (V_assign (v := .int .i64 n2105) (congrArg (Value.int .i64) hn2105.symm)) ?_)
                            refine RA_nil ?_
                            exact at_normal ⟨k2099, Nat.lt_succ_self _, _, H, St.mk1 (aeq rfl (aeq rfl (aeq rfl aeq0))) (Gh.sel [0, 1, 2, 3, 4, 5] rfl rfl)⟩
                        · replace H := g_iff h2101 H
                          refine SA_condF rfl h2101 ?_
                          refine SA_exit ?_
                          refine thn_exit ?_
                          refine thn_exit ?_
                          refine inb_hit ?_
                          have hr_ := Option.some.inj H
                          subst hr_
                          exact at_normal ⟨(), rfl, St.mk1 (aeq rfl (aeq rfl aeq0)) (Gh.sel [0, 1, 2, 3, 4, 5] rfl rfl)⟩
                      · rintro e ds As ⟨s2098, ht, hst2106⟩
                        clear H
                        subst ht
                        replace Bt2097 := el_go Bt2097
                        have H := Bt2097
                        clear Bt2097
                        refine at_normal ?_
                        refine SA.of_St hst2106 fun junk => ?_
                        refine SA_seq ?_
                        refine SA_seq ?_
                        refine SA_region ?_
                        refine RA_step rfl (OA_v (v := .pointer (some ((⟨b5, 0, none⟩ : Addr).add 39))) rfl (V_fieldAddrN (B := ⟨b5, 0, none⟩) (m := 0) (o := 39) Try.underlying83 rfl nz4 rfl rfl) ?_)
                        refine RA_step rfl (OA_r rfl (VR_load_blk (b := b5) (m := 39) (k := 0) Try.underlying4 rfl rfl rfl rfl) ?_)
                        refine RA_nil ?_
                        refine at_normal ?_
                        by_cases h2107 : a0.f15 = true
                        · replace H := g_ift h2107 H
                          refine SA_condTb rfl h2107 ?_
                          refine SA_seq ?_
                          refine SA_region ?_
                          refine RA_step rfl (OA_v (v := .pointer (some ((⟨b5, 0, none⟩ : Addr).add 40))) rfl (V_fieldAddrN (B := ⟨b5, 0, none⟩) (m := 0) (o := 40) Try.underlying83 rfl nz67 rfl rfl) ?_)
                          refine RA_step rfl (OA_r rfl (VR_loadA_blk (b := b5) (m := 40) (k := 0) (vs := [.int .i64 a0.f16.f0, .int .i64 a0.f16.f1, .slice A0_2 a0.f16.f2.length c0_2]) Try.underlying67 rfl sz67 rfl rfl rfl) ?_)
                          obtain ⟨r2108, C2115, H⟩ := g_bind H
                          refine RA_step rfl (OA_callA [3] [0, 1, 2, 3, 4, 5] rfl (X_fn (vs := [.agg #[.int .i64 a0.f16.f0, .int .i64 a0.f16.f1, .slice A0_2 a0.f16.f2.length c0_2]]) Try.func30 nm30 rfl rfl) rfl (F30.ok (a0 := a0.f16) (A0_0 := A0_2) (c0_0 := c0_2) C2115) rfl ?_)
                          rintro _ _ ⟨rfl, rfl⟩
                          refine RA_step rfl (OA_v (v := .bool r2108) rfl (V_move rfl) ?_)
                          obtain ⟨q2109, hq2109, H⟩ := g_lt H
                          refine RA_cut 7 (fun e ds As => St [(1, .pointer (some ⟨b5, 0, none⟩)), (3, .pointer (some ⟨b7, 0, none⟩)), (138, .bool q2109)] [Blk b5 83 (.int .i64 a0.f0.f0 :: .int .i64 a0.f0.f1 :: .slice A0_0 a0.f0.f2.length c0_0 :: .int .i64 a0.f1 :: .int .i64 a0.f2 :: .bool a0.f3 :: .int .i64 a0.f4.f0 :: .int .i64 a0.f4.f1 :: .bool a0.f4.f2 :: .bool a0.f4.f3 :: .bool a0.f4.f4 :: .bool a0.f4.f5 :: .bool a0.f4.f6 :: .bool a0.f4.f7 :: .bool a0.f4.f8 :: .bool a0.f4.f9 :: .int .i64 a0.f5 :: .int .i64 a0.f6 :: .slice A0_1 a0.f7.length c0_1 :: .bool a0.f8 :: .bool a0.f9 :: .bool a0.f10 :: .bool a0.f11 :: .bool a0.f12 :: .bool a0.f13 :: .int .i64 a0.f14.f0 :: .int .i64 a0.f14.f1 :: .bool a0.f14.f2 :: .bool a0.f14.f3 :: .int .i64 a0.f14.f4.f0 :: .int .i64 a0.f14.f4.f1 :: .bool a0.f14.f4.f2 :: .bool a0.f14.f4.f3 :: .bool a0.f14.f4.f4 :: .bool a0.f14.f4.f5 :: .bool a0.f14.f4.f6 :: .bool a0.f14.f4.f7 :: .bool a0.f14.f4.f8 :: .bool a0.f14.f4.f9 :: .bool a0.f15 :: .int .i64 a0.f16.f0 :: .int .i64 a0.f16.f1 :: .slice A0_2 a0.f16.f2.length c0_2 :: .slice A0_3 a0.f17.length c0_3 :: []), Ro k76 A0_0 c0_0 a0.f0.f2, Ro (Kd.int .i64) A0_1 c0_1 a0.f7, Ro k76 A0_2 c0_2 a0.f16.f2, Ro (Kd.int .i32) A0_3 c0_3 a0.f17, Blk b7 67 [.int .i64 a0.f0.f0, .int .i64 a0.f0.f1, .slice A0_0 a0.f0.f2.length c0_0]] e ds As) ?_ ?_
                          · by_cases h2110 : r2108 = true
                            · refine RA_yesB rfl rfl rfl rfl (h2110) (OA_v (v := .pointer (some ((⟨b5, 0, none⟩ : Addr).add 40))) rfl (V_fieldAddrN (B := ⟨b5, 0, none⟩) (m := 0) (o := 40) Try.underlying83 rfl nz67 rfl rfl) ?_)
                              refine RA_yesB rfl rfl rfl rfl (h2110) (OA_v (v := .pointer (some ((⟨b5, 0, none⟩ : Addr).add 40))) rfl (V_fieldAddrN (B := ⟨b5, 0, none⟩) (m := 40) (o := 40) Try.underlying67 rfl nz3 rfl rfl) ?_)
                              refine RA_yesB rfl rfl rfl rfl (h2110) (OA_r rfl (VR_load_blk (b := b5) (m := 40) (k := 0) Try.underlying3 rfl rfl rfl rfl) ?_)
                              refine RA_yesB rfl rfl rfl rfl (h2110) (OA_v (v := .pointer (some ⟨b7, 0, none⟩)) rfl (V_fieldAddrN (B := ⟨b7, 0, none⟩) (m := 0) (o := 0) Try.underlying67 rfl nz3 rfl rfl) ?_)
                              refine RA_yesB rfl rfl rfl rfl (h2110) (OA_r rfl (VR_load_blk (b := b7) (m := 0) (k := 5) Try.underlying3 rfl rfl rfl rfl) ?_)
                              refine RA_yesB rfl rfl rfl rfl (h2110) (OA_v (v := .bool (decide (a0.f16.f0 = a0.f0.f0))) rfl (V_eql rfl rfl) ?_)
                              refine RA_step rfl (OA_v rfl (V_pickT rfl (h2110) rfl) ?_)
                              refine RA_nil ?_
                              exact at_normal (St.mk1 (aeq rfl (aeq rfl (aeq (congrArg Value.bool (and_t hq2109 (h2110))) aeq0))) (Gh.sel [0, 1, 2, 3, 4, 5] rfl rfl))
                            · refine RA_noB rfl rfl rfl rfl (bno h2110) rfl ?_
                              refine RA_noB rfl rfl rfl rfl (bno h2110) rfl ?_
                              refine RA_noB rfl rfl rfl rfl (bno h2110) rfl ?_
                              refine RA_noB rfl rfl rfl rfl (bno h2110) rfl ?_
                              refine RA_noB rfl rfl rfl rfl (bno h2110) rfl ?_
                              refine RA_noB rfl rfl rfl rfl (bno h2110) rfl ?_
                              refine RA_step rfl (OA_v rfl (V_pickF rfl (bno h2110) rfl) ?_)
                              refine RA_nil ?_
                              exact at_normal (St.mk1 (aeq rfl (aeq rfl (aeq (congrArg Value.bool (and_f hq2109 (bno h2110))) aeq0))) (Gh.sel [0, 1, 2, 3, 4, 5] rfl rfl))
                          · rintro e ds As hst2111
                            refine RA.of_St rfl hst2111 fun junk => ?_
                            refine RA_step rfl (OA_v (v := .bool q2109) rfl (V_move rfl) ?_)
                            obtain ⟨q2112, hq2112, H⟩ := g_lt H
                            refine RA_cut 7 (fun e ds As => St [(146, .bool q2112)] [] e ds As) ?_ ?_
                            · by_cases h2113 : q2109 = true
                              · refine RA_yesB rfl rfl rfl rfl (h2113) (OA_v (v := .pointer (some ((⟨b5, 0, none⟩ : Addr).add 40))) rfl (V_fieldAddrN (B := ⟨b5, 0, none⟩) (m := 0) (o := 40) Try.underlying83 rfl nz67 rfl rfl) ?_)
                                refine RA_yesB rfl rfl rfl rfl (h2113) (OA_v (v := .pointer (some ((⟨b5, 0, none⟩ : Addr).add 41))) rfl (V_fieldAddrN (B := ⟨b5, 0, none⟩) (m := 40) (o := 41) Try.underlying67 rfl nz3 rfl rfl) ?_)
                                refine RA_yesB rfl rfl rfl rfl (h2113) (OA_r rfl (VR_load_blk (b := b5) (m := 41) (k := 0) Try.underlying3 rfl rfl rfl rfl) ?_)
                                refine RA_yesB rfl rfl rfl rfl (h2113) (OA_v (v := .pointer (some ((⟨b7, 0, none⟩ : Addr).add 1))) rfl (V_fieldAddrN (B := ⟨b7, 0, none⟩) (m := 0) (o := 1) Try.underlying67 rfl nz3 rfl rfl) ?_)
                                refine RA_yesB rfl rfl rfl rfl (h2113) (OA_r rfl (VR_load_blk (b := b7) (m := 1) (k := 5) Try.underlying3 rfl rfl rfl rfl) ?_)
                                refine RA_yesB rfl rfl rfl rfl (h2113) (OA_v (v := .bool (decide (a0.f16.f1 = a0.f0.f1))) rfl (V_eql rfl rfl) ?_)
                                refine RA_step rfl (OA_v rfl (V_pickT rfl (h2113) rfl) ?_)
                                refine RA_nil ?_
                                exact at_normal (St.mk1 (aeq (congrArg Value.bool (and_t hq2112 (h2113))) aeq0) (Gh.sel [] rfl rfl))
                              · refine RA_noB rfl rfl rfl rfl (bno h2113) rfl ?_
                                refine RA_noB rfl rfl rfl rfl (bno h2113) rfl ?_
                                refine RA_noB rfl rfl rfl rfl (bno h2113) rfl ?_
                                refine RA_noB rfl rfl rfl rfl (bno h2113) rfl ?_
                                refine RA_noB rfl rfl rfl rfl (bno h2113) rfl ?_
                                refine RA_noB rfl rfl rfl rfl (bno h2113) rfl ?_
                                refine RA_step rfl (OA_v rfl (V_pickF rfl (bno h2113) rfl) ?_)
                                refine RA_nil ?_
                                exact at_normal (St.mk1 (aeq (congrArg Value.bool (and_f hq2112 (bno h2113))) aeq0) (Gh.sel [] rfl rfl))
                            · rintro e ds As hst2114
                              refine RA.of_St rfl hst2114 fun junk => ?_
                              refine RA_step rfl (OA_v (v := .bool q2112) rfl (V_assign rfl) ?_)
                              refine RA_nil ?_
                              refine at_normal ?_
                              refine SA_ret ?_
                              refine thn_ret ?_
                              have hr_ := Option.some.inj H
                              subst hr_
                              exact BQ_R1 [] rfl rfl (Gh.sel [] rfl rfl) ⟨rfl, rfl⟩
                        · replace H := g_iff h2107 H
                          refine SA_condFb rfl h2107 ?_
                          refine SA_skip ?_
                          refine at_normal ?_
                          refine SA_seq ?_
                          refine SA_region ?_
                          refine RA_step rfl (OA_v (v := .pointer (some ((⟨b5, 0, none⟩ : Addr).add 40))) rfl (V_fieldAddrN (B := ⟨b5, 0, none⟩) (m := 0) (o := 40) Try.underlying83 rfl nz67 rfl rfl) ?_)
                          refine RA_step rfl (OA_v (v := .pointer (some ((⟨b5, 0, none⟩ : Addr).add 40))) rfl (V_fieldAddrN (B := ⟨b5, 0, none⟩) (m := 40) (o := 40) Try.underlying67 rfl nz3 rfl rfl) ?_)
                          refine RA_step rfl (OA_r rfl (VR_load_blk (b := b5) (m := 40) (k := 0) Try.underlying3 rfl rfl rfl rfl) ?_)
                          refine RA_step rfl (OA_v (v := .bool (decide (a0.f16.f0 = 0))) rfl (V_eql rfl rfl) ?_)
                          refine RA_step rfl (OA_v (v := .bool (decide (a0.f16.f0 = 0))) rfl (V_move rfl) ?_)
                          obtain ⟨q2116, hq2116, H⟩ := g_lt H
                          refine RA_cut 5 (fun e ds As => St [(1, .pointer (some ⟨b5, 0, none⟩)), (156, .bool q2116)] [Blk b5 83 (.int .i64 a0.f0.f0 :: .int .i64 a0.f0.f1 :: .slice A0_0 a0.f0.f2.length c0_0 :: .int .i64 a0.f1 :: .int .i64 a0.f2 :: .bool a0.f3 :: .int .i64 a0.f4.f0 :: .int .i64 a0.f4.f1 :: .bool a0.f4.f2 :: .bool a0.f4.f3 :: .bool a0.f4.f4 :: .bool a0.f4.f5 :: .bool a0.f4.f6 :: .bool a0.f4.f7 :: .bool a0.f4.f8 :: .bool a0.f4.f9 :: .int .i64 a0.f5 :: .int .i64 a0.f6 :: .slice A0_1 a0.f7.length c0_1 :: .bool a0.f8 :: .bool a0.f9 :: .bool a0.f10 :: .bool a0.f11 :: .bool a0.f12 :: .bool a0.f13 :: .int .i64 a0.f14.f0 :: .int .i64 a0.f14.f1 :: .bool a0.f14.f2 :: .bool a0.f14.f3 :: .int .i64 a0.f14.f4.f0 :: .int .i64 a0.f14.f4.f1 :: .bool a0.f14.f4.f2 :: .bool a0.f14.f4.f3 :: .bool a0.f14.f4.f4 :: .bool a0.f14.f4.f5 :: .bool a0.f14.f4.f6 :: .bool a0.f14.f4.f7 :: .bool a0.f14.f4.f8 :: .bool a0.f14.f4.f9 :: .bool a0.f15 :: .int .i64 a0.f16.f0 :: .int .i64 a0.f16.f1 :: .slice A0_2 a0.f16.f2.length c0_2 :: .slice A0_3 a0.f17.length c0_3 :: []), Ro k76 A0_0 c0_0 a0.f0.f2, Ro (Kd.int .i64) A0_1 c0_1 a0.f7, Ro k76 A0_2 c0_2 a0.f16.f2, Ro (Kd.int .i32) A0_3 c0_3 a0.f17] e ds As) ?_ ?_
                          · by_cases h2117 : a0.f16.f0 = 0
                            · refine RA_yesB rfl rfl rfl rfl (dec_t h2117) (OA_v (v := .pointer (some ((⟨b5, 0, none⟩ : Addr).add 40))) rfl (V_fieldAddrN (B := ⟨b5, 0, none⟩) (m := 0) (o := 40) Try.underlying83 rfl nz67 rfl rfl) ?_)
                              refine RA_yesB rfl rfl rfl rfl (dec_t h2117) (OA_v (v := .pointer (some ((⟨b5, 0, none⟩ : Addr).add 41))) rfl (V_fieldAddrN (B := ⟨b5, 0, none⟩) (m := 40) (o := 41) Try.underlying67 rfl nz3 rfl rfl) ?_)
                              refine RA_yesB rfl rfl rfl rfl (dec_t h2117) (OA_r rfl (VR_load_blk (b := b5) (m := 41) (k := 0) Try.underlying3 rfl rfl rfl rfl) ?_)
                              refine RA_yesB rfl rfl rfl rfl (dec_t h2117) (OA_v (v := .bool (decide (a0.f16.f1 = 0))) rfl (V_eql rfl rfl) ?_)
                              refine RA_step rfl (OA_v rfl (V_pickT rfl (dec_t h2117) rfl) ?_)
                              refine RA_nil ?_
                              exact at_normal (St.mk1 (aeq rfl (aeq (congrArg Value.bool (and_t hq2116 (dec_t h2117))) aeq0)) (Gh.sel [0, 1, 2, 3, 4] rfl rfl))
                            · refine RA_noB rfl rfl rfl rfl (dec_f h2117) rfl ?_
                              refine RA_noB rfl rfl rfl rfl (dec_f h2117) rfl ?_
                              refine RA_noB rfl rfl rfl rfl (dec_f h2117) rfl ?_
                              refine RA_noB rfl rfl rfl rfl (dec_f h2117) rfl ?_
                              refine RA_step rfl (OA_v rfl (V_pickF rfl (dec_f h2117) rfl) ?_)
                              refine RA_nil ?_
                              exact at_normal (St.mk1 (aeq rfl (aeq (congrArg Value.bool (and_f hq2116 (dec_f h2117))) aeq0)) (Gh.sel [0, 1, 2, 3, 4] rfl rfl))
                          · rintro e ds As hst2118
                            refine RA.of_St rfl hst2118 fun junk => ?_
                            refine RA_step rfl (OA_v (v := .bool q2116) rfl (V_move rfl) ?_)
                            obtain ⟨q2119, hq2119, H⟩ := g_lt H
                            refine RA_cut 6 (fun e ds As => St [(163, .bool q2119)] [] e ds As) ?_ ?_
                            · by_cases h2120 : q2116 = true
                              · refine RA_yesB rfl rfl rfl rfl (h2120) (OA_v (v := .pointer (some ((⟨b5, 0, none⟩ : Addr).add 40))) rfl (V_fieldAddrN (B := ⟨b5, 0, none⟩) (m := 0) (o := 40) Try.underlying83 rfl nz67 rfl rfl) ?_)
                                refine RA_yesB rfl rfl rfl rfl (h2120) (OA_v (v := .pointer (some ((⟨b5, 0, none⟩ : Addr).add 42))) rfl (V_fieldAddrN (B := ⟨b5, 0, none⟩) (m := 40) (o := 42) Try.underlying67 rfl nz65 rfl rfl) ?_)
                                refine RA_yesB rfl rfl rfl rfl (h2120) (OA_r rfl (VR_load_blk (b := b5) (m := 42) (k := 0) Try.underlying65 rfl rfl rfl rfl) ?_)
                                refine RA_yesB rfl rfl rfl rfl (h2120) (OA_v (v := .int .i64 (a0.f16.f2.length : Int)) rfl (V_len Try.underlying65 rfl) ?_)
                                refine RA_yesB rfl rfl rfl rfl (h2120) (OA_v (v := .bool (decide ((a0.f16.f2.length : Int) = 0))) rfl (V_eql rfl rfl) ?_)
                                refine RA_step rfl (OA_v rfl (V_pickT rfl (h2120) rfl) ?_)
                                refine RA_nil ?_
                                exact at_normal (St.mk1 (aeq (congrArg Value.bool (and_t hq2119 (h2120))) aeq0) (Gh.sel [] rfl rfl))
                              · refine RA_noB rfl rfl rfl rfl (bno h2120) rfl ?_
                                refine RA_noB rfl rfl rfl rfl (bno h2120) rfl ?_
                                refine RA_noB rfl rfl rfl rfl (bno h2120) rfl ?_
                                refine RA_noB rfl rfl rfl rfl (bno h2120) rfl ?_
                                refine RA_noB rfl rfl rfl rfl (bno h2120) rfl ?_
                                refine RA_step rfl (OA_v rfl (V_pickF rfl (bno h2120) rfl) ?_)
                                refine RA_nil ?_
                                exact at_normal (St.mk1 (aeq (congrArg Value.bool (and_f hq2119 (bno h2120))) aeq0) (Gh.sel [] rfl rfl))
                            · rintro e ds As hst2121
                              refine RA.of_St rfl hst2121 fun junk => ?_
                              refine RA_step rfl (OA_v (v := .bool q2119) rfl (V_assign rfl) ?_)
                              refine RA_nil ?_
                              refine at_normal ?_
                              refine SA_ret ?_
                              have hr_ := Option.some.inj H
                              subst hr_
                              exact BQ_R1 [] rfl rfl (Gh.sel [] rfl rfl) ⟨rfl, rfl⟩
end Go.Proofs.Ytodkeoibebimgaa.Kc

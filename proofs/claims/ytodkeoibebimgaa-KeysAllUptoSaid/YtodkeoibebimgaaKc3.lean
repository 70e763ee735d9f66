/- What functions compute, and that they do: 74. -/
import Derived.Test.YtodkeoibebimgaaKc0
import Derived.Test.YtodkeoibebimgaaKc1
import Derived.Test.YtodkeoibebimgaaKc2
namespace Go.Proofs.Ytodkeoibebimgaa.Kc
open Go Go.RowKit Go.Proofs.Ytodkeoibebimgaa.SL
set_option linter.unusedVariables false
set_option linter.unusedSimpArgs false
attribute [local irreducible] IntKind.wrap minI maxI shrI shlI andI orI xorI andNotI cplI rd sub bytesOf strOf slA
/-! ### function 74: wayfarer/screen.May -/
def F74.l1 (a0 : S83) : Nat → Int → Int → Option (Out (Bool) (Unit))
  | 0, _, _ => none
  | k + 1, x6_55, x97_55 => if x97_55 < (a0.f7.length : Int) then (if 0 ≤ x97_55 ∧ x97_55 < (a0.f7.length : Int) then (lt (rd a0.f7 x97_55) fun n61 => lt ((decide (n61 ≤ x6_55)) || (decide (n61 ≥ a0.f0.f0))) fun q62 => if q62 = true then (some (Out.ret (false))) else (F74.l1 a0 k n61 (IntKind.i64.wrap (x97_55 + 1)))) else none) else (some (Out.go ()))
def F74.l0 (a0 : S83) : Nat → Int → Option (Out (Bool) (Unit))
  | 0, _ => none
  | k + 1, x56_31 => if x56_31 < 2 then (if 0 ≤ x56_31 ∧ x56_31 < (2 : Int) then (lt ((decide (((rd ([(S80.mk a0.f1 a0.f2 a0.f3 false (S70.mk 0 0 false false false false false false false false)), a0.f14] : List S80) x56_31).f0) < 0)) || (decide (((rd ([(S80.mk a0.f1 a0.f2 a0.f3 false (S70.mk 0 0 false false false false false false false false)), a0.f14] : List S80) x56_31).f0) ≥ a0.f0.f1))) fun q39 => lt (q39 || (decide (((rd ([(S80.mk a0.f1 a0.f2 a0.f3 false (S70.mk 0 0 false false false false false false false false)), a0.f14] : List S80) x56_31).f1) < 0))) fun q42 => lt (q42 || (decide (((rd ([(S80.mk a0.f1 a0.f2 a0.f3 false (S70.mk 0 0 false false false false false false false false)), a0.f14] : List S80) x56_31).f1) ≥ a0.f0.f0))) fun q45 => (if q45 = true then (some true) else (if ((rd ([(S80.mk a0.f1 a0.f2 a0.f3 false (S70.mk 0 0 false false false false false false false false)), a0.f14] : List S80) x56_31).f2) = true then (some (decide (((rd ([(S80.mk a0.f1 a0.f2 a0.f3 false (S70.mk 0 0 false false false false false false false false)), a0.f14] : List S80) x56_31).f1) ≠ (IntKind.i64.wrap (a0.f0.f0 - 1))))) else (some false)) : Option Bool).bind (fun q48 => if q48 = true then (some (Out.ret (false))) else (F74.l0 a0 k (IntKind.i64.wrap (x56_31 + 1))))) else none) else (some (Out.go ()))
def F74.f (k : Nat) (a0 : S83) : Option (Bool) := (F41.f k a0.f0).bind (fun r9 => (if (!r9) = true then (some true) else ((F71.f a0.f4).bind (fun r12 => some (!r12))) : Option Bool).bind (fun q10 => (if q10 = true then (some true) else ((F71.f a0.f14.f4).bind (fun r17 => some (!r17))) : Option Bool).bind (fun q15 => lt (q15 || (decide (a0.f5 < 0))) fun q20 => lt (q20 || (decide (a0.f5 > a0.f6))) fun q23 => lt (q23 || (decide (a0.f6 ≥ a0.f0.f1))) fun q26 => if q26 = true then (some (false)) else ((F74.l0 a0 k 0 : Option (Out (Bool) (Unit))).bind (fun t30 => Out.el t30 (fun r_ => some r_) (fun s31 => (F74.l1 a0 k (-1) 0 : Option (Out (Bool) (Unit))).bind (fun t54 => Out.el t54 (fun r_ => some r_) (fun s55 => (if a0.f15 = true then ((F41.f k a0.f16).bind (fun r69 => if (!r69) = true then (if true = true then (some true) else (some (decide (a0.f16.f1 ≠ a0.f0.f1)))) else (if a0.f16.f0 ≠ a0.f0.f0 then (some true) else (some (decide (a0.f16.f1 ≠ a0.f0.f1)))))) else (some false) : Option Bool).bind (fun q67 => (if q67 = true then (some true) else (if (!a0.f15) = true then ((F50.f k a0.f16 (S67.mk 0 0 ([] : (List S76)))).bind (fun r79 => some (!r79))) else (some false)) : Option Bool).bind (fun q75 => if q75 = true then (some (false)) else ((if (a0.f17.length : Int) ≤ 256 then ((F106.f k a0.f17 (fun (x0_ : Int) => F107.f x0_)).bind (fun r85 => some (!r85))) else (some false) : Option Bool).bind (fun q83 => some (q83)))))))))))))
set_option maxHeartbeats 2000000 in
set_option maxRecDepth 100000 in
theorem F74.ok {k : Nat} {a0 : S83} {A0_0 : Option Addr} {c0_0 : Nat} {A0_1 : Option Addr} {c0_1 : Nat} {A0_2 : Option Addr} {c0_2 : Nat} {A0_3 : Option Addr} {c0_3 : Nat} {r : Bool} (H : F74.f k a0 = some r) : SCA Try.prog 74 #[.agg (List.toArray (.int .i64 a0.f0.f0 :: .int .i64 a0.f0.f1 :: .slice A0_0 a0.f0.f2.length c0_0 :: .int .i64 a0.f1 :: .int .i64 a0.f2 :: .bool a0.f3 :: .int .i64 a0.f4.f0 :: .int .i64 a0.f4.f1 :: .bool a0.f4.f2 :: .bool a0.f4.f3 :: .bool a0.f4.f4 :: .bool a0.f4.f5 :: .bool a0.f4.f6 :: .bool a0.f4.f7 :: .bool a0.f4.f8 :: .bool a0.f4.f9 :: .int .i64 a0.f5 :: .int .i64 a0.f6 :: .slice A0_1 a0.f7.length c0_1 :: .bool a0.f8 :: .bool a0.f9 :: .bool a0.f10 :: .bool a0.f11 :: .bool a0.f12 :: .bool a0.f13 :: .int .i64 a0.f14.f0 :: .int .i64 a0.f14.f1 :: .bool a0.f14.f2 :: .bool a0.f14.f3 :: .int .i64 a0.f14.f4.f0 :: .int .i64 a0.f14.f4.f1 :: .bool a0.f14.f4.f2 :: .bool a0.f14.f4.f3 :: .bool a0.f14.f4.f4 :: .bool a0.f14.f4.f5 :: .bool a0.f14.f4.f6 :: .bool a0.f14.f4.f7 :: .bool a0.f14.f4.f8 :: .bool a0.f14.f4.f9 :: .bool a0.f15 :: .int .i64 a0.f16.f0 :: .int .i64 a0.f16.f1 :: .slice A0_2 a0.f16.f2.length c0_2 :: .slice A0_3 a0.f17.length c0_3 :: []))] [Ro k76 A0_0 c0_0 a0.f0.f2, Ro (Kd.int .i64) A0_1 c0_1 a0.f7, Ro k76 A0_2 c0_2 a0.f16.f2, Ro (Kd.int .i32) A0_3 c0_3 a0.f17] (fun v B => v = .bool r ∧ B = []) := by
  refine SCA_of_body Try.func74 rfl rfl ?_
  unfold F74.f at H
  refine SA_seq ?_
  refine SA_region ?_
  refine RA_step rfl (OA_box rfl rfl fun b5 => ?_)
  refine RA_step rfl (OA_v (v := .bool false) rfl (V_assign rfl) ?_)
  refine RA_nil ?_
  refine at_normal ?_
  refine SA_seq ?_
  refine SA_region ?_
  refine RA_step rfl (OA_v (v := .pointer (some ⟨b5, 0, none⟩)) rfl (V_fieldAddrN (B := ⟨b5, 0, none⟩) (m := 0) (o := 0) Try.underlying83 rfl nz67 rfl rfl) ?_)
  refine RA_step rfl (OA_r rfl (VR_loadA_blk (b := b5) (m := 0) (k := 4) (vs := [.int .i64 a0.f0.f0, .int .i64 a0.f0.f1, .slice A0_0 a0.f0.f2.length c0_0]) Try.underlying67 rfl sz67 rfl rfl rfl) ?_)
  refine RA_step rfl (OA_alloc rfl zero67 fun b7 => ?_)
  refine RA_step rfl (OA_st (b := b7) (m := 0) (k := 5) (vs := [.int .i64 a0.f0.f0, .int .i64 a0.f0.f1, .slice A0_0 a0.f0.f2.length c0_0]) (cs' := [.int .i64 a0.f0.f0, .int .i64 a0.f0.f1, .slice A0_0 a0.f0.f2.length c0_0]) rfl rfl rfl rfl rfl rfl sz67 rfl rfl ?_)
  refine RA_nil ?_
  refine at_normal ?_
  refine SA_seq ?_
  refine SA_seq ?_
  refine SA_region ?_
  refine RA_step rfl (OA_r rfl (VR_loadA_blk (b := b7) (m := 0) (k := 5) (vs := [.int .i64 a0.f0.f0, .int .i64 a0.f0.f1, .slice A0_0 a0.f0.f2.length c0_0]) Try.underlying67 rfl sz67 rfl rfl rfl) ?_)
  obtain ⟨r9, C88, H⟩ := g_bind H
  refine RA_step rfl (OA_callA [0] [0, 1, 2, 3, 4, 5] rfl (X_fn (vs := [.agg #[.int .i64 a0.f0.f0, .int .i64 a0.f0.f1, .slice A0_0 a0.f0.f2.length c0_0]]) Try.func41 nm41 rfl rfl) rfl (F41.ok (a0 := a0.f0) (A0_0 := A0_0) (c0_0 := c0_0) C88) rfl ?_)
  rintro _ _ ⟨rfl, rfl⟩
  refine RA_step rfl (OA_v (v := .bool (!r9)) rfl (V_not rfl) ?_)
  refine RA_step rfl (OA_v (v := .bool (!r9)) rfl (V_move rfl) ?_)
  obtain ⟨q10, H, Bq10⟩ := g_bind H
  refine RA_cut 5 (fun e ds As => St [(1, .pointer (some ⟨b5, 0, none⟩)), (3, .pointer (some ⟨b7, 0, none⟩)), (19, .bool q10)] [Blk b5 83 (.int .i64 a0.f0.f0 :: .int .i64 a0.f0.f1 :: .slice A0_0 a0.f0.f2.length c0_0 :: .int .i64 a0.f1 :: .int .i64 a0.f2 :: .bool a0.f3 :: .int .i64 a0.f4.f0 :: .int .i64 a0.f4.f1 :: .bool a0.f4.f2 :: .bool a0.f4.f3 :: .bool a0.f4.f4 :: .bool a0.f4.f5 :: .bool a0.f4.f6 :: .bool a0.f4.f7 :: .bool a0.f4.f8 :: .bool a0.f4.f9 :: .int .i64 a0.f5 :: .int .i64 a0.f6 :: .slice A0_1 a0.f7.length c0_1 :: .bool a0.f8 :: .bool a0.f9 :: .bool a0.f10 :: .bool a0.f11 :: .bool a0.f12 :: .bool a0.f13 :: .int .i64 a0.f14.f0 :: .int .i64 a0.f14.f1 :: .bool a0.f14.f2 :: .bool a0.f14.f3 :: .int .i64 a0.f14.f4.f0 :: .int .i64 a0.f14.f4.f1 :: .bool a0.f14.f4.f2 :: .bool a0.f14.f4.f3 :: .bool a0.f14.f4.f4 :: .bool a0.f14.f4.f5 :: .bool a0.f14.f4.f6 :: .bool a0.f14.f4.f7 :: .bool a0.f14.f4.f8 :: .bool a0.f14.f4.f9 :: .bool a0.f15 :: .int .i64 a0.f16.f0 :: .int .i64 a0.f16.f1 :: .slice A0_2 a0.f16.f2.length c0_2 :: .slice A0_3 a0.f17.length c0_3 :: []), Ro k76 A0_0 c0_0 a0.f0.f2, Ro (Kd.int .i64) A0_1 c0_1 a0.f7, Ro k76 A0_2 c0_2 a0.f16.f2, Ro (Kd.int .i32) A0_3 c0_3 a0.f17, Blk b7 67 [.int .i64 a0.f0.f0, .int .i64 a0.f0.f1, .slice A0_0 a0.f0.f2.length c0_0]] e ds As) ?_ ?_
  · by_cases h11 : (!r9) = true
    · replace H := g_ift h11 H
      refine RA_noB rfl rfl rfl rfl (h11) rfl ?_
      refine RA_noB rfl rfl rfl rfl (h11) rfl ?_
      refine RA_noB rfl rfl rfl rfl (h11) rfl ?_
      refine RA_noB rfl rfl rfl rfl (h11) rfl ?_
      refine RA_step rfl (OA_v rfl (V_pickT rfl (h11) rfl) ?_)
      have hr_ := Option.some.inj H
      subst hr_
      refine RA_nil ?_
      exact at_normal (St.mk1 (aeq rfl (aeq rfl (aeq rfl aeq0))) (Gh.sel [4, 0, 1, 2, 3, 5] rfl rfl))
    · replace H := g_iff h11 H
      refine RA_yesB rfl rfl rfl rfl (bno h11) (OA_v (v := .pointer (some ((⟨b5, 0, none⟩ : Addr).add 6))) rfl (V_fieldAddrN (B := ⟨b5, 0, none⟩) (m := 0) (o := 6) Try.underlying83 rfl nz70 rfl rfl) ?_)
      refine RA_yesB rfl rfl rfl rfl (bno h11) (OA_r rfl (VR_loadA_blk (b := b5) (m := 6) (k := 4) (vs := [.int .i64 a0.f4.f0, .int .i64 a0.f4.f1, .bool a0.f4.f2, .bool a0.f4.f3, .bool a0.f4.f4, .bool a0.f4.f5, .bool a0.f4.f6, .bool a0.f4.f7, .bool a0.f4.f8, .bool a0.f4.f9]) Try.underlying70 rfl sz70 rfl rfl rfl) ?_)
      obtain ⟨r12, C13, H⟩ := g_bind H
      refine RA_yesB rfl rfl rfl rfl (bno h11) (OA_callA [] [0, 1, 2, 3, 4, 5] rfl (X_fn (vs := [.agg #[.int .i64 a0.f4.f0, .int .i64 a0.f4.f1, .bool a0.f4.f2, .bool a0.f4.f3, .bool a0.f4.f4, .bool a0.f4.f5, .bool a0.f4.f6, .bool a0.f4.f7, .bool a0.f4.f8, .bool a0.f4.f9]]) Try.func71 nm71 rfl rfl) rfl (F71.ok (a0 := a0.f4) C13) rfl ?_)
      rintro _ _ ⟨rfl, rfl⟩
      refine RA_yesB rfl rfl rfl rfl (bno h11) (OA_v (v := .bool (!r12)) rfl (V_not rfl) ?_)
      refine RA_step rfl (OA_v rfl (V_pickF rfl (bno h11) rfl) ?_)
      have hr_ := Option.some.inj H
      subst hr_
      refine RA_nil ?_
      exact at_normal (St.mk1 (aeq rfl (aeq rfl (aeq rfl aeq0))) (Gh.sel [4, 0, 1, 2, 3, 5] rfl rfl))
  · rintro e ds As hst14
    clear H
    have H := Bq10
    clear Bq10
    refine RA.of_St rfl hst14 fun junk => ?_
    refine RA_step rfl (OA_v (v := .bool q10) rfl (V_move rfl) ?_)
    obtain ⟨q15, H, Bq15⟩ := g_bind H
    refine RA_cut 6 (fun e ds As => St [(1, .pointer (some ⟨b5, 0, none⟩)), (3, .pointer (some ⟨b7, 0, none⟩)), (26, .bool q15)] [Blk b5 83 (.int .i64 a0.f0.f0 :: .int .i64 a0.f0.f1 :: .slice A0_0 a0.f0.f2.length c0_0 :: .int .i64 a0.f1 :: .int .i64 a0.f2 :: .bool a0.f3 :: .int .i64 a0.f4.f0 :: .int .i64 a0.f4.f1 :: .bool a0.f4.f2 :: .bool a0.f4.f3 :: .bool a0.f4.f4 :: .bool a0.f4.f5 :: .bool a0.f4.f6 :: .bool a0.f4.f7 :: .bool a0.f4.f8 :: .bool a0.f4.f9 :: .int .i64 a0.f5 :: .int .i64 a0.f6 :: .slice A0_1 a0.f7.length c0_1 :: .bool a0.f8 :: .bool a0.f9 :: .bool a0.f10 :: .bool a0.f11 :: .bool a0.f12 :: .bool a0.f13 :: .int .i64 a0.f14.f0 :: .int .i64 a0.f14.f1 :: .bool a0.f14.f2 :: .bool a0.f14.f3 :: .int .i64 a0.f14.f4.f0 :: .int .i64 a0.f14.f4.f1 :: .bool a0.f14.f4.f2 :: .bool a0.f14.f4.f3 :: .bool a0.f14.f4.f4 :: .bool a0.f14.f4.f5 :: .bool a0.f14.f4.f6 :: .bool a0.f14.f4.f7 :: .bool a0.f14.f4.f8 :: .bool a0.f14.f4.f9 :: .bool a0.f15 :: .int .i64 a0.f16.f0 :: .int .i64 a0.f16.f1 :: .slice A0_2 a0.f16.f2.length c0_2 :: .slice A0_3 a0.f17.length c0_3 :: []), Ro k76 A0_0 c0_0 a0.f0.f2, Ro (Kd.int .i64) A0_1 c0_1 a0.f7, Ro k76 A0_2 c0_2 a0.f16.f2, Ro (Kd.int .i32) A0_3 c0_3 a0.f17, Blk b7 67 [.int .i64 a0.f0.f0, .int .i64 a0.f0.f1, .slice A0_0 a0.f0.f2.length c0_0]] e ds As) ?_ ?_
    · by_cases h16 : q10 = true
      · replace H := g_ift h16 H
        refine RA_noB rfl rfl rfl rfl (h16) rfl ?_
        refine RA_noB rfl rfl rfl rfl (h16) rfl ?_
        refine RA_noB rfl rfl rfl rfl (h16) rfl ?_
        refine RA_noB rfl rfl rfl rfl (h16) rfl ?_
        refine RA_noB rfl rfl rfl rfl (h16) rfl ?_
        refine RA_step rfl (OA_v rfl (V_pickT rfl (h16) rfl) ?_)
        have hr_ := Option.some.inj H
        subst hr_
        refine RA_nil ?_
        exact at_normal (St.mk1 (aeq rfl (aeq rfl (aeq rfl aeq0))) (Gh.sel [0, 1, 2, 3, 4, 5] rfl rfl))
      · replace H := g_iff h16 H
        refine RA_yesB rfl rfl rfl rfl (bno h16) (OA_v (v := .pointer (some ((⟨b5, 0, none⟩ : Addr).add 25))) rfl (V_fieldAddrN (B := ⟨b5, 0, none⟩) (m := 0) (o := 25) Try.underlying83 rfl nz80 rfl rfl) ?_)
        refine RA_yesB rfl rfl rfl rfl (bno h16) (OA_v (v := .pointer (some ((⟨b5, 0, none⟩ : Addr).add 29))) rfl (V_fieldAddrN (B := ⟨b5, 0, none⟩) (m := 25) (o := 29) Try.underlying80 rfl nz70 rfl rfl) ?_)
        refine RA_yesB rfl rfl rfl rfl (bno h16) (OA_r rfl (VR_loadA_blk (b := b5) (m := 29) (k := 0) (vs := [.int .i64 a0.f14.f4.f0, .int .i64 a0.f14.f4.f1, .bool a0.f14.f4.f2, .bool a0.f14.f4.f3, .bool a0.f14.f4.f4, .bool a0.f14.f4.f5, .bool a0.f14.f4.f6, .bool a0.f14.f4.f7, .bool a0.f14.f4.f8, .bool a0.f14.f4.f9]) Try.underlying70 rfl sz70 rfl rfl rfl) ?_)
        obtain ⟨r17, C18, H⟩ := g_bind H
        refine RA_yesB rfl rfl rfl rfl (bno h16) (OA_callA [] [0, 1, 2, 3, 4, 5] rfl (X_fn (vs := [.agg #[.int .i64 a0.f14.f4.f0, .int .i64 a0.f14.f4.f1, .bool a0.f14.f4.f2, .bool a0.f14.f4.f3, .bool a0.f14.f4.f4, .bool a0.f14.f4.f5, .bool a0.f14.f4.f6, .bool a0.f14.f4.f7, .bool a0.f14.f4.f8, .bool a0.f14.f4.f9]]) Try.func71 nm71 rfl rfl) rfl (F71.ok (a0 := a0.f14.f4) C18) rfl ?_)
        rintro _ _ ⟨rfl, rfl⟩
        refine RA_yesB rfl rfl rfl rfl (bno h16) (OA_v (v := .bool (!r17)) rfl (V_not rfl) ?_)
        refine RA_step rfl (OA_v rfl (V_pickF rfl (bno h16) rfl) ?_)
        have hr_ := Option.some.inj H
        subst hr_
        refine RA_nil ?_
        exact at_normal (St.mk1 (aeq rfl (aeq rfl (aeq rfl aeq0))) (Gh.sel [0, 1, 2, 3, 4, 5] rfl rfl))
    · rintro e ds As hst19
      clear H
      have H := Bq15
      clear Bq15
      refine RA.of_St rfl hst19 fun junk => ?_
      refine RA_step rfl (OA_v (v := .bool q15) rfl (V_move rfl) ?_)
      obtain ⟨q20, hq20, H⟩ := g_lt H
      refine RA_cut 4 (fun e ds As => St [(1, .pointer (some ⟨b5, 0, none⟩)), (3, .pointer (some ⟨b7, 0, none⟩)), (31, .bool q20)] [Blk b5 83 (.int .i64 a0.f0.f0 :: .int .i64 a0.f0.f1 :: .slice A0_0 a0.f0.f2.length c0_0 :: .int .i64 a0.f1 :: .int .i64 a0.f2 :: .bool a0.f3 :: .int .i64 a0.f4.f0 :: .int .i64 a0.f4.f1 :: .bool a0.f4.f2 :: .bool a0.f4.f3 :: .bool a0.f4.f4 :: .bool a0.f4.f5 :: .bool a0.f4.f6 :: .bool a0.f4.f7 :: .bool a0.f4.f8 :: .bool a0.f4.f9 :: .int .i64 a0.f5 :: .int .i64 a0.f6 :: .slice A0_1 a0.f7.length c0_1 :: .bool a0.f8 :: .bool a0.f9 :: .bool a0.f10 :: .bool a0.f11 :: .bool a0.f12 :: .bool a0.f13 :: .int .i64 a0.f14.f0 :: .int .i64 a0.f14.f1 :: .bool a0.f14.f2 :: .bool a0.f14.f3 :: .int .i64 a0.f14.f4.f0 :: .int .i64 a0.f14.f4.f1 :: .bool a0.f14.f4.f2 :: .bool a0.f14.f4.f3 :: .bool a0.f14.f4.f4 :: .bool a0.f14.f4.f5 :: .bool a0.f14.f4.f6 :: .bool a0.f14.f4.f7 :: .bool a0.f14.f4.f8 :: .bool a0.f14.f4.f9 :: .bool a0.f15 :: .int .i64 a0.f16.f0 :: .int .i64 a0.f16.f1 :: .slice A0_2 a0.f16.f2.length c0_2 :: .slice A0_3 a0.f17.length c0_3 :: []), Ro k76 A0_0 c0_0 a0.f0.f2, Ro (Kd.int .i64) A0_1 c0_1 a0.f7, Ro k76 A0_2 c0_2 a0.f16.f2, Ro (Kd.int .i32) A0_3 c0_3 a0.f17, Blk b7 67 [.int .i64 a0.f0.f0, .int .i64 a0.f0.f1, .slice A0_0 a0.f0.f2.length c0_0]] e ds As) ?_ ?_
      · by_cases h21 : q15 = true
        · refine RA_noB rfl rfl rfl rfl (h21) rfl ?_
          refine RA_noB rfl rfl rfl rfl (h21) rfl ?_
          refine RA_noB rfl rfl rfl rfl (h21) rfl ?_
          refine RA_step rfl (OA_v rfl (V_pickT rfl (h21) rfl) ?_)
          refine RA_nil ?_
          exact at_normal (St.mk1 (aeq rfl (aeq rfl (aeq (congrArg Value.bool (or_t hq20 (h21))) aeq0))) (Gh.sel [0, 1, 2, 3, 4, 5] rfl rfl))
        · refine RA_yesB rfl rfl rfl rfl (bno h21) (OA_v (v := .pointer (some ((⟨b5, 0, none⟩ : Addr).add 16))) rfl (V_fieldAddrN (B := ⟨b5, 0, none⟩) (m := 0) (o := 16) Try.underlying83 rfl nz3 rfl rfl) ?_)
          refine RA_yesB rfl rfl rfl rfl (bno h21) (OA_r rfl (VR_load_blk (b := b5) (m := 16) (k := 0) Try.underlying3 rfl rfl rfl rfl) ?_)
          refine RA_yesB rfl rfl rfl rfl (bno h21) (OA_v (v := .bool (decide (a0.f5 < 0))) rfl (V_lss rfl rfl) ?_)
          refine RA_step rfl (OA_v rfl (V_pickF rfl (bno h21) rfl) ?_)
          refine RA_nil ?_
          exact at_normal (St.mk1 (aeq rfl (aeq rfl (aeq (congrArg Value.bool (or_f hq20 (bno h21))) aeq0))) (Gh.sel [0, 1, 2, 3, 4, 5] rfl rfl))
      · rintro e ds As hst22
        refine RA.of_St rfl hst22 fun junk => ?_
        refine RA_step rfl (OA_v (v := .bool q20) rfl (V_move rfl) ?_)
        obtain ⟨q23, hq23, H⟩ := g_lt H
        refine RA_cut 6 (fun e ds As => St [(1, .pointer (some ⟨b5, 0, none⟩)), (3, .pointer (some ⟨b7, 0, none⟩)), (38, .bool q23)] [Blk b5 83 (.int .i64 a0.f0.f0 :: .int .i64 a0.f0.f1 :: .slice A0_0 a0.f0.f2.length c0_0 :: .int .i64 a0.f1 :: .int .i64 a0.f2 :: .bool a0.f3 :: .int .i64 a0.f4.f0 :: .int .i64 a0.f4.f1 :: .bool a0.f4.f2 :: .bool a0.f4.f3 :: .bool a0.f4.f4 :: .bool a0.f4.f5 :: .bool a0.f4.f6 :: .bool a0.f4.f7 :: .bool a0.f4.f8 :: .bool a0.f4.f9 :: .int .i64 a0.f5 :: .int .i64 a0.f6 :: .slice A0_1 a0.f7.length c0_1 :: .bool a0.f8 :: .bool a0.f9 :: .bool a0.f10 :: .bool a0.f11 :: .bool a0.f12 :: .bool a0.f13 :: .int .i64 a0.f14.f0 :: .int .i64 a0.f14.f1 :: .bool a0.f14.f2 :: .bool a0.f14.f3 :: .int .i64 a0.f14.f4.f0 :: .int .i64 a0.f14.f4.f1 :: .bool a0.f14.f4.f2 :: .bool a0.f14.f4.f3 :: .bool a0.f14.f4.f4 :: .bool a0.f14.f4.f5 :: .bool a0.f14.f4.f6 :: .bool a0.f14.f4.f7 :: .bool a0.f14.f4.f8 :: .bool a0.f14.f4.f9 :: .bool a0.f15 :: .int .i64 a0.f16.f0 :: .int .i64 a0.f16.f1 :: .slice A0_2 a0.f16.f2.length c0_2 :: .slice A0_3 a0.f17.length c0_3 :: []), Ro k76 A0_0 c0_0 a0.f0.f2, Ro (Kd.int .i64) A0_1 c0_1 a0.f7, Ro k76 A0_2 c0_2 a0.f16.f2, Ro (Kd.int .i32) A0_3 c0_3 a0.f17, Blk b7 67 [.int .i64 a0.f0.f0, .int .i64 a0.f0.f1, .slice A0_0 a0.f0.f2.length c0_0]] e ds As) ?_ ?_
        · by_cases h24 : q20 = true
          · refine RA_noB rfl rfl rfl rfl (h24) rfl ?_
            refine RA_noB rfl rfl rfl rfl (h24) rfl ?_
            refine RA_noB rfl rfl rfl rfl (h24) rfl ?_
            refine RA_noB rfl rfl rfl rfl (h24) rfl ?_
            refine RA_noB rfl rfl rfl rfl (h24) rfl ?_
            refine RA_step rfl (OA_v rfl (V_pickT rfl (h24) rfl) ?_)
            refine RA_nil ?_
            exact at_normal (St.mk1 (aeq rfl (aeq rfl (aeq (congrArg Value.bool (or_t hq23 (h24))) aeq0))) (Gh.sel [0, 1, 2, 3, 4, 5] rfl rfl))
          · refine RA_yesB rfl rfl rfl rfl (bno h24) (OA_v (v := .pointer (some ((⟨b5, 0, none⟩ : Addr).add 16))) rfl (V_fieldAddrN (B := ⟨b5, 0, none⟩) (m := 0) (o := 16) Try.underlying83 rfl nz3 rfl rfl) ?_)
            refine RA_yesB rfl rfl rfl rfl (bno h24) (OA_r rfl (VR_load_blk (b := b5) (m := 16) (k := 0) Try.underlying3 rfl rfl rfl rfl) ?_)
            refine RA_yesB rfl rfl rfl rfl (bno h24) (OA_v (v := .pointer (some ((⟨b5, 0, none⟩ : Addr).add 17))) rfl (V_fieldAddrN (B := ⟨b5, 0, none⟩) (m := 0) (o := 17) Try.underlying83 rfl nz3 rfl rfl) ?_)
            refine RA_yesB rfl rfl rfl rfl (bno h24) (OA_r rfl (VR_load_blk (b := b5) (m := 17) (k := 0) Try.underlying3 rfl rfl rfl rfl) ?_)
            refine RA_yesB rfl rfl rfl rfl (bno h24) (OA_v (v := .bool (decide (a0.f5 > a0.f6))) rfl (V_gtr rfl rfl) ?_)
            refine RA_step rfl (OA_v rfl (V_pickF rfl (bno h24) rfl) ?_)
            refine RA_nil ?_
            exact at_normal (St.mk1 (aeq rfl (aeq rfl (aeq (congrArg Value.bool (or_f hq23 (bno h24))) aeq0))) (Gh.sel [0, 1, 2, 3, 4, 5] rfl rfl))
        · rintro e ds As hst25
          refine RA.of_St rfl hst25 fun junk => ?_
          refine RA_step rfl (OA_v (v := .bool q23) rfl (V_move rfl) ?_)
          obtain ⟨q26, hq26, H⟩ := g_lt H
          refine RA_cut 6 (fun e ds As => St [(1, .pointer (some ⟨b5, 0, none⟩)), (3, .pointer (some ⟨b7, 0, none⟩)), (45, .bool q26)] [Blk b5 83 (.int .i64 a0.f0.f0 :: .int .i64 a0.f0.f1 :: .slice A0_0 a0.f0.f2.length c0_0 :: .int .i64 a0.f1 :: .int .i64 a0.f2 :: .bool a0.f3 :: .int .i64 a0.f4.f0 :: .int .i64 a0.f4.f1 :: .bool a0.f4.f2 :: .bool a0.f4.f3 :: .bool a0.f4.f4 :: .bool a0.f4.f5 :: .bool a0.f4.f6 :: .bool a0.f4.f7 :: .bool a0.f4.f8 :: .bool a0.f4.f9 :: .int .i64 a0.f5 :: .int .i64 a0.f6 :: .slice A0_1 a0.f7.length c0_1 :: .bool a0.f8 :: .bool a0.f9 :: .bool a0.f10 :: .bool a0.f11 :: .bool a0.f12 :: .bool a0.f13 :: .int .i64 a0.f14.f0 :: .int .i64 a0.f14.f1 :: .bool a0.f14.f2 :: .bool a0.f14.f3 :: .int .i64 a0.f14.f4.f0 :: .int .i64 a0.f14.f4.f1 :: .bool a0.f14.f4.f2 :: .bool a0.f14.f4.f3 :: .bool a0.f14.f4.f4 :: .bool a0.f14.f4.f5 :: .bool a0.f14.f4.f6 :: .bool a0.f14.f4.f7 :: .bool a0.f14.f4.f8 :: .bool a0.f14.f4.f9 :: .bool a0.f15 :: .int .i64 a0.f16.f0 :: .int .i64 a0.f16.f1 :: .slice A0_2 a0.f16.f2.length c0_2 :: .slice A0_3 a0.f17.length c0_3 :: []), Ro k76 A0_0 c0_0 a0.f0.f2, Ro (Kd.int .i64) A0_1 c0_1 a0.f7, Ro k76 A0_2 c0_2 a0.f16.f2, Ro (Kd.int .i32) A0_3 c0_3 a0.f17, Blk b7 67 [.int .i64 a0.f0.f0, .int .i64 a0.f0.f1, .slice A0_0 a0.f0.f2.length c0_0]] e ds As) ?_ ?_
          · by_cases h27 : q23 = true
            · refine RA_noB rfl rfl rfl rfl (h27) rfl ?_
              refine RA_noB rfl rfl rfl rfl (h27) rfl ?_
              refine RA_noB rfl rfl rfl rfl (h27) rfl ?_
              refine RA_noB rfl rfl rfl rfl (h27) rfl ?_
              refine RA_noB rfl rfl rfl rfl (h27) rfl ?_
              refine RA_step rfl (OA_v rfl (V_pickT rfl (h27) rfl) ?_)
              refine RA_nil ?_
              exact at_normal (St.mk1 (aeq rfl (aeq rfl (aeq (congrArg Value.bool (or_t hq26 (h27))) aeq0))) (Gh.sel [0, 1, 2, 3, 4, 5] rfl rfl))
            · refine RA_yesB rfl rfl rfl rfl (bno h27) (OA_v (v := .pointer (some ((⟨b5, 0, none⟩ : Addr).add 17))) rfl (V_fieldAddrN (B := ⟨b5, 0, none⟩) (m := 0) (o := 17) Try.underlying83 rfl nz3 rfl rfl) ?_)
              refine RA_yesB rfl rfl rfl rfl (bno h27) (OA_r rfl (VR_load_blk (b := b5) (m := 17) (k := 0) Try.underlying3 rfl rfl rfl rfl) ?_)
              refine RA_yesB rfl rfl rfl rfl (bno h27) (OA_v (v := .pointer (some ((⟨b7, 0, none⟩ : Addr).add 1))) rfl (V_fieldAddrN (B := ⟨b7, 0, none⟩) (m := 0) (o := 1) Try.underlying67 rfl nz3 rfl rfl) ?_)
              refine RA_yesB rfl rfl rfl rfl (bno h27) (OA_r rfl (VR_load_blk (b := b7) (m := 1) (k := 5) Try.underlying3 rfl rfl rfl rfl) ?_)
              refine RA_yesB rfl rfl rfl rfl (bno h27) (OA_v (v := .bool (decide (a0.f6 ≥ a0.f0.f1))) rfl (V_geq rfl rfl) ?_)
              refine RA_step rfl (OA_v rfl (V_pickF rfl (bno h27) rfl) ?_)
              refine RA_nil ?_
              exact at_normal (St.mk1 (aeq rfl (aeq rfl (aeq (congrArg Value.bool (or_f hq26 (bno h27))) aeq0))) (Gh.sel [0, 1, 2, 3, 4, 5] rfl rfl))
          · rintro e ds As hst28
            refine RA_nil ?_
            refine at_normal ?_
            refine SA.of_St hst28 fun junk => ?_
            by_cases h29 : q26 = true
            · replace H := g_ift h29 H
              refine SA_condTb rfl h29 ?_
              refine SA_seq ?_
              refine SA_region ?_
              refine RA_step rfl (OA_v (v := .bool false) rfl (V_assign rfl) ?_)
              refine RA_nil ?_
              refine at_normal ?_
              refine SA_ret ?_
              refine thn_ret ?_
              have hr_ := Option.some.inj H
              subst hr_
              exact BQ_R1 [] rfl rfl (Gh.sel [] rfl rfl) ⟨rfl, rfl⟩
            · replace H := g_iff h29 H
              refine SA_condFb rfl h29 ?_
              refine SA_skip ?_
              refine at_normal ?_
              refine SA_seq ?_
              refine SA_seq ?_
              refine SA_region ?_
              refine RA_step rfl (OA_v (v := .pointer (some ((⟨b5, 0, none⟩ : Addr).add 3))) rfl (V_fieldAddrN (B := ⟨b5, 0, none⟩) (m := 0) (o := 3) Try.underlying83 rfl nz3 rfl rfl) ?_)
              refine RA_step rfl (OA_r rfl (VR_load_blk (b := b5) (m := 3) (k := 0) Try.underlying3 rfl rfl rfl rfl) ?_)
              refine RA_step rfl (OA_v (v := .pointer (some ((⟨b5, 0, none⟩ : Addr).add 4))) rfl (V_fieldAddrN (B := ⟨b5, 0, none⟩) (m := 0) (o := 4) Try.underlying83 rfl nz3 rfl rfl) ?_)
              refine RA_step rfl (OA_r rfl (VR_load_blk (b := b5) (m := 4) (k := 0) Try.underlying3 rfl rfl rfl rfl) ?_)
              refine RA_step rfl (OA_v (v := .pointer (some ((⟨b5, 0, none⟩ : Addr).add 5))) rfl (V_fieldAddrN (B := ⟨b5, 0, none⟩) (m := 0) (o := 5) Try.underlying83 rfl nz4 rfl rfl) ?_)
              refine RA_step rfl (OA_r rfl (VR_load_blk (b := b5) (m := 5) (k := 0) Try.underlying4 rfl rfl rfl rfl) ?_)
              refine RA_step rfl (OA_v (v := .agg (List.toArray (.int .i64 a0.f1 :: .int .i64 a0.f2 :: .bool a0.f3 :: .bool false :: .int .i64 0 :: .int .i64 0 :: .bool false :: .bool false :: .bool false :: .bool false :: .bool false :: .bool false :: .bool false :: .bool false :: []))) rfl (V_build (cells := (.int .i64 a0.f1 :: .int .i64 a0.f2 :: .bool a0.f3 :: .bool false :: .int .i64 0 :: .int .i64 0 :: .bool false :: .bool false :: .bool false :: .bool false :: .bool false :: .bool false :: .bool false :: .bool false :: [])) zero80 Try.underlying80 plc80 (by kernel_rfl)) ?_)
              refine RA_step rfl (OA_v (v := .pointer (some ((⟨b5, 0, none⟩ : Addr).add 25))) rfl (V_fieldAddrN (B := ⟨b5, 0, none⟩) (m := 0) (o := 25) Try.underlying83 rfl nz80 rfl rfl) ?_)
              refine RA_step rfl (OA_r rfl (VR_loadA_blk (b := b5) (m := 25) (k := 0) (vs := (.int .i64 a0.f14.f0 :: .int .i64 a0.f14.f1 :: .bool a0.f14.f2 :: .bool a0.f14.f3 :: .int .i64 a0.f14.f4.f0 :: .int .i64 a0.f14.f4.f1 :: .bool a0.f14.f4.f2 :: .bool a0.f14.f4.f3 :: .bool a0.f14.f4.f4 :: .bool a0.f14.f4.f5 :: .bool a0.f14.f4.f6 :: .bool a0.f14.f4.f7 :: .bool a0.f14.f4.f8 :: .bool a0.f14.f4.f9 :: [])) Try.underlying80 rfl sz80 rfl rfl rfl) ?_)
              refine RA_step rfl (OA_v (v := .agg (List.toArray (.int .i64 a0.f1 :: .int .i64 a0.f2 :: .bool a0.f3 :: .bool false :: .int .i64 0 :: .int .i64 0 :: .bool false :: .bool false :: .bool false :: .bool false :: .bool false :: .bool false :: .bool false :: .bool false :: .int .i64 a0.f14.f0 :: .int .i64 a0.f14.f1 :: .bool a0.f14.f2 :: .bool a0.f14.f3 :: .int .i64 a0.f14.f4.f0 :: .int .i64 a0.f14.f4.f1 :: .bool a0.f14.f4.f2 :: .bool a0.f14.f4.f3 :: .bool a0.f14.f4.f4 :: .bool a0.f14.f4.f5 :: .bool a0.f14.f4.f6 :: .bool a0.f14.f4.f7 :: .bool a0.f14.f4.f8 :: .bool a0.f14.f4.f9 :: []))) rfl (V_buildA (cells := (.int .i64 a0.f1 :: .int .i64 a0.f2 :: .bool a0.f3 :: .bool false :: .int .i64 0 :: .int .i64 0 :: .bool false :: .bool false :: .bool false :: .bool false :: .bool false :: .bool false :: .bool false :: .bool false :: .int .i64 a0.f14.f0 :: .int .i64 a0.f14.f1 :: .bool a0.f14.f2 :: .bool a0.f14.f3 :: .int .i64 a0.f14.f4.f0 :: .int .i64 a0.f14.f4.f1 :: .bool a0.f14.f4.f2 :: .bool a0.f14.f4.f3 :: .bool a0.f14.f4.f4 :: .bool a0.f14.f4.f5 :: .bool a0.f14.f4.f6 :: .bool a0.f14.f4.f7 :: .bool a0.f14.f4.f8 :: .bool a0.f14.f4.f9 :: [])) (sz := 14) zero177 Try.underlying177 sz80 (by kernel_rfl)) ?_)
              refine RA_step rfl (OA_v (v := .int .i64 0) rfl (V_move rfl) ?_)
              refine RA_nil ?_
              refine at_normal ?_
              obtain ⟨t30, H, Bt30⟩ := g_bind H
              refine SA_mid (fun e ds As => ∃ (s31 : Unit), t30 = Out.go s31 ∧ St [(1, .pointer (some ⟨b5, 0, none⟩)), (3, .pointer (some ⟨b7, 0, none⟩))] [Blk b5 83 (.int .i64 a0.f0.f0 :: .int .i64 a0.f0.f1 :: .slice A0_0 a0.f0.f2.length c0_0 :: .int .i64 a0.f1 :: .int .i64 a0.f2 :: .bool a0.f3 :: .int .i64 a0.f4.f0 :: .int .i64 a0.f4.f1 :: .bool a0.f4.f2 :: .bool a0.f4.f3 :: .bool a0.f4.f4 :: .bool a0.f4.f5 :: .bool a0.f4.f6 :: .bool a0.f4.f7 :: .bool a0.f4.f8 :: .bool a0.f4.f9 :: .int .i64 a0.f5 :: .int .i64 a0.f6 :: .slice A0_1 a0.f7.length c0_1 :: .bool a0.f8 :: .bool a0.f9 :: .bool a0.f10 :: .bool a0.f11 :: .bool a0.f12 :: .bool a0.f13 :: .int .i64 a0.f14.f0 :: .int .i64 a0.f14.f1 :: .bool a0.f14.f2 :: .bool a0.f14.f3 :: .int .i64 a0.f14.f4.f0 :: .int .i64 a0.f14.f4.f1 :: .bool a0.f14.f4.f2 :: .bool a0.f14.f4.f3 :: .bool a0.f14.f4.f4 :: .bool a0.f14.f4.f5 :: .bool a0.f14.f4.f6 :: .bool a0.f14.f4.f7 :: .bool a0.f14.f4.f8 :: .bool a0.f14.f4.f9 :: .bool a0.f15 :: .int .i64 a0.f16.f0 :: .int .i64 a0.f16.f1 :: .slice A0_2 a0.f16.f2.length c0_2 :: .slice A0_3 a0.f17.length c0_3 :: []), Ro k76 A0_0 c0_0 a0.f0.f2, Ro (Kd.int .i64) A0_1 c0_1 a0.f7, Ro k76 A0_2 c0_2 a0.f16.f2, Ro (Kd.int .i32) A0_3 c0_3 a0.f17, Blk b7 67 [.int .i64 a0.f0.f0, .int .i64 a0.f0.f1, .slice A0_0 a0.f0.f2.length c0_0]] e ds As) ?_ ?_
              · refine SA_block ?_
                refine SA_loop (fun k_ e ds As => ∃ (x56_31 : Int), F74.l0 a0 k_ x56_31 = some t30 ∧ St [(1, .pointer (some ⟨b5, 0, none⟩)), (3, .pointer (some ⟨b7, 0, none⟩)), (55, .agg (List.toArray (.int .i64 a0.f1 :: .int .i64 a0.f2 :: .bool a0.f3 :: .bool false :: .int .i64 0 :: .int .i64 0 :: .bool false :: .bool false :: .bool false :: .bool false :: .bool false :: .bool false :: .bool false :: .bool false :: .int .i64 a0.f14.f0 :: .int .i64 a0.f14.f1 :: .bool a0.f14.f2 :: .bool a0.f14.f3 :: .int .i64 a0.f14.f4.f0 :: .int .i64 a0.f14.f4.f1 :: .bool a0.f14.f4.f2 :: .bool a0.f14.f4.f3 :: .bool a0.f14.f4.f4 :: .bool a0.f14.f4.f5 :: .bool a0.f14.f4.f6 :: .bool a0.f14.f4.f7 :: .bool a0.f14.f4.f8 :: .bool a0.f14.f4.f9 :: []))), (56, .int .i64 x56_31)] [Blk b5 83 (.int .i64 a0.f0.f0 :: .int .i64 a0.f0.f1 :: .slice A0_0 a0.f0.f2.length c0_0 :: .int .i64 a0.f1 :: .int .i64 a0.f2 :: .bool a0.f3 :: .int .i64 a0.f4.f0 :: .int .i64 a0.f4.f1 :: .bool a0.f4.f2 :: .bool a0.f4.f3 :: .bool a0.f4.f4 :: .bool a0.f4.f5 :: .bool a0.f4.f6 :: .bool a0.f4.f7 :: .bool a0.f4.f8 :: .bool a0.f4.f9 :: .int .i64 a0.f5 :: .int .i64 a0.f6 :: .slice A0_1 a0.f7.length c0_1 :: .bool a0.f8 :: .bool a0.f9 :: .bool a0.f10 :: .bool a0.f11 :: .bool a0.f12 :: .bool a0.f13 :: .int .i64 a0.f14.f0 :: .int .i64 a0.f14.f1 :: .bool a0.f14.f2 :: .bool a0.f14.f3 :: .int .i64 a0.f14.f4.f0 :: .int .i64 a0.f14.f4.f1 :: .bool a0.f14.f4.f2 :: .bool a0.f14.f4.f3 :: .bool a0.f14.f4.f4 :: .bool a0.f14.f4.f5 :: .bool a0.f14.f4.f6 :: .bool a0.f14.f4.f7 :: .bool a0.f14.f4.f8 :: .bool a0.f14.f4.f9 :: .bool a0.f15 :: .int .i64 a0.f16.f0 :: .int .i64 a0.f16.f1 :: .slice A0_2 a0.f16.f2.length c0_2 :: .slice A0_3 a0.f17.length c0_3 :: []), Ro k76 A0_0 c0_0 a0.f0.f2, Ro (Kd.int .i64) A0_1 c0_1 a0.f7, Ro k76 A0_2 c0_2 a0.f16.f2, Ro (Kd.int .i32) A0_3 c0_3 a0.f17, Blk b7 67 [.int .i64 a0.f0.f0, .int .i64 a0.f0.f1, .slice A0_0 a0.f0.f2.length c0_0]] e ds As) (k := k) ⟨_, H, St.mk1 (aeq rfl (aeq rfl (aeq rfl (aeq rfl aeq0)))) (Gh.sel [0, 1, 2, 3, 4, 5] rfl rfl)⟩ ?_
                clear H
                rintro k32 e ds As ⟨x56_31, H, hst33⟩
                obtain _ | k32 := k32
                · cases H
                rw [F74.l0] at H
                refine SA.of_St hst33 fun junk => ?_
                refine SA_seq ?_
                refine SA_region ?_
                refine RA_step rfl (OA_v (v := .bool (decide (x56_31 < 2))) rfl (V_lss rfl rfl) ?_)
                refine RA_nil ?_
                refine at_normal ?_
                refine SA_seq ?_
                by_cases h34 : x56_31 < 2
                · replace H := g_ift h34 H
                  refine SA_condT rfl h34 ?_
                  refine SA_skip ?_
                  refine at_normal ?_
                  refine SA_seq ?_
                  refine SA_block ?_
                  refine SA_seq ?_
                  refine SA_region ?_
                  obtain ⟨⟨g35, g36⟩, H⟩ := g_pos H
                  refine RA_step rfl (OA_v (v := .agg (List.toArray (.int .i64 ((rd ([(S80.mk a0.f1 a0.f2 a0.f3 false (S70.mk 0 0 false false false false false false false false)), a0.f14] : List S80) x56_31).f0) :: .int .i64 ((rd ([(S80.mk a0.f1 a0.f2 a0.f3 false (S70.mk 0 0 false false false false false false false false)), a0.f14] : List S80) x56_31).f1) :: .bool ((rd ([(S80.mk a0.f1 a0.f2 a0.f3 false (S70.mk 0 0 false false false false false false false false)), a0.f14] : List S80) x56_31).f2) :: .bool ((rd ([(S80.mk a0.f1 a0.f2 a0.f3 false (S70.mk 0 0 false false false false false false false false)), a0.f14] : List S80) x56_31).f3) :: .int .i64 (((rd ([(S80.mk a0.f1 a0.f2 a0.f3 false (S70.mk 0 0 false false false false false false false false)), a0.f14] : List S80) x56_31).f4).f0) :: .int .i64 (((rd ([(S80.mk a0.f1 a0.f2 a0.f3 false (S70.mk 0 0 false false false false false false false false)), a0.f14] : List S80) x56_31).f4).f1) :: .bool (((rd ([(S80.mk a0.f1 a0.f2 a0.f3 false (S70.mk 0 0 false false false false false false false false)), a0.f14] : List S80) x56_31).f4).f2) :: .bool (((rd ([(S80.mk a0.f1 a0.f2 a0.f3 false (S70.mk 0 0 false false false false false false false false)), a0.f14] : List S80) x56_31).f4).f3) :: .bool (((rd ([(S80.mk a0.f1 a0.f2 a0.f3 false (S70.mk 0 0 false false false false false false false false)), a0.f14] : List S80) x56_31).f4).f4) :: .bool (((rd ([(S80.mk a0.f1 a0.f2 a0.f3 false (S70.mk 0 0 false false false false false false false false)), a0.f14] : List S80) x56_31).f4).f5) :: .bool (((rd ([(S80.mk a0.f1 a0.f2 a0.f3 false (S70.mk 0 0 false false false false false false false false)), a0.f14] : List S80) x56_31).f4).f6) :: .bool (((rd ([(S80.mk a0.f1 a0.f2 a0.f3 false (S70.mk 0 0 false false false false false false false false)), a0.f14] : List S80) x56_31).f4).f7) :: .bool (((rd ([(S80.mk a0.f1 a0.f2 a0.f3 false (S70.mk 0 0 false false false false false false false false)), a0.f14] : List S80) x56_31).f4).f8) :: .bool (((rd ([(S80.mk a0.f1 a0.f2 a0.f3 false (S70.mk 0 0 false false false false false false false false)), a0.f14] : List S80) x56_31).f4).f9) :: []))) rfl (V_indexVA (kd := k80) (i := x56_31) (cs := (.int .i64 a0.f1 :: .int .i64 a0.f2 :: .bool a0.f3 :: .bool false :: .int .i64 0 :: .int .i64 0 :: .bool false :: .bool false :: .bool false :: .bool false :: .bool false :: .bool false :: .bool false :: .bool false :: .int .i64 a0.f14.f0 :: .int .i64 a0.f14.f1 :: .bool a0.f14.f2 :: .bool a0.f14.f3 :: .int .i64 a0.f14.f4.f0 :: .int .i64 a0.f14.f4.f1 :: .bool a0.f14.f4.f2 :: .bool a0.f14.f4.f3 :: .bool a0.f14.f4.f4 :: .bool a0.f14.f4.f5 :: .bool a0.f14.f4.f6 :: .bool a0.f14.f4.f7 :: .bool a0.f14.f4.f8 :: .bool a0.f14.f4.f9 :: [])) (xs := ([(S80.mk a0.f1 a0.f2 a0.f3 false (S70.mk 0 0 false false false false false false false false)), a0.f14] : List S80)) (vs := (.int .i64 ((rd ([(S80.mk a0.f1 a0.f2 a0.f3 false (S70.mk 0 0 false false false false false false false false)), a0.f14] : List S80) x56_31).f0) :: .int .i64 ((rd ([(S80.mk a0.f1 a0.f2 a0.f3 false (S70.mk 0 0 false false false false false false false false)), a0.f14] : List S80) x56_31).f1) :: .bool ((rd ([(S80.mk a0.f1 a0.f2 a0.f3 false (S70.mk 0 0 false false false false false false false false)), a0.f14] : List S80) x56_31).f2) :: .bool ((rd ([(S80.mk a0.f1 a0.f2 a0.f3 false (S70.mk 0 0 false false false false false false false false)), a0.f14] : List S80) x56_31).f3) :: .int .i64 (((rd ([(S80.mk a0.f1 a0.f2 a0.f3 false (S70.mk 0 0 false false false false false false false false)), a0.f14] : List S80) x56_31).f4).f0) :: .int .i64 (((rd ([(S80.mk a0.f1 a0.f2 a0.f3 false (S70.mk 0 0 false false false false false false false false)), a0.f14] : List S80) x56_31).f4).f1) :: .bool (((rd ([(S80.mk a0.f1 a0.f2 a0.f3 false (S70.mk 0 0 false false false false false false false false)), a0.f14] : List S80) x56_31).f4).f2) :: .bool (((rd ([(S80.mk a0.f1 a0.f2 a0.f3 false (S70.mk 0 0 false false false false false false false false)), a0.f14] : List S80) x56_31).f4).f3) :: .bool (((rd ([(S80.mk a0.f1 a0.f2 a0.f3 false (S70.mk 0 0 false false false false false false false false)), a0.f14] : List S80) x56_31).f4).f4) :: .bool (((rd ([(S80.mk a0.f1 a0.f2 a0.f3 false (S70.mk 0 0 false false false false false false false false)), a0.f14] : List S80) x56_31).f4).f5) :: .bool (((rd ([(S80.mk a0.f1 a0.f2 a0.f3 false (S70.mk 0 0 false false false false false false false false)), a0.f14] : List S80) x56_31).f4).f6) :: .bool (((rd ([(S80.mk a0.f1 a0.f2 a0.f3 false (S70.mk 0 0 false false false false false false false false)), a0.f14] : List S80) x56_31).f4).f7) :: .bool (((rd ([(S80.mk a0.f1 a0.f2 a0.f3 false (S70.mk 0 0 false false false false false false false false)), a0.f14] : List S80) x56_31).f4).f8) :: .bool (((rd ([(S80.mk a0.f1 a0.f2 a0.f3 false (S70.mk 0 0 false false false false false false false false)), a0.f14] : List S80) x56_31).f4).f9) :: [])) Try.underlying177 sz80 Try.underlying80 rfl rfl rfl (RL_enc enc80 (fun _ _ => rfl) (by kernel_rfl) _) rfl rfl g35 g36 (fun _ h_ => by rw [h_]; rfl)) ?_)
                  refine RA_step rfl (OA_alloc rfl zero80 fun b37 => ?_)
                  refine RA_step rfl (OA_st (b := b37) (m := 0) (k := 6) (vs := (.int .i64 ((rd ([(S80.mk a0.f1 a0.f2 a0.f3 false (S70.mk 0 0 false false false false false false false false)), a0.f14] : List S80) x56_31).f0) :: .int .i64 ((rd ([(S80.mk a0.f1 a0.f2 a0.f3 false (S70.mk 0 0 false false false false false false false false)), a0.f14] : List S80) x56_31).f1) :: .bool ((rd ([(S80.mk a0.f1 a0.f2 a0.f3 false (S70.mk 0 0 false false false false false false false false)), a0.f14] : List S80) x56_31).f2) :: .bool ((rd ([(S80.mk a0.f1 a0.f2 a0.f3 false (S70.mk 0 0 false false false false false false false false)), a0.f14] : List S80) x56_31).f3) :: .int .i64 (((rd ([(S80.mk a0.f1 a0.f2 a0.f3 false (S70.mk 0 0 false false false false false false false false)), a0.f14] : List S80) x56_31).f4).f0) :: .int .i64 (((rd ([(S80.mk a0.f1 a0.f2 a0.f3 false (S70.mk 0 0 false false false false false false false false)), a0.f14] : List S80) x56_31).f4).f1) :: .bool (((rd ([(S80.mk a0.f1 a0.f2 a0.f3 false (S70.mk 0 0 false false false false false false false false)), a0.f14] : List S80) x56_31).f4).f2) :: .bool (((rd ([(S80.mk a0.f1 a0.f2 a0.f3 false (S70.mk 0 0 false false false false false false false false)), a0.f14] : List S80) x56_31).f4).f3) :: .bool (((rd ([(S80.mk a0.f1 a0.f2 a0.f3 false (S70.mk 0 0 false false false false false false false false)), a0.f14] : List S80) x56_31).f4).f4) :: .bool (((rd ([(S80.mk a0.f1 a0.f2 a0.f3 false (S70.mk 0 0 false false false false false false false false)), a0.f14] : List S80) x56_31).f4).f5) :: .bool (((rd ([(S80.mk a0.f1 a0.f2 a0.f3 false (S70.mk 0 0 false false false false false false false false)), a0.f14] : List S80) x56_31).f4).f6) :: .bool (((rd ([(S80.mk a0.f1 a0.f2 a0.f3 false (S70.mk 0 0 false false false false false false false false)), a0.f14] : List S80) x56_31).f4).f7) :: .bool (((rd ([(S80.mk a0.f1 a0.f2 a0.f3 false (S70.mk 0 0 false false false false false false false false)), a0.f14] : List S80) x56_31).f4).f8) :: .bool (((rd ([(S80.mk a0.f1 a0.f2 a0.f3 false (S70.mk 0 0 false false false false false false false false)), a0.f14] : List S80) x56_31).f4).f9) :: [])) (cs' := (.int .i64 ((rd ([(S80.mk a0.f1 a0.f2 a0.f3 false (S70.mk 0 0 false false false false false false false false)), a0.f14] : List S80) x56_31).f0) :: .int .i64 ((rd ([(S80.mk a0.f1 a0.f2 a0.f3 false (S70.mk 0 0 false false false false false false false false)), a0.f14] : List S80) x56_31).f1) :: .bool ((rd ([(S80.mk a0.f1 a0.f2 a0.f3 false (S70.mk 0 0 false false false false false false false false)), a0.f14] : List S80) x56_31).f2) :: .bool ((rd ([(S80.mk a0.f1 a0.f2 a0.f3 false (S70.mk 0 0 false false false false false false false false)), a0.f14] : List S80) x56_31).f3) :: .int .i64 (((rd ([(S80.mk a0.f1 a0.f2 a0.f3 false (S70.mk 0 0 false false false false false false false false)), a0.f14] : List S80) x56_31).f4).f0) :: .int .i64 (((rd ([(S80.mk a0.f1 a0.f2 a0.f3 false (S70.mk 0 0 false false false false false false false false)), a0.f14] : List S80) x56_31).f4).f1) :: .bool (((rd ([(S80.mk a0.f1 a0.f2 a0.f3 false (S70.mk 0 0 false false false false false false false false)), a0.f14] : List S80) x56_31).f4).f2) :: .bool (((rd ([(S80.mk a0.f1 a0.f2 a0.f3 false (S70.mk 0 0 false false false false false false false false)), a0.f14] : List S80) x56_31).f4).f3) :: .bool (((rd ([(S80.mk a0.f1 a0.f2 a0.f3 false (S70.mk 0 0 false false false false false false false false)), a0.f14] : List S80) x56_31).f4).f4) :: .bool (((rd ([(S80.mk a0.f1 a0.f2 a0.f3 false (S70.mk 0 0 false false false false false false false false)), a0.f14] : List S80) x56_31).f4).f5) :: .bool (((rd ([(S80.mk a0.f1 a0.f2 a0.f3 false (S70.mk 0 0 false false false false false false false false)), a0.f14] : List S80) x56_31).f4).f6) :: .bool (((rd ([(S80.mk a0.f1 a0.f2 a0.f3 false (S70.mk 0 0 false false false false false false false false)), a0.f14] : List S80) x56_31).f4).f7) :: .bool (((rd ([(S80.mk a0.f1 a0.f2 a0.f3 false (S70.mk 0 0 false false false false false false false false)), a0.f14] : List S80) x56_31).f4).f8) :: .bool (((rd ([(S80.mk a0.f1 a0.f2 a0.f3 false (S70.mk 0 0 false false false false false false false false)), a0.f14] : List S80) x56_31).f4).f9) :: [])) rfl rfl rfl rfl rfl rfl sz80 rfl rfl ?_)
                  refine RA_nil ?_
                  refine at_normal ?_
                  refine SA_seq ?_
                  refine SA_region ?_
                  refine RA_step rfl (OA_v (v := .pointer (some ⟨b37, 0, none⟩)) rfl (V_fieldAddrN (B := ⟨b37, 0, none⟩) (m := 0) (o := 0) Try.underlying80 rfl nz3 rfl rfl) ?_)
                  refine RA_step rfl (OA_r rfl (VR_load_blk (b := b37) (m := 0) (k := 6) Try.underlying3 rfl rfl rfl rfl) ?_)
                  refine RA_step rfl (OA_v (v := .bool (decide (((rd ([(S80.mk a0.f1 a0.f2 a0.f3 false (S70.mk 0 0 false false false false false false false false)), a0.f14] : List S80) x56_31).f0) < 0))) rfl (V_lss rfl rfl) ?_)
                  refine RA_step rfl (OA_v (v := .bool (decide (((rd ([(S80.mk a0.f1 a0.f2 a0.f3 false (S70.mk 0 0 false false false false false false false false)), a0.f14] : List S80) x56_31).f0) < 0))) rfl (V_move rfl) ?_)
                  obtain ⟨q39, hq39, H⟩ := g_lt H
                  refine RA_cut 6 (fun e ds As => St [(1, .pointer (some ⟨b5, 0, none⟩)), (3, .pointer (some ⟨b7, 0, none⟩)), (5, .pointer (some ⟨b37, 0, none⟩)), (55, .agg (List.toArray (.int .i64 a0.f1 :: .int .i64 a0.f2 :: .bool a0.f3 :: .bool false :: .int .i64 0 :: .int .i64 0 :: .bool false :: .bool false :: .bool false :: .bool false :: .bool false :: .bool false :: .bool false :: .bool false :: .int .i64 a0.f14.f0 :: .int .i64 a0.f14.f1 :: .bool a0.f14.f2 :: .bool a0.f14.f3 :: .int .i64 a0.f14.f4.f0 :: .int .i64 a0.f14.f4.f1 :: .bool a0.f14.f4.f2 :: .bool a0.f14.f4.f3 :: .bool a0.f14.f4.f4 :: .bool a0.f14.f4.f5 :: .bool a0.f14.f4.f6 :: .bool a0.f14.f4.f7 :: .bool a0.f14.f4.f8 :: .bool a0.f14.f4.f9 :: []))), (56, .int .i64 x56_31), (68, .bool q39)] [Blk b5 83 (.int .i64 a0.f0.f0 :: .int .i64 a0.f0.f1 :: .slice A0_0 a0.f0.f2.length c0_0 :: .int .i64 a0.f1 :: .int .i64 a0.f2 :: .bool a0.f3 :: .int .i64 a0.f4.f0 :: .int .i64 a0.f4.f1 :: .bool a0.f4.f2 :: .bool a0.f4.f3 :: .bool a0.f4.f4 :: .bool a0.f4.f5 :: .bool a0.f4.f6 :: .bool a0.f4.f7 :: .bool a0.f4.f8 :: .bool a0.f4.f9 :: .int .i64 a0.f5 :: .int .i64 a0.f6 :: .slice A0_1 a0.f7.length c0_1 :: .bool a0.f8 :: .bool a0.f9 :: .bool a0.f10 :: .bool a0.f11 :: .bool a0.f12 :: .bool a0.f13 :: .int .i64 a0.f14.f0 :: .int .i64 a0.f14.f1 :: .bool a0.f14.f2 :: .bool a0.f14.f3 :: .int .i64 a0.f14.f4.f0 :: .int .i64 a0.f14.f4.f1 :: .bool a0.f14.f4.f2 :: .bool a0.f14.f4.f3 :: .bool a0.f14.f4.f4 :: .bool a0.f14.f4.f5 :: .bool a0.f14.f4.f6 :: .bool a0.f14.f4.f7 :: .bool a0.f14.f4.f8 :: .bool a0.f14.f4.f9 :: .bool a0.f15 :: .int .i64 a0.f16.f0 :: .int .i64 a0.f16.f1 :: .slice A0_2 a0.f16.f2.length c0_2 :: .slice A0_3 a0.f17.length c0_3 :: []), Ro k76 A0_0 c0_0 a0.f0.f2, Ro (Kd.int .i64) A0_1 c0_1 a0.f7, Ro k76 A0_2 c0_2 a0.f16.f2, Ro (Kd.int .i32) A0_3 c0_3 a0.f17, Blk b7 67 [.int .i64 a0.f0.f0, .int .i64 a0.f0.f1, .slice A0_0 a0.f0.f2.length c0_0], Blk b37 80 (.int .i64 ((rd ([(S80.mk a0.f1 a0.f2 a0.f3 false (S70.mk 0 0 false false false false false false false false)), a0.f14] : List S80) x56_31).f0) :: .int .i64 ((rd ([(S80.mk a0.f1 a0.f2 a0.f3 false (S70.mk 0 0 false false false false false false false false)), a0.f14] : List S80) x56_31).f1) :: .bool ((rd ([(S80.mk a0.f1 a0.f2 a0.f3 false (S70.mk 0 0 false false false false false false false false)), a0.f14] : List S80) x56_31).f2) :: .bool ((rd ([(S80.mk a0.f1 a0.f2 a0.f3 false (S70.mk 0 0 false false false false false false false false)), a0.f14] : List S80) x56_31).f3) :: .int .i64 (((rd ([(S80.mk a0.f1 a0.f2 a0.f3 false (S70.mk 0 0 false false false false false false false false)), a0.f14] : List S80) x56_31).f4).f0) :: .int .i64 (((rd ([(S80.mk a0.f1 a0.f2 a0.f3 false (S70.mk 0 0 false false false false false false false false)), a0.f14] : List S80) x56_31).f4).f1) :: .bool (((rd ([(S80.mk a0.f1 a0.f2 a0.f3 false (S70.mk 0 0 false false false false false false false false)), a0.f14] : List S80) x56_31).f4).f2) :: .bool (((rd ([(S80.mk a0.f1 a0.f2 a0.f3 false (S70.mk 0 0 false false false false false false false false)), a0.f14] : List S80) x56_31).f4).f3) :: .bool (((rd ([(S80.mk a0.f1 a0.f2 a0.f3 false (S70.mk 0 0 false false false false false false false false)), a0.f14] : List S80) x56_31).f4).f4) :: .bool (((rd ([(S80.mk a0.f1 a0.f2 a0.f3 false (S70.mk 0 0 false false false false false false false false)), a0.f14] : List S80) x56_31).f4).f5) :: .bool (((rd ([(S80.mk a0.f1 a0.f2 a0.f3 false (S70.mk 0 0 false false false false false false false false)), a0.f14] : List S80) x56_31).f4).f6) :: .bool (((rd ([(S80.mk a0.f1 a0.f2 a0.f3 false (S70.mk 0 0 false false false false false false false false)), a0.f14] : List S80) x56_31).f4).f7) :: .bool (((rd ([(S80.mk a0.f1 a0.f2 a0.f3 false (S70.mk 0 0 false false false false false false false false)), a0.f14] : List S80) x56_31).f4).f8) :: .bool (((rd ([(S80.mk a0.f1 a0.f2 a0.f3 false (S70.mk 0 0 false false false false false false false false)), a0.f14] : List S80) x56_31).f4).f9) :: [])] e ds As) ?_ ?_
                  · by_cases h40 : ((rd ([(S80.mk a0.f1 a0.f2 a0.f3 false (S70.mk 0 0 false false false false false false false false)), a0.f14] : List S80) x56_31).f0) < 0
                    · refine RA_noB rfl rfl rfl rfl (dec_t h40) rfl ?_
                      refine RA_noB rfl rfl rfl rfl (dec_t h40) rfl ?_
                      refine RA_noB rfl rfl rfl rfl (dec_t h40) rfl ?_
                      refine RA_noB rfl rfl rfl rfl (dec_t h40) rfl ?_
                      refine RA_noB rfl rfl rfl rfl (dec_t h40) rfl ?_
                      refine RA_step rfl (OA_v rfl (V_pickT rfl (dec_t h40) rfl) ?_)
                      refine RA_nil ?_
                      exact at_normal (St.mk1 (aeq rfl (aeq rfl (aeq rfl (aeq rfl (aeq rfl (aeq (congrArg Value.bool (or_t hq39 (dec_t h40))) aeq0)))))) (Gh.sel [0, 1, 2, 3, 4, 5, 6] rfl rfl))
                    · refine RA_yesB rfl rfl rfl rfl (dec_f h40) (OA_v (v := .pointer (some ⟨b37, 0, none⟩)) rfl (V_fieldAddrN (B := ⟨b37, 0, none⟩) (m := 0) (o := 0) Try.underlying80 rfl nz3 rfl rfl) ?_)
                      refine RA_yesB rfl rfl rfl rfl (dec_f h40) (OA_r rfl (VR_load_blk (b := b37) (m := 0) (k := 6) Try.underlying3 rfl rfl rfl rfl) ?_)
                      refine RA_yesB rfl rfl rfl rfl (dec_f h40) (OA_v (v := .pointer (some ((⟨b7, 0, none⟩ : Addr).add 1))) rfl (V_fieldAddrN (B := ⟨b7, 0, none⟩) (m := 0) (o := 1) Try.underlying67 rfl nz3 rfl rfl) ?_)
                      refine RA_yesB rfl rfl rfl rfl (dec_f h40) (OA_r rfl (VR_load_blk (b := b7) (m := 1) (k := 5) Try.underlying3 rfl rfl rfl rfl) ?_)
                      refine RA_yesB rfl rfl rfl rfl (dec_f h40) (OA_v (v := .bool (decide (((rd ([(S80.mk a0.f1 a0.f2 a0.f3 false (S70.mk 0 0 false false false false false false false false)), a0.f14] : List S80) x56_31).f0) ≥ a0.f0.f1))) rfl (V_geq rfl rfl) ?_)
                      refine RA_step rfl (OA_v rfl (V_pickF rfl (dec_f h40) rfl) ?_)
                      refine RA_nil ?_
                      exact at_normal (St.mk1 (aeq rfl (aeq rfl (aeq rfl (aeq rfl (aeq rfl (aeq (congrArg Value.bool (or_f hq39 (dec_f h40))) aeq0)))))) (Gh.sel [0, 1, 2, 3, 4, 5, 6] rfl rfl))
                  · rintro e ds As hst41
                    refine RA.of_St rfl hst41 fun junk => ?_
                    refine RA_step rfl (OA_v (v := .bool q39) rfl (V_move rfl) ?_)
                    obtain ⟨q42, hq42, H⟩ := g_lt H
                    refine RA_cut 4 (fun e ds As => St [(1, .pointer (some ⟨b5, 0, none⟩)), (3, .pointer (some ⟨b7, 0, none⟩)), (5, .pointer (some ⟨b37, 0, none⟩)), (55, .agg (List.toArray (.int .i64 a0.f1 :: .int .i64 a0.f2 :: .bool a0.f3 :: .bool false :: .int .i64 0 :: .int .i64 0 :: .bool false :: .bool false :: .bool false :: .bool false :: .bool false :: .bool false :: .bool false :: .bool false :: .int .i64 a0.f14.f0 :: .int .i64 a0.f14.f1 :: .bool a0.f14.f2 :: .bool a0.f14.f3 :: .int .i64 a0.f14.f4.f0 :: .int .i64 a0.f14.f4.f1 :: .bool a0.f14.f4.f2 :: .bool a0.f14.f4.f3 :: .bool a0.f14.f4.f4 :: .bool a0.f14.f4.f5 :: .bool a0.f14.f4.f6 :: .bool a0.f14.f4.f7 :: .bool a0.f14.f4.f8 :: .bool a0.f14.f4.f9 :: []))), (56, .int .i64 x56_31), (73, .bool q42)] [Blk b5 83 (.int .i64 a0.f0.f0 :: .int .i64 a0.f0.f1 :: .slice A0_0 a0.f0.f2.length c0_0 :: .int .i64 a0.f1 :: .int .i64 a0.f2 :: .bool a0.f3 :: .int .i64 a0.f4.f0 :: .int .i64 a0.f4.f1 :: .bool a0.f4.f2 :: .bool a0.f4.f3 :: .bool a0.f4.f4 :: .bool a0.f4.f5 :: .bool a0.f4.f6 :: .bool a0.f4.f7 :: .bool a0.f4.f8 :: .bool a0.f4.f9 :: .int .i64 a0.f5 :: .int .i64 a0.f6 :: .slice A0_1 a0.f7.length c0_1 :: .bool a0.f8 :: .bool a0.f9 :: .bool a0.f10 :: .bool a0.f11 :: .bool a0.f12 :: .bool a0.f13 :: .int .i64 a0.f14.f0 :: .int .i64 a0.f14.f1 :: .bool a0.f14.f2 :: .bool a0.f14.f3 :: .int .i64 a0.f14.f4.f0 :: .int .i64 a0.f14.f4.f1 :: .bool a0.f14.f4.f2 :: .bool a0.f14.f4.f3 :: .bool a0.f14.f4.f4 :: .bool a0.f14.f4.f5 :: .bool a0.f14.f4.f6 :: .bool a0.f14.f4.f7 :: .bool a0.f14.f4.f8 :: .bool a0.f14.f4.f9 :: .bool a0.f15 :: .int .i64 a0.f16.f0 :: .int .i64 a0.f16.f1 :: .slice A0_2 a0.f16.f2.length c0_2 :: .slice A0_3 a0.f17.length c0_3 :: []), Ro k76 A0_0 c0_0 a0.f0.f2, Ro (Kd.int .i64) A0_1 c0_1 a0.f7, Ro k76 A0_2 c0_2 a0.f16.f2, Ro (Kd.int .i32) A0_3 c0_3 a0.f17, Blk b7 67 [.int .i64 a0.f0.f0, .int .i64 a0.f0.f1, .slice A0_0 a0.f0.f2.length c0_0], Blk b37 80 (.int .i64 ((rd ([(S80.mk a0.f1 a0.f2 a0.f3 false (S70.mk 0 0 false false false false false false false false)), a0.f14] : List S80) x56_31).f0) :: .int .i64 ((rd ([(S80.mk a0.f1 a0.f2 a0.f3 false (S70.mk 0 0 false false false false false false false false)), a0.f14] : List S80) x56_31).f1) :: .bool ((rd ([(S80.mk a0.f1 a0.f2 a0.f3 false (S70.mk 0 0 false false false false false false false false)), a0.f14] : List S80) x56_31).f2) :: .bool ((rd ([(S80.mk a0.f1 a0.f2 a0.f3 false (S70.mk 0 0 false false false false false false false false)), a0.f14] : List S80) x56_31).f3) :: .int .i64 (((rd ([(S80.mk a0.f1 a0.f2 a0.f3 false (S70.mk 0 0 false false false false false false false false)), a0.f14] : List S80) x56_31).f4).f0) :: .int .i64 (((rd ([(S80.mk a0.f1 a0.f2 a0.f3 false (S70.mk 0 0 false false false false false false false false)), a0.f14] : List S80) x56_31).f4).f1) :: .bool (((rd ([(S80.mk a0.f1 a0.f2 a0.f3 false (S70.mk 0 0 false false false false false false false false)), a0.f14] : List S80) x56_31).f4).f2) :: .bool (((rd ([(S80.mk a0.f1 a0.f2 a0.f3 false (S70.mk 0 0 false false false false false false false false)), a0.f14] : List S80) x56_31).f4).f3) :: .bool (((rd ([(S80.mk a0.f1 a0.f2 a0.f3 false (S70.mk 0 0 false false false false false false false false)), a0.f14] : List S80) x56_31).f4).f4) :: .bool (((rd ([(S80.mk a0.f1 a0.f2 a0.f3 false (S70.mk 0 0 false false false false false false false false)), a0.f14] : List S80) x56_31).f4).f5) :: .bool (((rd ([(S80.mk a0.f1 a0.f2 a0.f3 false (S70.mk 0 0 false false false false false false false false)), a0.f14] : List S80) x56_31).f4).f6) :: .bool (((rd ([(S80.mk a0.f1 a0.f2 a0.f3 false (S70.mk 0 0 false false false false false false false false)), a0.f14] : List S80) x56_31).f4).f7) :: .bool (((rd ([(S80.mk a0.f1 a0.f2 a0.f3 false (S70.mk 0 0 false false false false false false false false)), a0.f14] : List S80) x56_31).f4).f8) :: .bool (((rd ([(S80.mk a0.f1 a0.f2 a0.f3 false (S70.mk 0 0 false false false false false false false false)), a0.f14] : List S80) x56_31).f4).f9) :: [])] e ds As) ?_ ?_
                    · by_cases h43 : q39 = true
                      · refine RA_noB rfl rfl rfl rfl (h43) rfl ?_
                        refine RA_noB rfl rfl rfl rfl (h43) rfl ?_
                        refine RA_noB rfl rfl rfl rfl (h43) rfl ?_
                        refine RA_step rfl (OA_v rfl (V_pickT rfl (h43) rfl) ?_)
                        refine RA_nil ?_
                        exact at_normal (St.mk1 (aeq rfl (aeq rfl (aeq rfl (aeq rfl (aeq rfl (aeq (congrArg Value.bool (or_t hq42 (h43))) aeq0)))))) (Gh.sel [0, 1, 2, 3, 4, 5, 6] rfl rfl))
                      · refine RA_yesB rfl rfl rfl rfl (bno h43) (OA_v (v := .pointer (some ((⟨b37, 0, none⟩ : Addr).add 1))) rfl (V_fieldAddrN (B := ⟨b37, 0, none⟩) (m := 0) (o := 1) Try.underlying80 rfl nz3 rfl rfl) ?_)
                        refine RA_yesB rfl rfl rfl rfl (bno h43) (OA_r rfl (VR_load_blk (b := b37) (m := 1) (k := 6) Try.underlying3 rfl rfl rfl rfl) ?_)
                        refine RA_yesB rfl rfl rfl rfl (bno h43) (OA_v (v := .bool (decide (((rd ([(S80.mk a0.f1 a0.f2 a0.f3 false (S70.mk 0 0 false false false false false false false false)), a0.f14] : List S80) x56_31).f1) < 0))) rfl (V_lss rfl rfl) ?_)
                        refine RA_step rfl (OA_v rfl (V_pickF rfl (bno h43) rfl) ?_)
                        refine RA_nil ?_
                        exact at_normal (St.mk1 (aeq rfl (aeq rfl (aeq rfl (aeq rfl (aeq rfl (aeq (congrArg Value.bool (or_f hq42 (bno h43))) aeq0)))))) (Gh.sel [0, 1, 2, 3, 4, 5, 6] rfl rfl))
                    · rintro e ds As hst44
                      refine RA.of_St rfl hst44 fun junk => ?_
                      refine RA_step rfl (OA_v (v := .bool q42) rfl (V_move rfl) ?_)
                      obtain ⟨q45, hq45, H⟩ := g_lt H
                      refine RA_cut 6 (fun e ds As => St [(1, .pointer (some ⟨b5, 0, none⟩)), (3, .pointer (some ⟨b7, 0, none⟩)), (5, .pointer (some ⟨b37, 0, none⟩)), (55, .agg (List.toArray (.int .i64 a0.f1 :: .int .i64 a0.f2 :: .bool a0.f3 :: .bool false :: .int .i64 0 :: .int .i64 0 :: .bool false :: .bool false :: .bool false :: .bool false :: .bool false :: .bool false :: .bool false :: .bool false :: .int .i64 a0.f14.f0 :: .int .i64 a0.f14.f1 :: .bool a0.f14.f2 :: .bool a0.f14.f3 :: .int .i64 a0.f14.f4.f0 :: .int .i64 a0.f14.f4.f1 :: .bool a0.f14.f4.f2 :: .bool a0.f14.f4.f3 :: .bool a0.f14.f4.f4 :: .bool a0.f14.f4.f5 :: .bool a0.f14.f4.f6 :: .bool a0.f14.f4.f7 :: .bool a0.f14.f4.f8 :: .bool a0.f14.f4.f9 :: []))), (56, .int .i64 x56_31), (80, .bool q45)] [Blk b5 83 (.int .i64 a0.f0.f0 :: .int .i64 a0.f0.f1 :: .slice A0_0 a0.f0.f2.length c0_0 :: .int .i64 a0.f1 :: .int .i64 a0.f2 :: .bool a0.f3 :: .int .i64 a0.f4.f0 :: .int .i64 a0.f4.f1 :: .bool a0.f4.f2 :: .bool a0.f4.f3 :: .bool a0.f4.f4 :: .bool a0.f4.f5 :: .bool a0.f4.f6 :: .bool a0.f4.f7 :: .bool a0.f4.f8 :: .bool a0.f4.f9 :: .int .i64 a0.f5 :: .int .i64 a0.f6 :: .slice A0_1 a0.f7.length c0_1 :: .bool a0.f8 :: .bool a0.f9 :: .bool a0.f10 :: .bool a0.f11 :: .bool a0.f12 :: .bool a0.f13 :: .int .i64 a0.f14.f0 :: .int .i64 a0.f14.f1 :: .bool a0.f14.f2 :: .bool a0.f14.f3 :: .int .i64 a0.f14.f4.f0 :: .int .i64 a0.f14.f4.f1 :: .bool a0.f14.f4.f2 :: .bool a0.f14.f4.f3 :: .bool a0.f14.f4.f4 :: .bool a0.f14.f4.f5 :: .bool a0.f14.f4.f6 :: .bool a0.f14.f4.f7 :: .bool a0.f14.f4.f8 :: .bool a0.f14.f4.f9 :: .bool a0.f15 :: .int .i64 a0.f16.f0 :: .int .i64 a0.f16.f1 :: .slice A0_2 a0.f16.f2.length c0_2 :: .slice A0_3 a0.f17.length c0_3 :: []), Ro k76 A0_0 c0_0 a0.f0.f2, Ro (Kd.int .i64) A0_1 c0_1 a0.f7, Ro k76 A0_2 c0_2 a0.f16.f2, Ro (Kd.int .i32) A0_3 c0_3 a0.f17, Blk b7 67 [.int .i64 a0.f0.f0, .int .i64 a0.f0.f1, .slice A0_0 a0.f0.f2.length c0_0], Blk b37 80 (.int .i64 ((rd ([(S80.mk a0.f1 a0.f2 a0.f3 false (S70.mk 0 0 false false false false false false false false)), a0.f14] : List S80) x56_31).f0) :: .int .i64 ((rd ([(S80.mk a0.f1 a0.f2 a0.f3 false (S70.mk 0 0 false false false false false false false false)), a0.f14] : List S80) x56_31).f1) :: .bool ((rd ([(S80.mk a0.f1 a0.f2 a0.f3 false (S70.mk 0 0 false false false false false false false false)), a0.f14] : List S80) x56_31).f2) :: .bool ((rd ([(S80.mk a0.f1 a0.f2 a0.f3 false (S70.mk 0 0 false false false false false false false false)), a0.f14] : List S80) x56_31).f3) :: .int .i64 (((rd ([(S80.mk a0.f1 a0.f2 a0.f3 false (S70.mk 0 0 false false false false false false false false)), a0.f14] : List S80) x56_31).f4).f0) :: .int .i64 (((rd ([(S80.mk a0.f1 a0.f2 a0.f3 false (S70.mk 0 0 false false false false false false false false)), a0.f14] : List S80) x56_31).f4).f1) :: .bool (((rd ([(S80.mk a0.f1 a0.f2 a0.f3 false (S70.mk 0 0 false false false false false false false false)), a0.f14] : List S80) x56_31).f4).f2) :: .bool (((rd ([(S80.mk a0.f1 a0.f2 a0.f3 false (S70.mk 0 0 false false false false false false false false)), a0.f14] : List S80) x56_31).f4).f3) :: .bool (((rd ([(S80.mk a0.f1 a0.f2 a0.f3 false (S70.mk 0 0 false false false false false false false false)), a0.f14] : List S80) x56_31).f4).f4) :: .bool (((rd ([(S80.mk a0.f1 a0.f2 a0.f3 false (S70.mk 0 0 false false false false false false false false)), a0.f14] : List S80) x56_31).f4).f5) :: .bool (((rd ([(S80.mk a0.f1 a0.f2 a0.f3 false (S70.mk 0 0 false false false false false false false false)), a0.f14] : List S80) x56_31).f4).f6) :: .bool (((rd ([(S80.mk a0.f1 a0.f2 a0.f3 false (S70.mk 0 0 false false false false false false false false)), a0.f14] : List S80) x56_31).f4).f7) :: .bool (((rd ([(S80.mk a0.f1 a0.f2 a0.f3 false (S70.mk 0 0 false false false false false false false false)), a0.f14] : List S80) x56_31).f4).f8) :: .bool (((rd ([(S80.mk a0.f1 a0.f2 a0.f3 false (S70.mk 0 0 false false false false false false false false)), a0.f14] : List S80) x56_31).f4).f9) :: [])] e ds As) ?_ ?_
                      · by_cases h46 : q42 = true
                        · refine RA_noB rfl rfl rfl rfl (h46) rfl ?_
                          refine RA_noB rfl rfl rfl rfl (h46) rfl ?_
                          refine RA_noB rfl rfl rfl rfl (h46) rfl ?_
                          refine RA_noB rfl rfl rfl rfl (h46) rfl ?_
                          refine RA_noB rfl rfl rfl rfl (h46) rfl ?_
                          refine RA_step rfl (OA_v rfl (V_pickT rfl (h46) rfl) ?_)
                          refine RA_nil ?_
                          exact at_normal (St.mk1 (aeq rfl (aeq rfl (aeq rfl (aeq rfl (aeq rfl (aeq (congrArg Value.bool (or_t hq45 (h46))) aeq0)))))) (Gh.sel [0, 1, 2, 3, 4, 5, 6] rfl rfl))
                        · refine RA_yesB rfl rfl rfl rfl (bno h46) (OA_v (v := .pointer (some ((⟨b37, 0, none⟩ : Addr).add 1))) rfl (V_fieldAddrN (B := ⟨b37, 0, none⟩) (m := 0) (o := 1) Try.underlying80 rfl nz3 rfl rfl) ?_)
                          refine RA_yesB rfl rfl rfl rfl (bno h46) (OA_r rfl (VR_load_blk (b := b37) (m := 1) (k := 6) Try.underlying3 rfl rfl rfl rfl) ?_)
                          refine RA_yesB rfl rfl rfl rfl (bno h46) (OA_v (v := .pointer (some ⟨b7, 0, none⟩)) rfl (V_fieldAddrN (B := ⟨b7, 0, none⟩) (m := 0) (o := 0) Try.underlying67 rfl nz3 rfl rfl) ?_)
                          refine RA_yesB rfl rfl rfl rfl (bno h46) (OA_r rfl (VR_load_blk (b := b7) (m := 0) (k := 5) Try.underlying3 rfl rfl rfl rfl) ?_)
                          refine RA_yesB rfl rfl rfl rfl (bno h46) (OA_v (v := .bool (decide (((rd ([(S80.mk a0.f1 a0.f2 a0.f3 false (S70.mk 0 0 false false false false false false false false)), a0.f14] : List S80) x56_31).f1) ≥ a0.f0.f0))) rfl (V_geq rfl rfl) ?_)
                          refine RA_step rfl (OA_v rfl (V_pickF rfl (bno h46) rfl) ?_)
                          refine RA_nil ?_
                          exact at_normal (St.mk1 (aeq rfl (aeq rfl (aeq rfl (aeq rfl (aeq rfl (aeq (congrArg Value.bool (or_f hq45 (bno h46))) aeq0)))))) (Gh.sel [0, 1, 2, 3, 4, 5, 6] rfl rfl))
                      · rintro e ds As hst47
                        refine RA.of_St rfl hst47 fun junk => ?_
                        refine RA_step rfl (OA_v (v := .bool q45) rfl (V_move rfl) ?_)
                        obtain ⟨q48, H, Bq48⟩ := g_bind H
                        refine RA_cut 11 (fun e ds As => St [(1, .pointer (some ⟨b5, 0, none⟩)), (3, .pointer (some ⟨b7, 0, none⟩)), (55, .agg (List.toArray (.int .i64 a0.f1 :: .int .i64 a0.f2 :: .bool a0.f3 :: .bool false :: .int .i64 0 :: .int .i64 0 :: .bool false :: .bool false :: .bool false :: .bool false :: .bool false :: .bool false :: .bool false :: .bool false :: .int .i64 a0.f14.f0 :: .int .i64 a0.f14.f1 :: .bool a0.f14.f2 :: .bool a0.f14.f3 :: .int .i64 a0.f14.f4.f0 :: .int .i64 a0.f14.f4.f1 :: .bool a0.f14.f4.f2 :: .bool a0.f14.f4.f3 :: .bool a0.f14.f4.f4 :: .bool a0.f14.f4.f5 :: .bool a0.f14.f4.f6 :: .bool a0.f14.f4.f7 :: .bool a0.f14.f4.f8 :: .bool a0.f14.f4.f9 :: []))), (56, .int .i64 x56_31), (92, .bool q48)] [Blk b5 83 (.int .i64 a0.f0.f0 :: .int .i64 a0.f0.f1 :: .slice A0_0 a0.f0.f2.length c0_0 :: .int .i64 a0.f1 :: .int .i64 a0.f2 :: .bool a0.f3 :: .int .i64 a0.f4.f0 :: .int .i64 a0.f4.f1 :: .bool a0.f4.f2 :: .bool a0.f4.f3 :: .bool a0.f4.f4 :: .bool a0.f4.f5 :: .bool a0.f4.f6 :: .bool a0.f4.f7 :: .bool a0.f4.f8 :: .bool a0.f4.f9 :: .int .i64 a0.f5 :: .int .i64 a0.f6 :: .slice A0_1 a0.f7.length c0_1 :: .bool a0.f8 :: .bool a0.f9 :: .bool a0.f10 :: .bool a0.f11 :: .bool a0.f12 :: .bool a0.f13 :: .int .i64 a0.f14.f0 :: .int .i64 a0.f14.f1 :: .bool a0.f14.f2 :: .bool a0.f14.f3 :: .int .i64 a0.f14.f4.f0 :: .int .i64 a0.f14.f4.f1 :: .bool a0.f14.f4.f2 :: .bool a0.f14.f4.f3 :: .bool a0.f14.f4.f4 :: .bool a0.f14.f4.f5 :: .bool a0.f14.f4.f6 :: .bool a0.f14.f4.f7 :: .bool a0.f14.f4.f8 :: .bool a0.f14.f4.f9 :: .bool a0.f15 :: .int .i64 a0.f16.f0 :: .int .i64 a0.f16.f1 :: .slice A0_2 a0.f16.f2.length c0_2 :: .slice A0_3 a0.f17.length c0_3 :: []), Ro k76 A0_0 c0_0 a0.f0.f2, Ro (Kd.int .i64) A0_1 c0_1 a0.f7, Ro k76 A0_2 c0_2 a0.f16.f2, Ro (Kd.int .i32) A0_3 c0_3 a0.f17, Blk b7 67 [.int .i64 a0.f0.f0, .int .i64 a0.f0.f1, .slice A0_0 a0.f0.f2.length c0_0]] e ds As) ?_ ?_
                        · by_cases h49 : q45 = true
                          · replace H := g_ift h49 H
                            refine RA_noB rfl rfl rfl rfl (h49) rfl ?_
                            refine RA_noB rfl rfl rfl rfl (h49) rfl ?_
                            refine RA_noB rfl rfl rfl rfl (h49) rfl ?_
                            refine RA_noU rfl rfl rfl rfl rfl ?_
                            refine RA_noU rfl rfl rfl rfl rfl ?_
                            refine RA_noU rfl rfl rfl rfl rfl ?_
                            refine RA_noU rfl rfl rfl rfl rfl ?_
                            refine RA_noU rfl rfl rfl rfl rfl ?_
                            refine RA_noU rfl rfl rfl rfl rfl ?_
                            refine RA_noB rfl rfl rfl rfl (h49) rfl ?_
                            refine RA_step rfl (OA_v rfl (V_pickT rfl (h49) rfl) ?_)
                            have hr_ := Option.some.inj H
                            subst hr_
                            refine RA_nil ?_
                            exact at_normal (St.mk1 (aeq rfl (aeq rfl (aeq rfl (aeq rfl (aeq rfl aeq0))))) (Gh.sel [0, 1, 2, 3, 4, 5] rfl rfl))
                          · replace H := g_iff h49 H
                            refine RA_yesB rfl rfl rfl rfl (bno h49) (OA_v (v := .pointer (some ((⟨b37, 0, none⟩ : Addr).add 2))) rfl (V_fieldAddrN (B := ⟨b37, 0, none⟩) (m := 0) (o := 2) Try.underlying80 rfl nz4 rfl rfl) ?_)
                            refine RA_yesB rfl rfl rfl rfl (bno h49) (OA_r rfl (VR_load_blk (b := b37) (m := 2) (k := 6) Try.underlying4 rfl rfl rfl rfl) ?_)
                            refine RA_yesB rfl rfl rfl rfl (bno h49) (OA_v (v := .bool ((rd ([(S80.mk a0.f1 a0.f2 a0.f3 false (S70.mk 0 0 false false false false false false false false)), a0.f14] : List S80) x56_31).f2)) rfl (V_move rfl) ?_)
                            by_cases h50 : ((rd ([(S80.mk a0.f1 a0.f2 a0.f3 false (S70.mk 0 0 false false false false false false false false)), a0.f14] : List S80) x56_31).f2) = true
                            · replace H := g_ift h50 H
                              refine RA_yesB rfl rfl rfl rfl (h50) (OA_v (v := .pointer (some ((⟨b37, 0, none⟩ : Addr).add 1))) rfl (V_fieldAddrN (B := ⟨b37, 0, none⟩) (m := 0) (o := 1) Try.underlying80 rfl nz3 rfl rfl) ?_)
                              refine RA_yesB rfl rfl rfl rfl (h50) (OA_r rfl (VR_load_blk (b := b37) (m := 1) (k := 6) Try.underlying3 rfl rfl rfl rfl) ?_)
                              refine RA_yesB rfl rfl rfl rfl (h50) (OA_v (v := .pointer (some ⟨b7, 0, none⟩)) rfl (V_fieldAddrN (B := ⟨b7, 0, none⟩) (m := 0) (o := 0) Try.underlying67 rfl nz3 rfl rfl) ?_)
                              refine RA_yesB rfl rfl rfl rfl (h50) (OA_r rfl (VR_load_blk (b := b7) (m := 0) (k := 5) Try.underlying3 rfl rfl rfl rfl) ?_)
                              refine RA_yesB rfl rfl rfl rfl (h50) (OA_v (v := .int .i64 (IntKind.i64.wrap (a0.f0.f0 - 1))) rfl (V_sub rfl rfl) ?_)
                              refine RA_yesB rfl rfl rfl rfl (h50) (OA_v (v := .bool (decide (((rd ([(S80.mk a0.f1 a0.f2 a0.f3 false (S70.mk 0 0 false false false false false false false false)), a0.f14] : List S80) x56_31).f1) ≠ (IntKind.i64.wrap (a0.f0.f0 - 1))))) rfl (V_neq rfl rfl) ?_)
                              refine RA_yesB rfl rfl rfl rfl (bno h49) (OA_v rfl (V_pickT rfl (h50) rfl) ?_)
                              refine RA_step rfl (OA_v rfl (V_pickF rfl (bno h49) rfl) ?_)
                              have hr_ := Option.some.inj H
                              subst hr_
                              refine RA_nil ?_
                              exact at_normal (St.mk1 (aeq rfl (aeq rfl (aeq rfl (aeq rfl (aeq rfl aeq0))))) (Gh.sel [0, 1, 2, 3, 4, 5] rfl rfl))
                            · replace H := g_iff h50 H
                              refine RA_noB rfl rfl rfl rfl (bno h50) rfl ?_
                              refine RA_noB rfl rfl rfl rfl (bno h50) rfl ?_
                              refine RA_noB rfl rfl rfl rfl (bno h50) rfl ?_
                              refine RA_noB rfl rfl rfl rfl (bno h50) rfl ?_
                              refine RA_noB rfl rfl rfl rfl (bno h50) rfl ?_
                              refine RA_noB rfl rfl rfl rfl (bno h50) rfl ?_
                              refine RA_yesB rfl rfl rfl rfl (bno h49) (OA_v rfl (V_pickF rfl (bno h50) rfl) ?_)
                              refine RA_step rfl (OA_v rfl (V_pickF rfl (bno h49) rfl) ?_)
                              have hr_ := Option.some.inj H
                              subst hr_
                              refine RA_nil ?_
                              exact at_normal (St.mk1 (aeq rfl (aeq rfl (aeq rfl (aeq rfl (aeq rfl aeq0))))) (Gh.sel [0, 1, 2, 3, 4, 5] rfl rfl))
                        · rintro e ds As hst51
                          clear H
                          have H := Bq48
                          clear Bq48
                          refine RA_nil ?_
                          refine at_normal ?_
                          refine SA.of_St hst51 fun junk => ?_
                          by_cases h52 : q48 = true
                          · replace H := g_ift h52 H
                            refine SA_condTb rfl h52 ?_
                            refine SA_seq ?_
                            refine SA_region ?_
                            refine RA_step rfl (OA_v (v := .bool false) rfl (V_assign rfl) ?_)
                            refine RA_nil ?_
                            refine at_normal ?_
                            refine SA_ret ?_
                            refine inb_ret ?_
                            refine thn_ret ?_
                            refine thn_ret ?_
                            refine inb_ret ?_
                            refine thn_ret ?_
                            refine thn_ret ?_
                            have hr_ := Option.some.inj H
                            subst hr_
                            have hb_ := el_ret Bt30
                            have hr_ := Option.some.inj hb_
                            clear hb_
                            subst hr_
                            exact BQ_R1 [] rfl rfl (Gh.sel [] rfl rfl) ⟨rfl, rfl⟩
                          · replace H := g_iff h52 H
                            refine SA_condFb rfl h52 ?_
                            refine SA_skip ?_
                            refine inb_normal ?_
                            refine at_normal ?_
                            refine SA_region ?_
                            refine RA_step rfl (OA_v (v := .int .i64 (IntKind.i64.wrap (x56_31 + 1))) rfl (V_add rfl rfl) ?_)
                            refine RA_step rfl (OA_v (v := .int .i64 (IntKind.i64.wrap (x56_31 + 1))) rfl (V_move rfl) ?_)
                            refine RA_nil ?_
                            exact at_normal ⟨k32, Nat.lt_succ_self _, _, H, St.mk1 (aeq rfl (aeq rfl (aeq rfl (aeq rfl aeq0)))) (Gh.sel [0, 1, 2, 3, 4, 5] rfl rfl)⟩
                · replace H := g_iff h34 H
                  refine SA_condF rfl h34 ?_
                  refine SA_exit ?_
                  refine thn_exit ?_
                  refine thn_exit ?_
                  refine inb_hit ?_
                  have hr_ := Option.some.inj H
                  subst hr_
                  exact at_normal ⟨(), rfl, St.mk1 (aeq rfl (aeq rfl aeq0)) (Gh.sel [0, 1, 2, 3, 4, 5] rfl rfl)⟩
              · rintro e ds As ⟨s31, ht, hst53⟩
                clear H
                subst ht
                replace Bt30 := el_go Bt30
                have H := Bt30
                clear Bt30
                refine at_normal ?_
                refine SA.of_St hst53 fun junk => ?_
                refine SA_seq ?_
                refine SA_region ?_
                refine RA_step rfl (OA_v (v := .int .i64 (-1)) rfl (V_assign rfl) ?_)
                refine RA_nil ?_
                refine at_normal ?_
                refine SA_seq ?_
                refine SA_seq ?_
                refine SA_region ?_
                refine RA_step rfl (OA_v (v := .pointer (some ((⟨b5, 0, none⟩ : Addr).add 18))) rfl (V_fieldAddrN (B := ⟨b5, 0, none⟩) (m := 0) (o := 18) Try.underlying83 rfl nz78 rfl rfl) ?_)
                refine RA_step rfl (OA_r rfl (VR_load_blk (b := b5) (m := 18) (k := 0) Try.underlying78 rfl rfl rfl rfl) ?_)
                refine RA_step rfl (OA_v (v := .int .i64 (a0.f7.length : Int)) rfl (V_len Try.underlying78 rfl) ?_)
                refine RA_step rfl (OA_v (v := .int .i64 0) rfl (V_move rfl) ?_)
                refine RA_nil ?_
                refine at_normal ?_
                obtain ⟨t54, H, Bt54⟩ := g_bind H
                refine SA_mid (fun e ds As => ∃ (s55 : Unit), t54 = Out.go s55 ∧ St [(1, .pointer (some ⟨b5, 0, none⟩)), (3, .pointer (some ⟨b7, 0, none⟩))] [Blk b5 83 (.int .i64 a0.f0.f0 :: .int .i64 a0.f0.f1 :: .slice A0_0 a0.f0.f2.length c0_0 :: .int .i64 a0.f1 :: .int .i64 a0.f2 :: .bool a0.f3 :: .int .i64 a0.f4.f0 :: .int .i64 a0.f4.f1 :: .bool a0.f4.f2 :: .bool a0.f4.f3 :: .bool a0.f4.f4 :: .bool a0.f4.f5 :: .bool a0.f4.f6 :: .bool a0.f4.f7 :: .bool a0.f4.f8 :: .bool a0.f4.f9 :: .int .i64 a0.f5 :: .int .i64 a0.f6 :: .slice A0_1 a0.f7.length c0_1 :: .bool a0.f8 :: .bool a0.f9 :: .bool a0.f10 :: .bool a0.f11 :: .bool a0.f12 :: .bool a0.f13 :: .int .i64 a0.f14.f0 :: .int .i64 a0.f14.f1 :: .bool a0.f14.f2 :: .bool a0.f14.f3 :: .int .i64 a0.f14.f4.f0 :: .int .i64 a0.f14.f4.f1 :: .bool a0.f14.f4.f2 :: .bool a0.f14.f4.f3 :: .bool a0.f14.f4.f4 :: .bool a0.f14.f4.f5 :: .bool a0.f14.f4.f6 :: .bool a0.f14.f4.f7 :: .bool a0.f14.f4.f8 :: .bool a0.f14.f4.f9 :: .bool a0.f15 :: .int .i64 a0.f16.f0 :: .int .i64 a0.f16.f1 :: .slice A0_2 a0.f16.f2.length c0_2 :: .slice A0_3 a0.f17.length c0_3 :: []), Ro k76 A0_0 c0_0 a0.f0.f2, Ro (Kd.int .i64) A0_1 c0_1 a0.f7, Ro k76 A0_2 c0_2 a0.f16.f2, Ro (Kd.int .i32) A0_3 c0_3 a0.f17, Blk b7 67 [.int .i64 a0.f0.f0, .int .i64 a0.f0.f1, .slice A0_0 a0.f0.f2.length c0_0]] e ds As) ?_ ?_
                · refine SA_block ?_
                  refine SA_loop (fun k_ e ds As => ∃ (x6_55 : Int) (x97_55 : Int), F74.l1 a0 k_ x6_55 x97_55 = some t54 ∧ St [(1, .pointer (some ⟨b5, 0, none⟩)), (3, .pointer (some ⟨b7, 0, none⟩)), (6, .int .i64 x6_55), (95, .slice A0_1 a0.f7.length c0_1), (96, .int .i64 (a0.f7.length : Int)), (97, .int .i64 x97_55)] [Blk b5 83 (.int .i64 a0.f0.f0 :: .int .i64 a0.f0.f1 :: .slice A0_0 a0.f0.f2.length c0_0 :: .int .i64 a0.f1 :: .int .i64 a0.f2 :: .bool a0.f3 :: .int .i64 a0.f4.f0 :: .int .i64 a0.f4.f1 :: .bool a0.f4.f2 :: .bool a0.f4.f3 :: .bool a0.f4.f4 :: .bool a0.f4.f5 :: .bool a0.f4.f6 :: .bool a0.f4.f7 :: .bool a0.f4.f8 :: .bool a0.f4.f9 :: .int .i64 a0.f5 :: .int .i64 a0.f6 :: .slice A0_1 a0.f7.length c0_1 :: .bool a0.f8 :: .bool a0.f9 :: .bool a0.f10 :: .bool a0.f11 :: .bool a0.f12 :: .bool a0.f13 :: .int .i64 a0.f14.f0 :: .int .i64 a0.f14.f1 :: .bool a0.f14.f2 :: .bool a0.f14.f3 :: .int .i64 a0.f14.f4.f0 :: .int .i64 a0.f14.f4.f1 :: .bool a0.f14.f4.f2 :: .bool a0.f14.f4.f3 :: .bool a0.f14.f4.f4 :: .bool a0.f14.f4.f5 :: .bool a0.f14.f4.f6 :: .bool a0.f14.f4.f7 :: .bool a0.f14.f4.f8 :: .bool a0.f14.f4.f9 :: .bool a0.f15 :: .int .i64 a0.f16.f0 :: .int .i64 a0.f16.f1 :: .slice A0_2 a0.f16.f2.length c0_2 :: .slice A0_3 a0.f17.length c0_3 :: []), Ro k76 A0_0 c0_0 a0.f0.f2, Ro (Kd.int .i64) A0_1 c0_1 a0.f7, Ro k76 A0_2 c0_2 a0.f16.f2, Ro (Kd.int .i32) A0_3 c0_3 a0.f17, Blk b7 67 [.int .i64 a0.f0.f0, .int .i64 a0.f0.f1, .slice A0_0 a0.f0.f2.length c0_0]] e ds As) (k := k) ⟨_, _, H, St.mk1 (aeq rfl (aeq rfl (aeq rfl (aeq rfl (aeq rfl (aeq rfl aeq0)))))) (Gh.sel [0, 1, 2, 3, 4, 5] rfl rfl)⟩ ?_
                  clear H
                  rintro k56 e ds As ⟨x6_55, x97_55, H, hst57⟩
                  obtain _ | k56 := k56
                  · cases H
                  rw [F74.l1] at H
                  refine SA.of_St hst57 fun junk => ?_
                  refine SA_seq ?_
                  refine SA_region ?_
                  refine RA_step rfl (OA_v (v := .bool (decide (x97_55 < (a0.f7.length : Int)))) rfl (V_lss rfl rfl) ?_)
                  refine RA_nil ?_
                  refine at_normal ?_
                  refine SA_seq ?_
                  by_cases h58 : x97_55 < (a0.f7.length : Int)
                  · replace H := g_ift h58 H
                    refine SA_condT rfl h58 ?_
                    refine SA_skip ?_
                    refine at_normal ?_
                    refine SA_seq ?_
                    refine SA_block ?_
                    refine SA_seq ?_
                    refine SA_region ?_
                    obtain ⟨⟨g59, g60⟩, H⟩ := g_pos H
                    refine RA_step rfl (OA_r rfl (VR_index (i := x97_55) Try.underlying78 sz3 rfl rfl (Src.ro (k := 2) rfl) g59 g60) ?_)
                    refine RA_step rfl (OA_r rfl (VR_load_el (enc := (fun x_ : Int => [Value.int .i64 x_])) (i := x97_55) (j := x97_55.toNat * 1) (m := 0) (sz := 1) Try.underlying3 rfl rfl rfl rfl (Src.ro (k := 2) rfl) g59 g60 (fun _ _ h => h) rfl) ?_)
                    obtain ⟨n61, hn61, H⟩ := g_lt H
                    refine RA_step rfl (OA_v (v := .int .i64 n61) rfl (V_assign (v := .int .i64 n61) (congrArg (Value.int .i64) hn61.symm)) ?_)
                    refine RA_nil ?_
                    refine at_normal ?_
                    refine SA_seq ?_
                    refine SA_seq ?_
                    refine SA_region ?_
                    refine RA_step rfl (OA_v (v := .int .i64 n61) rfl (V_move rfl) ?_)
                    refine RA_step rfl (OA_v (v := .int .i64 x6_55) rfl (V_move rfl) ?_)
                    refine RA_step rfl (OA_v (v := .bool (decide (n61 ≤ x6_55))) rfl (V_leq rfl rfl) ?_)
                    refine RA_step rfl (OA_v (v := .bool (decide (n61 ≤ x6_55))) rfl (V_move rfl) ?_)
                    obtain ⟨q62, hq62, H⟩ := g_lt H
                    refine RA_cut 5 (fun e ds As => St [(1, .pointer (some ⟨b5, 0, none⟩)), (3, .pointer (some ⟨b7, 0, none⟩)), (8, .int .i64 n61), (95, .slice A0_1 a0.f7.length c0_1), (96, .int .i64 (a0.f7.length : Int)), (97, .int .i64 x97_55), (109, .bool q62)] [Blk b5 83 (.int .i64 a0.f0.f0 :: .int .i64 a0.f0.f1 :: .slice A0_0 a0.f0.f2.length c0_0 :: .int .i64 a0.f1 :: .int .i64 a0.f2 :: .bool a0.f3 :: .int .i64 a0.f4.f0 :: .int .i64 a0.f4.f1 :: .bool a0.f4.f2 :: .bool a0.f4.f3 :: .bool a0.f4.f4 :: .bool a0.f4.f5 :: .bool a0.f4.f6 :: .bool a0.f4.f7 :: .bool a0.f4.f8 :: .bool a0.f4.f9 :: .int .i64 a0.f5 :: .int .i64 a0.f6 :: .slice A0_1 a0.f7.length c0_1 :: .bool a0.f8 :: .bool a0.f9 :: .bool a0.f10 :: .bool a0.f11 :: .bool a0.f12 :: .bool a0.f13 :: .int .i64 a0.f14.f0 :: .int .i64 a0.f14.f1 :: .bool a0.f14.f2 :: .bool a0.f14.f3 :: .int .i64 a0.f14.f4.f0 :: .int .i64 a0.f14.f4.f1 :: .bool a0.f14.f4.f2 :: .bool a0.f14.f4.f3 :: .bool a0.f14.f4.f4 :: .bool a0.f14.f4.f5 :: .bool a0.f14.f4.f6 :: .bool a0.f14.f4.f7 :: .bool a0.f14.f4.f8 :: .bool a0.f14.f4.f9 :: .bool a0.f15 :: .int .i64 a0.f16.f0 :: .int .i64 a0.f16.f1 :: .slice A0_2 a0.f16.f2.length c0_2 :: .slice A0_3 a0.f17.length c0_3 :: []), Ro k76 A0_0 c0_0 a0.f0.f2, Ro (Kd.int .i64) A0_1 c0_1 a0.f7, Ro k76 A0_2 c0_2 a0.f16.f2, Ro (Kd.int .i32) A0_3 c0_3 a0.f17, Blk b7 67 [.int .i64 a0.f0.f0, .int .i64 a0.f0.f1, .slice A0_0 a0.f0.f2.length c0_0]] e ds As) ?_ ?_
                    · by_cases h63 : n61 ≤ x6_55
                      · refine RA_noB rfl rfl rfl rfl (dec_t h63) rfl ?_
                        refine RA_noB rfl rfl rfl rfl (dec_t h63) rfl ?_
                        refine RA_noB rfl rfl rfl rfl (dec_t h63) rfl ?_
                        refine RA_noB rfl rfl rfl rfl (dec_t h63) rfl ?_
                        refine RA_step rfl (OA_v rfl (V_pickT rfl (dec_t h63) rfl) ?_)
                        refine RA_nil ?_
                        exact at_normal (St.mk1 (aeq rfl (aeq rfl (aeq rfl (aeq rfl (aeq rfl (aeq rfl (aeq (congrArg Value.bool (or_t hq62 (dec_t h63))) aeq0))))))) (Gh.sel [0, 1, 2, 3, 4, 5] rfl rfl))
                      · refine RA_yesB rfl rfl rfl rfl (dec_f h63) (OA_v (v := .int .i64 n61) rfl (V_move rfl) ?_)
                        refine RA_yesB rfl rfl rfl rfl (dec_f h63) (OA_v (v := .pointer (some ⟨b7, 0, none⟩)) rfl (V_fieldAddrN (B := ⟨b7, 0, none⟩) (m := 0) (o := 0) Try.underlying67 rfl nz3 rfl rfl) ?_)
                        refine RA_yesB rfl rfl rfl rfl (dec_f h63) (OA_r rfl (VR_load_blk (b := b7) (m := 0) (k := 5) Try.underlying3 rfl rfl rfl rfl) ?_)
                        refine RA_yesB rfl rfl rfl rfl (dec_f h63) (OA_v (v := .bool (decide (n61 ≥ a0.f0.f0))) rfl (V_geq rfl rfl) ?_)
                        refine RA_step rfl (OA_v rfl (V_pickF rfl (dec_f h63) rfl) ?_)
                        refine RA_nil ?_
                        exact at_normal (St.mk1 (aeq rfl (aeq rfl (aeq rfl (aeq rfl (aeq rfl (aeq rfl (aeq (congrArg Value.bool (or_f hq62 (dec_f h63))) aeq0))))))) (Gh.sel [0, 1, 2, 3, 4, 5] rfl rfl))
                    · rintro e ds As hst64
                      refine RA_nil ?_
                      refine at_normal ?_
                      refine SA.of_St hst64 fun junk => ?_
                      by_cases h65 : q62 = true
                      · replace H := g_ift h65 H
                        refine SA_condTb rfl h65 ?_
                        refine SA_seq ?_
                        refine SA_region ?_
                        refine RA_step rfl (OA_v (v := .bool false) rfl (V_assign rfl) ?_)
                        refine RA_nil ?_
                        refine at_normal ?_
                        refine SA_ret ?_
                        refine thn_ret ?_
                        refine inb_ret ?_
                        refine thn_ret ?_
                        refine thn_ret ?_
                        refine inb_ret ?_
                        refine thn_ret ?_
                        refine thn_ret ?_
                        have hr_ := Option.some.inj H
                        subst hr_
                        have hb_ := el_ret Bt54
                        have hr_ := Option.some.inj hb_
                        clear hb_
                        subst hr_
                        exact BQ_R1 [] rfl rfl (Gh.sel [] rfl rfl) ⟨rfl, rfl⟩
                      · replace H := g_iff h65 H
                        refine SA_condFb rfl h65 ?_
                        refine SA_skip ?_
                        refine at_normal ?_
                        refine SA_region ?_
                        refine RA_step rfl (OA_v (v := .int .i64 n61) rfl (V_move rfl) ?_)
                        refine RA_step rfl (OA_v (v := .int .i64 n61) rfl (V_assign rfl) ?_)
                        refine RA_nil ?_
                        refine inb_normal ?_
                        refine at_normal ?_
                        refine SA_region ?_
                        refine RA_step rfl (OA_v (v := .int .i64 (IntKind.i64.wrap (x97_55 + 1))) rfl (V_add rfl rfl) ?_)
                        refine RA_step rfl (OA_v (v := .int .i64 (IntKind.i64.wrap (x97_55 + 1))) rfl (V_move rfl) ?_)
                        refine RA_nil ?_
                        exact at_normal ⟨k56, Nat.lt_succ_self _, _, _, H, St.mk1 (aeq rfl (aeq rfl (aeq rfl (aeq rfl (aeq rfl (aeq rfl aeq0)))))) (Gh.sel [0, 1, 2, 3, 4, 5] rfl rfl)⟩
                  · replace H := g_iff h58 H
                    refine SA_condF rfl h58 ?_
                    refine SA_exit ?_
                    refine thn_exit ?_
                    refine thn_exit ?_
                    refine inb_hit ?_
                    have hr_ := Option.some.inj H
                    subst hr_
                    exact at_normal ⟨(), rfl, St.mk1 (aeq rfl (aeq rfl aeq0)) (Gh.sel [0, 1, 2, 3, 4, 5] rfl rfl)⟩
                · rintro e ds As ⟨s55, ht, hst66⟩
                  clear H
                  subst ht
                  replace Bt54 := el_go Bt54
                  have H := Bt54
                  clear Bt54
                  refine at_normal ?_
                  refine SA.of_St hst66 fun junk => ?_
                  refine SA_seq ?_
                  refine SA_seq ?_
                  refine SA_region ?_
                  refine RA_step rfl (OA_v (v := .pointer (some ((⟨b5, 0, none⟩ : Addr).add 39))) rfl (V_fieldAddrN (B := ⟨b5, 0, none⟩) (m := 0) (o := 39) Try.underlying83 rfl nz4 rfl rfl) ?_)
                  refine RA_step rfl (OA_r rfl (VR_load_blk (b := b5) (m := 39) (k := 0) Try.underlying4 rfl rfl rfl rfl) ?_)
                  refine RA_step rfl (OA_v (v := .bool a0.f15) rfl (V_move rfl) ?_)
                  obtain ⟨q67, H, Bq67⟩ := g_bind H
                  refine RA_cut 21 (fun e ds As => St [(1, .pointer (some ⟨b5, 0, none⟩)), (135, .bool q67)] [Blk b5 83 (.int .i64 a0.f0.f0 :: .int .i64 a0.f0.f1 :: .slice A0_0 a0.f0.f2.length c0_0 :: .int .i64 a0.f1 :: .int .i64 a0.f2 :: .bool a0.f3 :: .int .i64 a0.f4.f0 :: .int .i64 a0.f4.f1 :: .bool a0.f4.f2 :: .bool a0.f4.f3 :: .bool a0.f4.f4 :: .bool a0.f4.f5 :: .bool a0.f4.f6 :: .bool a0.f4.f7 :: .bool a0.f4.f8 :: .bool a0.f4.f9 :: .int .i64 a0.f5 :: .int .i64 a0.f6 :: .slice A0_1 a0.f7.length c0_1 :: .bool a0.f8 :: .bool a0.f9 :: .bool a0.f10 :: .bool a0.f11 :: .bool a0.f12 :: .bool a0.f13 :: .int .i64 a0.f14.f0 :: .int .i64 a0.f14.f1 :: .bool a0.f14.f2 :: .bool a0.f14.f3 :: .int .i64 a0.f14.f4.f0 :: .int .i64 a0.f14.f4.f1 :: .bool a0.f14.f4.f2 :: .bool a0.f14.f4.f3 :: .bool a0.f14.f4.f4 :: .bool a0.f14.f4.f5 :: .bool a0.f14.f4.f6 :: .bool a0.f14.f4.f7 :: .bool a0.f14.f4.f8 :: .bool a0.f14.f4.f9 :: .bool a0.f15 :: .int .i64 a0.f16.f0 :: .int .i64 a0.f16.f1 :: .slice A0_2 a0.f16.f2.length c0_2 :: .slice A0_3 a0.f17.length c0_3 :: []), Ro k76 A0_0 c0_0 a0.f0.f2, Ro (Kd.int .i64) A0_1 c0_1 a0.f7, Ro k76 A0_2 c0_2 a0.f16.f2, Ro (Kd.int .i32) A0_3 c0_3 a0.f17] e ds As) ?_ ?_
                  · by_cases h68 : a0.f15 = true
                    · replace H := g_ift h68 H
                      refine RA_yesB rfl rfl rfl rfl (h68) (OA_v (v := .pointer (some ((⟨b5, 0, none⟩ : Addr).add 40))) rfl (V_fieldAddrN (B := ⟨b5, 0, none⟩) (m := 0) (o := 40) Try.underlying83 rfl nz67 rfl rfl) ?_)
                      refine RA_yesB rfl rfl rfl rfl (h68) (OA_r rfl (VR_loadA_blk (b := b5) (m := 40) (k := 0) (vs := [.int .i64 a0.f16.f0, .int .i64 a0.f16.f1, .slice A0_2 a0.f16.f2.length c0_2]) Try.underlying67 rfl sz67 rfl rfl rfl) ?_)
                      obtain ⟨r69, C73, H⟩ := g_bind H
                      refine RA_yesB rfl rfl rfl rfl (h68) (OA_callA [3] [0, 1, 2, 3, 4, 5] rfl (X_fn (vs := [.agg #[.int .i64 a0.f16.f0, .int .i64 a0.f16.f1, .slice A0_2 a0.f16.f2.length c0_2]]) Try.func41 nm41 rfl rfl) rfl (F41.ok (a0 := a0.f16) (A0_0 := A0_2) (c0_0 := c0_2) C73) rfl ?_)
                      rintro _ _ ⟨rfl, rfl⟩
                      refine RA_yesB rfl rfl rfl rfl (h68) (OA_v (v := .bool (!r69)) rfl (V_not rfl) ?_)
                      refine RA_yesB rfl rfl rfl rfl (h68) (OA_v (v := .bool (!r69)) rfl (V_move rfl) ?_)
                      by_cases h70 : (!r69) = true
                      · replace H := g_ift h70 H
                        refine RA_noB rfl rfl rfl rfl (h70) rfl ?_
                        refine RA_noB rfl rfl rfl rfl (h70) rfl ?_
                        refine RA_noB rfl rfl rfl rfl (h70) rfl ?_
                        refine RA_noB rfl rfl rfl rfl (h70) rfl ?_
                        refine RA_noB rfl rfl rfl rfl (h70) rfl ?_
                        refine RA_noB rfl rfl rfl rfl (h70) rfl ?_
                        refine RA_yesB rfl rfl rfl rfl (h68) (OA_v rfl (V_pickT rfl (h70) rfl) ?_)
                        refine RA_yesB rfl rfl rfl rfl (h68) (OA_v (v := .bool true) rfl (V_move rfl) ?_)
                        by_cases h71 : true = true
                        · replace H := g_ift h71 H
                          refine RA_noB rfl rfl rfl rfl (h71) rfl ?_
                          refine RA_noB rfl rfl rfl rfl (h71) rfl ?_
                          refine RA_noB rfl rfl rfl rfl (h71) rfl ?_
                          refine RA_noB rfl rfl rfl rfl (h71) rfl ?_
                          refine RA_noB rfl rfl rfl rfl (h71) rfl ?_
                          refine RA_noB rfl rfl rfl rfl (h71) rfl ?_
                          refine RA_yesB rfl rfl rfl rfl (h68) (OA_v rfl (V_pickT rfl (h71) rfl) ?_)
                          refine RA_step rfl (OA_v rfl (V_pickT rfl (h68) rfl) ?_)
                          have hr_ := Option.some.inj H
                          subst hr_
                          refine RA_nil ?_
                          exact at_normal (St.mk1 (aeq rfl (aeq rfl aeq0)) (Gh.sel [0, 1, 2, 3, 4] rfl rfl))
                        · replace H := g_iff h71 H
                          refine RA_yesB rfl rfl rfl rfl (bno h71) (OA_v (v := .pointer (some ((⟨b5, 0, none⟩ : Addr).add 40))) rfl (V_fieldAddrN (B := ⟨b5, 0, none⟩) (m := 0) (o := 40) Try.underlying83 rfl nz67 rfl rfl) ?_)
                          refine RA_yesB rfl rfl rfl rfl (bno h71) (OA_v (v := .pointer (some ((⟨b5, 0, none⟩ : Addr).add 41))) rfl (V_fieldAddrN (B := ⟨b5, 0, none⟩) (m := 40) (o := 41) Try.underlying67 rfl nz3 rfl rfl) ?_)
                          refine RA_yesB rfl rfl rfl rfl (bno h71) (OA_r rfl (VR_load_blk (b := b5) (m := 41) (k := 0) Try.underlying3 rfl rfl rfl rfl) ?_)
                          refine RA_yesB rfl rfl rfl rfl (bno h71) (OA_v (v := .pointer (some ((⟨b7, 0, none⟩ : Addr).add 1))) rfl (V_fieldAddrN (B := ⟨b7, 0, none⟩) (m := 0) (o := 1) Try.underlying67 rfl nz3 rfl rfl) ?_)
                          refine RA_yesB rfl rfl rfl rfl (bno h71) (OA_r rfl (VR_load_blk (b := b7) (m := 1) (k := 5) Try.underlying3 rfl rfl rfl rfl) ?_)
                          refine RA_yesB rfl rfl rfl rfl (bno h71) (OA_v (v := .bool (decide (a0.f16.f1 ≠ a0.f0.f1))) rfl (V_neq rfl rfl) ?_)
                          refine RA_yesB rfl rfl rfl rfl (h68) (OA_v rfl (V_pickF rfl (bno h71) rfl) ?_)
                          refine RA_step rfl (OA_v rfl (V_pickT rfl (h68) rfl) ?_)
                          have hr_ := Option.some.inj H
                          subst hr_
                          refine RA_nil ?_
                          exact at_normal (St.mk1 (aeq rfl (aeq rfl aeq0)) (Gh.sel [0, 1, 2, 3, 4] rfl rfl))
                      · replace H := g_iff h70 H
                        refine RA_yesB rfl rfl rfl rfl (bno h70) (OA_v (v := .pointer (some ((⟨b5, 0, none⟩ : Addr).add 40))) rfl (V_fieldAddrN (B := ⟨b5, 0, none⟩) (m := 0) (o := 40) Try.underlying83 rfl nz67 rfl rfl) ?_)
                        refine RA_yesB rfl rfl rfl rfl (bno h70) (OA_v (v := .pointer (some ((⟨b5, 0, none⟩ : Addr).add 40))) rfl (V_fieldAddrN (B := ⟨b5, 0, none⟩) (m := 40) (o := 40) Try.underlying67 rfl nz3 rfl rfl) ?_)
                        refine RA_yesB rfl rfl rfl rfl (bno h70) (OA_r rfl (VR_load_blk (b := b5) (m := 40) (k := 0) Try.underlying3 rfl rfl rfl rfl) ?_)
                        refine RA_yesB rfl rfl rfl rfl (bno h70) (OA_v (v := .pointer (some ⟨b7, 0, none⟩)) rfl (V_fieldAddrN (B := ⟨b7, 0, none⟩) (m := 0) (o := 0) Try.underlying67 rfl nz3 rfl rfl) ?_)
                        refine RA_yesB rfl rfl rfl rfl (bno h70) (OA_r rfl (VR_load_blk (b := b7) (m := 0) (k := 5) Try.underlying3 rfl rfl rfl rfl) ?_)
                        refine RA_yesB rfl rfl rfl rfl (bno h70) (OA_v (v := .bool (decide (a0.f16.f0 ≠ a0.f0.f0))) rfl (V_neq rfl rfl) ?_)
                        refine RA_yesB rfl rfl rfl rfl (h68) (OA_v rfl (V_pickF rfl (bno h70) rfl) ?_)
                        refine RA_yesB rfl rfl rfl rfl (h68) (OA_v (v := .bool (decide (a0.f16.f0 ≠ a0.f0.f0))) rfl (V_move rfl) ?_)
                        by_cases h72 : a0.f16.f0 ≠ a0.f0.f0
                        · replace H := g_ift h72 H
                          refine RA_noB rfl rfl rfl rfl (dec_t h72) rfl ?_
                          refine RA_noB rfl rfl rfl rfl (dec_t h72) rfl ?_
                          refine RA_noB rfl rfl rfl rfl (dec_t h72) rfl ?_
                          refine RA_noB rfl rfl rfl rfl (dec_t h72) rfl ?_
                          refine RA_noB rfl rfl rfl rfl (dec_t h72) rfl ?_
                          refine RA_noB rfl rfl rfl rfl (dec_t h72) rfl ?_
                          refine RA_yesB rfl rfl rfl rfl (h68) (OA_v rfl (V_pickT rfl (dec_t h72) rfl) ?_)
                          refine RA_step rfl (OA_v rfl (V_pickT rfl (h68) rfl) ?_)
                          have hr_ := Option.some.inj H
                          subst hr_
                          refine RA_nil ?_
                          exact at_normal (St.mk1 (aeq rfl (aeq rfl aeq0)) (Gh.sel [0, 1, 2, 3, 4] rfl rfl))
                        · replace H := g_iff h72 H
                          refine RA_yesB rfl rfl rfl rfl (dec_f h72) (OA_v (v := .pointer (some ((⟨b5, 0, none⟩ : Addr).add 40))) rfl (V_fieldAddrN (B := ⟨b5, 0, none⟩) (m := 0) (o := 40) Try.underlying83 rfl nz67 rfl rfl) ?_)
                          refine RA_yesB rfl rfl rfl rfl (dec_f h72) (OA_v (v := .pointer (some ((⟨b5, 0, none⟩ : Addr).add 41))) rfl (V_fieldAddrN (B := ⟨b5, 0, none⟩) (m := 40) (o := 41) Try.underlying67 rfl nz3 rfl rfl) ?_)
                          refine RA_yesB rfl rfl rfl rfl (dec_f h72) (OA_r rfl (VR_load_blk (b := b5) (m := 41) (k := 0) Try.underlying3 rfl rfl rfl rfl) ?_)
                          refine RA_yesB rfl rfl rfl rfl (dec_f h72) (OA_v (v := .pointer (some ((⟨b7, 0, none⟩ : Addr).add 1))) rfl (V_fieldAddrN (B := ⟨b7, 0, none⟩) (m := 0) (o := 1) Try.underlying67 rfl nz3 rfl rfl) ?_)
                          refine RA_yesB rfl rfl rfl rfl (dec_f h72) (OA_r rfl (VR_load_blk (b := b7) (m := 1) (k := 5) Try.underlying3 rfl rfl rfl rfl) ?_)
                          refine RA_yesB rfl rfl rfl rfl (dec_f h72) (OA_v (v := .bool (decide (a0.f16.f1 ≠ a0.f0.f1))) rfl (V_neq rfl rfl) ?_)
                          refine RA_yesB rfl rfl rfl rfl (h68) (OA_v rfl (V_pickF rfl (dec_f h72) rfl) ?_)
                          refine RA_step rfl (OA_v rfl (V_pickT rfl (h68) rfl) ?_)
                          have hr_ := Option.some.inj H
                          subst hr_
                          refine RA_nil ?_
                          exact at_normal (St.mk1 (aeq rfl (aeq rfl aeq0)) (Gh.sel [0, 1, 2, 3, 4] rfl rfl))
                    · replace H := g_iff h68 H
                      refine RA_noB rfl rfl rfl rfl (bno h68) rfl ?_
                      refine RA_noB rfl rfl rfl rfl (bno h68) rfl ?_
                      refine RA_noB rfl rfl rfl rfl (bno h68) rfl ?_
                      refine RA_noB rfl rfl rfl rfl (bno h68) rfl ?_
                      refine RA_noB rfl rfl rfl rfl (bno h68) rfl ?_
                      refine RA_noU rfl rfl rfl rfl rfl ?_
                      refine RA_noU rfl rfl rfl rfl rfl ?_
                      refine RA_noU rfl rfl rfl rfl rfl ?_
                      refine RA_noU rfl rfl rfl rfl rfl ?_
                      refine RA_noU rfl rfl rfl rfl rfl ?_
                      refine RA_noU rfl rfl rfl rfl rfl ?_
                      refine RA_noB rfl rfl rfl rfl (bno h68) rfl ?_
                      refine RA_noB rfl rfl rfl rfl (bno h68) rfl ?_
                      refine RA_noU rfl rfl rfl rfl rfl ?_
                      refine RA_noU rfl rfl rfl rfl rfl ?_
                      refine RA_noU rfl rfl rfl rfl rfl ?_
                      refine RA_noU rfl rfl rfl rfl rfl ?_
                      refine RA_noU rfl rfl rfl rfl rfl ?_
                      refine RA_noU rfl rfl rfl rfl rfl ?_
                      refine RA_noB rfl rfl rfl rfl (bno h68) rfl ?_
                      refine RA_step rfl (OA_v rfl (V_pickF rfl (bno h68) rfl) ?_)
                      have hr_ := Option.some.inj H
                      subst hr_
                      refine RA_nil ?_
                      exact at_normal (St.mk1 (aeq rfl (aeq rfl aeq0)) (Gh.sel [0, 1, 2, 3, 4] rfl rfl))
                  · rintro e ds As hst74
                    clear H
                    have H := Bq67
                    clear Bq67
                    refine RA.of_St rfl hst74 fun junk => ?_
                    refine RA_step rfl (OA_v (v := .bool q67) rfl (V_move rfl) ?_)
                    obtain ⟨q75, H, Bq75⟩ := g_bind H
                    refine RA_cut 11 (fun e ds As => St [(1, .pointer (some ⟨b5, 0, none⟩)), (147, .bool q75)] [Blk b5 83 (.int .i64 a0.f0.f0 :: .int .i64 a0.f0.f1 :: .slice A0_0 a0.f0.f2.length c0_0 :: .int .i64 a0.f1 :: .int .i64 a0.f2 :: .bool a0.f3 :: .int .i64 a0.f4.f0 :: .int .i64 a0.f4.f1 :: .bool a0.f4.f2 :: .bool a0.f4.f3 :: .bool a0.f4.f4 :: .bool a0.f4.f5 :: .bool a0.f4.f6 :: .bool a0.f4.f7 :: .bool a0.f4.f8 :: .bool a0.f4.f9 :: .int .i64 a0.f5 :: .int .i64 a0.f6 :: .slice A0_1 a0.f7.length c0_1 :: .bool a0.f8 :: .bool a0.f9 :: .bool a0.f10 :: .bool a0.f11 :: .bool a0.f12 :: .bool a0.f13 :: .int .i64 a0.f14.f0 :: .int .i64 a0.f14.f1 :: .bool a0.f14.f2 :: .bool a0.f14.f3 :: .int .i64 a0.f14.f4.f0 :: .int .i64 a0.f14.f4.f1 :: .bool a0.f14.f4.f2 :: .bool a0.f14.f4.f3 :: .bool a0.f14.f4.f4 :: .bool a0.f14.f4.f5 :: .bool a0.f14.f4.f6 :: .bool a0.f14.f4.f7 :: .bool a0.f14.f4.f8 :: .bool a0.f14.f4.f9 :: .bool a0.f15 :: .int .i64 a0.f16.f0 :: .int .i64 a0.f16.f1 :: .slice A0_2 a0.f16.f2.length c0_2 :: .slice A0_3 a0.f17.length c0_3 :: []), Ro k76 A0_0 c0_0 a0.f0.f2, Ro (Kd.int .i64) A0_1 c0_1 a0.f7, Ro k76 A0_2 c0_2 a0.f16.f2, Ro (Kd.int .i32) A0_3 c0_3 a0.f17] e ds As) ?_ ?_
                    · by_cases h76 : q67 = true
                      · replace H := g_ift h76 H
                        refine RA_noB rfl rfl rfl rfl (h76) rfl ?_
                        refine RA_noB rfl rfl rfl rfl (h76) rfl ?_
                        refine RA_noB rfl rfl rfl rfl (h76) rfl ?_
                        refine RA_noB rfl rfl rfl rfl (h76) rfl ?_
                        refine RA_noU rfl rfl rfl rfl rfl ?_
                        refine RA_noU rfl rfl rfl rfl rfl ?_
                        refine RA_noU rfl rfl rfl rfl rfl ?_
                        refine RA_noU rfl rfl rfl rfl rfl ?_
                        refine RA_noU rfl rfl rfl rfl rfl ?_
                        refine RA_noB rfl rfl rfl rfl (h76) rfl ?_
                        refine RA_step rfl (OA_v rfl (V_pickT rfl (h76) rfl) ?_)
                        have hr_ := Option.some.inj H
                        subst hr_
                        refine RA_nil ?_
                        exact at_normal (St.mk1 (aeq rfl (aeq rfl aeq0)) (Gh.sel [0, 1, 2, 3, 4] rfl rfl))
                      · replace H := g_iff h76 H
                        refine RA_yesB rfl rfl rfl rfl (bno h76) (OA_v (v := .pointer (some ((⟨b5, 0, none⟩ : Addr).add 39))) rfl (V_fieldAddrN (B := ⟨b5, 0, none⟩) (m := 0) (o := 39) Try.underlying83 rfl nz4 rfl rfl) ?_)
                        refine RA_yesB rfl rfl rfl rfl (bno h76) (OA_r rfl (VR_load_blk (b := b5) (m := 39) (k := 0) Try.underlying4 rfl rfl rfl rfl) ?_)
                        refine RA_yesB rfl rfl rfl rfl (bno h76) (OA_v (v := .bool (!a0.f15)) rfl (V_not rfl) ?_)
                        refine RA_yesB rfl rfl rfl rfl (bno h76) (OA_v (v := .bool (!a0.f15)) rfl (V_move rfl) ?_)
                        by_cases h77 : (!a0.f15) = true
                        · replace H := g_ift h77 H
                          refine RA_yesB rfl rfl rfl rfl (h77) (OA_v (v := .pointer (some ((⟨b5, 0, none⟩ : Addr).add 40))) rfl (V_fieldAddrN (B := ⟨b5, 0, none⟩) (m := 0) (o := 40) Try.underlying83 rfl nz67 rfl rfl) ?_)
                          refine RA_yesB rfl rfl rfl rfl (h77) (OA_r rfl (VR_loadA_blk (b := b5) (m := 40) (k := 0) (vs := [.int .i64 a0.f16.f0, .int .i64 a0.f16.f1, .slice A0_2 a0.f16.f2.length c0_2]) Try.underlying67 rfl sz67 rfl rfl rfl) ?_)
                          refine RA_yesB rfl rfl rfl rfl (h77) (OA_v (v := .agg #[.int .i64 0, .int .i64 0, .slice none 0 0]) rfl (V_build (cells := [.int .i64 0, .int .i64 0, .slice none 0 0]) zero67 Try.underlying67 plc67 (by kernel_rfl)) ?_)
                          obtain ⟨r79, C80, H⟩ := g_bind H
                          refine RA_yesB rfl rfl rfl rfl (h77) (OA.ghost (Gh.nilRo k76 none 0) (OA_callA [3, 5] [0, 1, 2, 3, 4, 5] rfl (X_fn (vs := [.agg #[.int .i64 a0.f16.f0, .int .i64 a0.f16.f1, .slice A0_2 a0.f16.f2.length c0_2], .agg #[.int .i64 0, .int .i64 0, .slice none 0 0]]) Try.func50 nm50 rfl rfl) rfl (F50.ok (a0 := a0.f16) (A0_0 := A0_2) (c0_0 := c0_2) (a1 := (S67.mk 0 0 ([] : (List S76)))) (A1_0 := none) (c1_0 := 0) C80) rfl ?_))
                          rintro _ _ ⟨rfl, rfl⟩
                          refine RA_yesB rfl rfl rfl rfl (h77) (OA_v (v := .bool (!r79)) rfl (V_not rfl) ?_)
                          refine RA_yesB rfl rfl rfl rfl (bno h76) (OA_v rfl (V_pickT rfl (h77) rfl) ?_)
                          refine RA_step rfl (OA_v rfl (V_pickF rfl (bno h76) rfl) ?_)
                          have hr_ := Option.some.inj H
                          subst hr_
                          refine RA_nil ?_
                          exact at_normal (St.mk1 (aeq rfl (aeq rfl aeq0)) (Gh.sel [0, 1, 2, 3, 4] rfl rfl))
                        · replace H := g_iff h77 H
                          refine RA_noB rfl rfl rfl rfl (bno h77) rfl ?_
                          refine RA_noB rfl rfl rfl rfl (bno h77) rfl ?_
                          refine RA_noB rfl rfl rfl rfl (bno h77) rfl ?_
                          refine RA_noB rfl rfl rfl rfl (bno h77) rfl ?_
                          refine RA_noB rfl rfl rfl rfl (bno h77) rfl ?_
                          refine RA_yesB rfl rfl rfl rfl (bno h76) (OA_v rfl (V_pickF rfl (bno h77) rfl) ?_)
                          refine RA_step rfl (OA_v rfl (V_pickF rfl (bno h76) rfl) ?_)
                          have hr_ := Option.some.inj H
                          subst hr_
                          refine RA_nil ?_
                          exact at_normal (St.mk1 (aeq rfl (aeq rfl aeq0)) (Gh.sel [0, 1, 2, 3, 4] rfl rfl))
                    · rintro e ds As hst81
                      clear H
                      have H := Bq75
                      clear Bq75
                      refine RA_nil ?_
                      refine at_normal ?_
                      refine SA.of_St hst81 fun junk => ?_
                      by_cases h82 : q75 = true
                      · replace H := g_ift h82 H
                        refine SA_condTb rfl h82 ?_
                        refine SA_seq ?_
                        refine SA_region ?_
                        refine RA_step rfl (OA_v (v := .bool false) rfl (V_assign rfl) ?_)
                        refine RA_nil ?_
                        refine at_normal ?_
                        refine SA_ret ?_
                        refine thn_ret ?_
                        have hr_ := Option.some.inj H
                        subst hr_
                        exact BQ_R1 [] rfl rfl (Gh.sel [] rfl rfl) ⟨rfl, rfl⟩
                      · replace H := g_iff h82 H
                        refine SA_condFb rfl h82 ?_
                        refine SA_skip ?_
                        refine at_normal ?_
                        refine SA_seq ?_
                        refine SA_region ?_
                        refine RA_step rfl (OA_v (v := .pointer (some ((⟨b5, 0, none⟩ : Addr).add 43))) rfl (V_fieldAddrN (B := ⟨b5, 0, none⟩) (m := 0) (o := 43) Try.underlying83 rfl nz81 rfl rfl) ?_)
                        refine RA_step rfl (OA_r rfl (VR_load_blk (b := b5) (m := 43) (k := 0) Try.underlying81 rfl rfl rfl rfl) ?_)
                        refine RA_step rfl (OA_v (v := .int .i64 (a0.f17.length : Int)) rfl (V_len Try.underlying81 rfl) ?_)
                        refine RA_step rfl (OA_v (v := .bool (decide ((a0.f17.length : Int) ≤ 256))) rfl (V_leq rfl rfl) ?_)
                        refine RA_step rfl (OA_v (v := .bool (decide ((a0.f17.length : Int) ≤ 256))) rfl (V_move rfl) ?_)
                        obtain ⟨q83, H, Bq83⟩ := g_bind H
                        refine RA_cut 5 (fun e ds As => St [(157, .bool q83)] [] e ds As) ?_ ?_
                        · by_cases h84 : (a0.f17.length : Int) ≤ 256
                          · replace H := g_ift h84 H
                            refine RA_yesB rfl rfl rfl rfl (dec_t h84) (OA_v (v := .pointer (some ((⟨b5, 0, none⟩ : Addr).add 43))) rfl (V_fieldAddrN (B := ⟨b5, 0, none⟩) (m := 0) (o := 43) Try.underlying83 rfl nz81 rfl rfl) ?_)
                            refine RA_yesB rfl rfl rfl rfl (dec_t h84) (OA_r rfl (VR_load_blk (b := b5) (m := 43) (k := 0) Try.underlying81 rfl rfl rfl rfl) ?_)
                            obtain ⟨r85, C86, H⟩ := g_bind H
                            refine RA_yesB rfl rfl rfl rfl (dec_t h84) (OA_callA [4] [0, 1, 2, 3, 4] rfl (X_fn (vs := [.slice A0_3 a0.f17.length c0_3, .func (.func 107) #[] #[]]) Try.func106 nm106 rfl rfl) rfl (SCA.unpk (pre0 := [Ro (Kd.int .i32) A0_3 c0_3 a0.f17]) (Bs := []) ((F106.ok (l0 := a0.f17) (A0 := A0_3) (c0 := c0_3) (g1 := (fun (x0_ : Int) => F107.f x0_)) (fv1 := .func (.func 107) #[] #[]) (Fr1 := Pk []) (hg1 := (fun {x0_} {r_} C_ => FC.of (pre0 := []) (Bs := []) (cap := []) Try.func107 nm107 rfl ((F107.ok (a0 := x0_) C_).mono (fun _ _ ⟨hv_, hB_⟩ => ⟨_, ⟨hv_, rfl⟩, hB_⟩)))) C86).mono (fun (v_ : Value) (B_ : List Asrt) ⟨hv_, hB_⟩ => (⟨[], ⟨hv_, rfl⟩, hB_⟩ : ∃ B0_ : List Asrt, (v_ = (.bool r85 : Value) ∧ B0_ = []) ∧ B_ = B0_ ++ [Pk []])))) rfl ?_)
                            rintro _ _ ⟨_, ⟨rfl, rfl⟩, rfl⟩
                            refine RA_yesB rfl rfl rfl rfl (dec_t h84) (OA_v (v := .bool (!r85)) rfl (V_not rfl) ?_)
                            refine RA_step rfl (OA_v rfl (V_pickT rfl (dec_t h84) rfl) ?_)
                            have hr_ := Option.some.inj H
                            subst hr_
                            refine RA_nil ?_
                            exact at_normal (St.mk1 (aeq rfl aeq0) (Gh.sel [] rfl rfl))
                          · replace H := g_iff h84 H
                            refine RA_noB rfl rfl rfl rfl (dec_f h84) rfl ?_
                            refine RA_noB rfl rfl rfl rfl (dec_f h84) rfl ?_
                            refine RA_noB rfl rfl rfl rfl (dec_f h84) rfl ?_
                            refine RA_noB rfl rfl rfl rfl (dec_f h84) rfl ?_
                            refine RA_step rfl (OA_v rfl (V_pickF rfl (dec_f h84) rfl) ?_)
                            have hr_ := Option.some.inj H
                            subst hr_
                            refine RA_nil ?_
                            exact at_normal (St.mk1 (aeq rfl aeq0) (Gh.sel [] rfl rfl))
                        · rintro e ds As hst87
                          clear H
                          have H := Bq83
                          clear Bq83
                          refine RA.of_St rfl hst87 fun junk => ?_
                          refine RA_step rfl (OA_v (v := .bool q83) rfl (V_assign rfl) ?_)
                          refine RA_nil ?_
                          refine at_normal ?_
                          refine SA_ret ?_
                          have hr_ := Option.some.inj H
                          subst hr_
                          exact BQ_R1 [] rfl rfl (Gh.sel [] rfl rfl) ⟨rfl, rfl⟩
end Go.Proofs.Ytodkeoibebimgaa.Kc

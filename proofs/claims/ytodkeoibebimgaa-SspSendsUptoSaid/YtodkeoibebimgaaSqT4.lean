/- What a function computes, and that it does: 4. -/
import Derived.Test.YtodkeoibebimgaaSq0
import Derived.Test.YtodkeoibebimgaaSq1
import Derived.Test.YtodkeoibebimgaaSq2
import Derived.Test.YtodkeoibebimgaaSq3
import Derived.Test.YtodkeoibebimgaaSq4
namespace Go.Proofs.Ytodkeoibebimgaa.Sq
open Go Go.RowKit Go.Proofs.Ytodkeoibebimgaa.SL
set_option linter.unusedVariables false
set_option linter.unusedSimpArgs false
attribute [local irreducible] IntKind.wrap minI maxI shrI shlI andI orI xorI andNotI cplI rd sub bytesOf strOf slA
/-! ### function 4: wayfarer/wayfarerlaw23.SspSends -/
def F4.l0 (l1 : (List S46)) : Nat → S131 → S49 → Int → Int → Option (Out (Bool) (Unit))
  | 0, _, _, _, _ => none
  | k + 1, x5_16, x6_16, x7_16, x8_16 => if x8_16 < (l1.length : Int) then (if 0 ≤ x8_16 ∧ x8_16 < (l1.length : Int) then (((if ((rd l1 x8_16).f0) = 0 then (some (decide (((rd l1 x8_16).f0) = 0))) else (some (decide (((rd l1 x8_16).f0) = 3))) : Option (Bool)).bind (fun t42 => if t42 = true then (lt ((rd l1 x8_16).f4) fun n46 => (if ((rd l1 x8_16).f0) = 0 then (if x6_16.f0.size + ((rd l1 x8_16).f4).size ≤ 9223372036854775807 then (lt (x6_16.f0 ++ ((rd l1 x8_16).f4)) fun n469 => some n469) else none) else (some n46) : Option (ByteArray)).bind (fun t47 => (F22b0.f x5_16 (S41.mk t47)).bind (fun r533 => if r533.1 ≠ 0 then (some (Out.ret (false))) else (some (Out.go (r533.2, (S49.mk t47 x6_16.f1 x6_16.f2 x6_16.f3 x6_16.f4), x7_16)))))) else (if ((rd l1 x8_16).f0) = 1 then ((F23b0.f k x5_16 ((rd l1 x8_16).f1)).bind (fun r722 => (F24b0.f k x6_16 ((rd l1 x8_16).f1)).bind (fun r962 => if r722.1 ≠ r962.1 then (some (Out.ret (false))) else (some (Out.go (r722.2, r962.2, x7_16)))))) else (if ((rd l1 x8_16).f0) = 2 then ((if (IntKind.u64.wrap (x7_16 + ((rd l1 x8_16).f1))) ≥ x7_16 then (lt (IntKind.u64.wrap (x7_16 + ((rd l1 x8_16).f1))) fun n1087 => some n1087) else (some x7_16) : Option (Int)).bind (fun t1085 => (if ((rd l1 x8_16).f2) = (-7) then (lt ((rd l1 x8_16).f1) fun n1091 => some n1091) else (some t1085) : Option (Int)).bind (fun t1089 => (F25b0.f x5_16 t1089 ((rd l1 x8_16).f2) ((rd l1 x8_16).f3)).bind (fun r1095 => (F26b0.f x6_16 t1089 ((rd l1 x8_16).f2) ((rd l1 x8_16).f3)).bind (fun r1106 => (F27b0b1.f r1095.1 r1106.1).bind (fun r1117 => lt ((!r1117) || (decide (r1095.2.1 ≠ r1106.2.1))) fun q1118 => lt (q1118 || (decide (r1095.2.2.1 ≠ r1106.2.2.1))) fun q1121 => if q1121 = true then (some (Out.ret (false))) else (some (Out.go (r1095.2.2.2, r1106.2.2.2, t1085))))))))) else (some (Out.go (x5_16, x6_16, x7_16)))))) : Option (Out (Bool) (S131 × S49 × Int))).bind (fun t32 => Out.el t32 (fun r_ => some (Out.ret r_)) (fun s33 => (F28b0.f s33.1).bind (fun r1131 => (if 0 ≤ (0 : Int) ∧ (0 : Int) < (s33.2.1.f1.length : Int) then (if r1131.1 ≠ ((rd s33.2.1.f1 (0 : Int)).f0) then (some true) else (if 0 ≤ (IntKind.i64.wrap ((s33.2.1.f1.length : Int) - 1)) ∧ (IntKind.i64.wrap ((s33.2.1.f1.length : Int) - 1)) < (s33.2.1.f1.length : Int) then (if r1131.2.1 ≠ ((rd s33.2.1.f1 (IntKind.i64.wrap ((s33.2.1.f1.length : Int) - 1))).f0) then (some true) else (some (decide (r1131.2.2 ≠ (s33.2.1.f1.length : Int))))) else none)) else none : Option (Bool)).bind (fun t1132 => if t1132 = true then (some (Out.ret (false))) else (lt (IntKind.i64.wrap (x8_16 + 1)) fun n3238 => F4.l0 l1 k s33.1 s33.2.1 s33.2.2 n3238)))))) else none) else (some (Out.go ()))
def F4.f (k : Nat) (a0 : ByteArray) (l1 : (List S46)) : Option (Bool) := (F20.f (S41.mk a0)).bind (fun r2 => (F21.f a0).bind (fun r8 => (F4.l0 l1 k r2 r8 0 0 : Option (Out (Bool) (Unit))).bind (fun t15 => Out.el t15 (fun r_ => some r_) (fun s16 => (F29.f k ).bind (fun r3241 => some (r3241))))))
set_option maxHeartbeats 2000000 in
set_option maxRecDepth 100000 in
theorem F4.ok {k : Nat} {a0 : ByteArray} {l1 : (List S46)} {A1 : Option Addr} {c1 : Nat} {r : Bool} (H : F4.f k a0 l1 = some r) : SCA Try.prog 4 #[.string a0, .slice A1 l1.length c1] [Ro k46 A1 c1 l1] (fun v B => v = .bool r ∧ B = []) := by
  refine SCA_of_body Try.func4 rfl rfl ?_
  unfold F4.f at H
  refine SA_seq ?_
  refine SA_region ?_
  refine RA_step rfl (OA_v (v := .bool false) rfl (V_assign rfl) ?_)
  refine RA_nil ?_
  refine at_normal ?_
  refine SA_seq ?_
  refine SA_region ?_
  refine RA_step rfl (OA_v (v := .string a0) rfl (V_move rfl) ?_)
  refine RA_step rfl (OA_v (v := .agg #[.string a0]) rfl (V_build (cells := [.string a0]) zero41 Try.underlying41 plc41 (by kernel_rfl)) ?_)
  obtain ⟨r2, C3244, H⟩ := g_bind H
  refine RA_step rfl (OA_callA [] [0] rfl (X_fn (vs := [.agg #[.string a0]]) Try.func20 nm20 rfl rfl) rfl (F20.ok (a0 := (S41.mk a0)) C3244) rfl ?_)
  rintro _ _ ⟨b3, A5, c6, rfl, rfl⟩
  refine RA_step rfl (OA_v (v := .string a0) rfl (V_move rfl) ?_)
  obtain ⟨r8, C3243, H⟩ := g_bind H
  refine RA_step rfl (OA_callA [] [0, 1, 2] rfl (X_fn (vs := [.string a0]) Try.func21 nm21 rfl rfl) rfl (F21.ok (a0 := a0) C3243) rfl ?_)
  rintro _ _ ⟨b9, A11, c12, rfl, rfl⟩
  refine RA_step rfl (OA_v (v := .pointer (some ⟨b3, 0, none⟩)) rfl (V_assign rfl) ?_)
  refine RA_step rfl (OA_v (v := .pointer (some ⟨b9, 0, none⟩)) rfl (V_assign rfl) ?_)
  refine RA_nil ?_
  refine at_normal ?_
  refine SA_seq ?_
  refine SA_seq ?_
  refine SA_region ?_
  refine RA_step rfl (OA_v (v := .pointer (some ⟨b3, 0, none⟩)) rfl (V_move rfl) ?_)
  refine RA_step rfl (OA_v (v := .bool false) rfl (V_eqlPN Try.underlying38 rfl rfl) ?_)
  refine RA_nil ?_
  refine at_normal ?_
  refine SA_condFb rfl (by decide) ?_
  refine SA_skip ?_
  refine at_normal ?_
  refine SA_seq ?_
  refine SA_region ?_
  refine RA_step rfl (OA_v (v := .int .u64 0) rfl (V_assign rfl) ?_)
  refine RA_nil ?_
  refine at_normal ?_
  refine SA_seq ?_
  refine SA_seq ?_
  refine SA_region ?_
  refine RA_step rfl (OA_v (v := .int .i64 0) rfl (V_assign rfl) ?_)
  refine RA_nil ?_
  refine at_normal ?_
  obtain ⟨t15, H, Bt15⟩ := g_bind H
  refine SA_mid (fun e ds As => ∃ (s16 : Unit), t15 = Out.go s16 ∧ St [] [] e ds As) ?_ ?_
  · refine SA_block ?_
    refine SA_loop (fun k_ e ds As => ∃ (x5_16 : S131) (x6_16 : S49) (x7_16 : Int) (x8_16 : Int), ∃ (b17 : Nat), ∃ (A18 : Option Addr) (c19 : Nat), ∃ (b21 : Nat), ∃ (A22 : Option Addr) (c23 : Nat), F4.l0 l1 k_ x5_16 x6_16 x7_16 x8_16 = some t15 ∧ St [(1, .slice A1 l1.length c1), (5, .pointer (some ⟨b17, 0, none⟩)), (6, .pointer (some ⟨b21, 0, none⟩)), (7, .int .u64 x7_16), (8, .int .i64 x8_16)] [Ro k46 A1 c1 l1, Blk b17 131 [.slice A18 x5_16.f0.length c19, .string x5_16.f1.f0, .int .u64 x5_16.f2, .bool x5_16.f3, .int .u64 x5_16.f4], Buf k128 128 A18 c19 x5_16.f0, Blk b21 49 [.string x6_16.f0, .slice A22 x6_16.f1.length c23, .bool x6_16.f2, .int .u64 x6_16.f3, .int .u64 x6_16.f4], Buf k63 63 A22 c23 x6_16.f1] e ds As) (k := k) ⟨_, _, _, _, b3, A5, c6, b9, A11, c12, H, St.mk1 (aeq rfl (aeq rfl (aeq rfl (aeq rfl (aeq rfl aeq0))))) (Gh.sel [4, 2, 3, 0, 1] rfl rfl)⟩ ?_
    clear H
    rintro k25 e ds As ⟨x5_16, x6_16, x7_16, x8_16, b17, A18, c19, b21, A22, c23, H, hst26⟩
    obtain _ | k25 := k25
    · cases H
    rw [F4.l0] at H
    refine SA.of_St hst26 fun junk => ?_
    refine SA_seq ?_
    refine SA_seq ?_
    refine SA_region ?_
    refine RA_step rfl (OA_v (v := .int .i64 x8_16) rfl (V_move rfl) ?_)
    refine RA_step rfl (OA_v (v := .slice A1 l1.length c1) rfl (V_move rfl) ?_)
    refine RA_step rfl (OA_v (v := .int .i64 (l1.length : Int)) rfl (V_len Try.underlying37 rfl) ?_)
    refine RA_step rfl (OA_v (v := .bool (decide (x8_16 < (l1.length : Int)))) rfl (V_lss rfl rfl) ?_)
    refine RA_nil ?_
    refine at_normal ?_
    by_cases h27 : x8_16 < (l1.length : Int)
    · replace H := g_ift h27 H
      refine SA_condT rfl h27 ?_
      refine SA_skip ?_
      refine at_normal ?_
      refine SA_seq ?_
      refine SA_block ?_
      refine SA_seq ?_
      refine SA_region ?_
      refine RA_step rfl (OA_v (v := .slice A1 l1.length c1) rfl (V_move rfl) ?_)
      refine RA_step rfl (OA_v (v := .int .i64 x8_16) rfl (V_move rfl) ?_)
      obtain ⟨⟨g28, g29⟩, H⟩ := g_pos H
      refine RA_step rfl (OA_r rfl (VR_index (i := x8_16) Try.underlying37 sz46 rfl rfl (Src.ro (k := 0) rfl) g28 g29) ?_)
      refine RA_step rfl (OA_r rfl (VR_loadA_el (enc := enc46) (i := x8_16) (j := x8_16.toNat * 5) (m := 0) (sz := 5) (vs := [.int .u8 ((rd l1 x8_16).f0), .int .u64 ((rd l1 x8_16).f1), .int .i64 ((rd l1 x8_16).f2), .int .i64 ((rd l1 x8_16).f3), .string ((rd l1 x8_16).f4)]) Try.underlying46 rfl sz46 rfl rfl rfl (Src.ro (k := 0) rfl) g28 g29 (fun _ _ h => h) rfl) ?_)
      refine RA_step rfl (OA_alloc rfl zero46 fun b30 => ?_)
      refine RA_step rfl (OA_st (b := b30) (m := 0) (k := 5) (vs := [.int .u8 ((rd l1 x8_16).f0), .int .u64 ((rd l1 x8_16).f1), .int .i64 ((rd l1 x8_16).f2), .int .i64 ((rd l1 x8_16).f3), .string ((rd l1 x8_16).f4)]) (cs' := [.int .u8 ((rd l1 x8_16).f0), .int .u64 ((rd l1 x8_16).f1), .int .i64 ((rd l1 x8_16).f2), .int .i64 ((rd l1 x8_16).f3), .string ((rd l1 x8_16).f4)]) rfl rfl rfl rfl rfl rfl sz46 rfl rfl ?_)
      refine RA_nil ?_
      refine at_normal ?_
      refine SA_seq ?_
      refine SA_seq ?_
      refine SA_region ?_
      refine RA_step rfl (OA_v (v := .pointer (some ⟨b30, 0, none⟩)) rfl (V_fieldAddrN (B := ⟨b30, 0, none⟩) (m := 0) (o := 0) Try.underlying46 rfl nz5 rfl rfl) ?_)
      refine RA_step rfl (OA_r rfl (VR_load_blk (b := b30) (m := 0) (k := 5) Try.underlying5 rfl rfl rfl rfl) ?_)
      refine RA_nil ?_
      refine at_normal ?_
      obtain ⟨t32, H, Bt32⟩ := g_bind H
      refine SA_mid (fun e ds As => ∃ (s33 : S131 × S49 × Int), t32 = Out.go s33 ∧ ∃ (b34 : Nat), ∃ (A35 : Option Addr) (c36 : Nat), ∃ (b38 : Nat), ∃ (A39 : Option Addr) (c40 : Nat), St [(1, .slice A1 l1.length c1), (5, .pointer (some ⟨b34, 0, none⟩)), (6, .pointer (some ⟨b38, 0, none⟩)), (7, .int .u64 s33.2.2), (8, .int .i64 x8_16)] [Blk b34 131 [.slice A35 s33.1.f0.length c36, .string s33.1.f1.f0, .int .u64 s33.1.f2, .bool s33.1.f3, .int .u64 s33.1.f4], Buf k128 128 A35 c36 s33.1.f0, Blk b38 49 [.string s33.2.1.f0, .slice A39 s33.2.1.f1.length c40, .bool s33.2.1.f2, .int .u64 s33.2.1.f3, .int .u64 s33.2.1.f4], Buf k63 63 A39 c40 s33.2.1.f1, Ro k46 A1 c1 l1] e ds As) ?_ ?_
      · refine SA_block ?_
        refine SA_seq ?_
        refine SA_seq ?_
        refine SA_region ?_
        refine RA_step rfl (OA_v (v := .bool (decide (((rd l1 x8_16).f0) = 0))) rfl (V_eql rfl rfl) ?_)
        refine RA_step rfl (OA_v (v := .bool (decide (((rd l1 x8_16).f0) = 0))) rfl (V_assign rfl) ?_)
        refine RA_nil ?_
        refine at_normal ?_
        obtain ⟨t42, H, Bt42⟩ := g_bind H
        refine SA_mid (fun e ds As => St [(1, .slice A1 l1.length c1), (5, .pointer (some ⟨b17, 0, none⟩)), (6, .pointer (some ⟨b21, 0, none⟩)), (7, .int .u64 x7_16), (8, .int .i64 x8_16), (9, .pointer (some ⟨b30, 0, none⟩)), (39, .int .u8 ((rd l1 x8_16).f0)), (40, .bool t42)] [Ro k46 A1 c1 l1, Blk b17 131 [.slice A18 x5_16.f0.length c19, .string x5_16.f1.f0, .int .u64 x5_16.f2, .bool x5_16.f3, .int .u64 x5_16.f4], Buf k128 128 A18 c19 x5_16.f0, Blk b21 49 [.string x6_16.f0, .slice A22 x6_16.f1.length c23, .bool x6_16.f2, .int .u64 x6_16.f3, .int .u64 x6_16.f4], Buf k63 63 A22 c23 x6_16.f1, Blk b30 46 [.int .u8 ((rd l1 x8_16).f0), .int .u64 ((rd l1 x8_16).f1), .int .i64 ((rd l1 x8_16).f2), .int .i64 ((rd l1 x8_16).f3), .string ((rd l1 x8_16).f4)]] e ds As) ?_ ?_
        · by_cases h43 : ((rd l1 x8_16).f0) = 0
          · replace H := g_ift h43 H
            refine SA_condT rfl h43 ?_
            refine SA_skip ?_
            have hr_ := Option.some.inj H
            subst hr_
            exact at_normal (St.mk1 (aeq rfl (aeq rfl (aeq rfl (aeq rfl (aeq rfl (aeq rfl (aeq rfl (aeq rfl aeq0)))))))) (Gh.sel [0, 1, 2, 3, 4, 5] rfl rfl))
          replace H := g_iff h43 H
          refine SA_condF rfl h43 ?_
          refine SA_region ?_
          refine RA_step rfl (OA_v (v := .bool (decide (((rd l1 x8_16).f0) = 3))) rfl (V_eql rfl rfl) ?_)
          refine RA_step rfl (OA_v (v := .bool (decide (((rd l1 x8_16).f0) = 3))) rfl (V_assign rfl) ?_)
          refine RA_nil ?_
          have hr_ := Option.some.inj H
          subst hr_
          exact at_normal (St.mk1 (aeq rfl (aeq rfl (aeq rfl (aeq rfl (aeq rfl (aeq rfl (aeq rfl (aeq rfl aeq0)))))))) (Gh.sel [0, 1, 2, 3, 4, 5] rfl rfl))
        rintro e ds As hst44
        clear H
        have H := Bt42
        clear Bt42
        refine at_normal ?_
        refine SA.of_St hst44 fun junk => ?_
        by_cases h45 : t42 = true
        · replace H := g_ift h45 H
          refine SA_condTb rfl h45 ?_
          refine SA_seq ?_
          refine SA_region ?_
          refine RA_step rfl (OA_v (v := .pointer (some ((⟨b30, 0, none⟩ : Addr).add 4))) rfl (V_fieldAddrN (B := ⟨b30, 0, none⟩) (m := 0) (o := 4) Try.underlying46 rfl nz9 rfl rfl) ?_)
          refine RA_step rfl (OA_r rfl (VR_load_blk (b := b30) (m := 4) (k := 5) Try.underlying9 rfl rfl rfl rfl) ?_)
          obtain ⟨n46, hn46, H⟩ := g_lt H
          refine RA_step rfl (OA_v (v := .string n46) rfl (V_assign (v := .string n46) (congrArg (Value.string) hn46.symm)) ?_)
          refine RA_nil ?_
          refine at_normal ?_
          refine SA_seq ?_
          refine SA_seq ?_
          refine SA_region ?_
          refine RA_step rfl (OA_v (v := .pointer (some ⟨b30, 0, none⟩)) rfl (V_fieldAddrN (B := ⟨b30, 0, none⟩) (m := 0) (o := 0) Try.underlying46 rfl nz5 rfl rfl) ?_)
          refine RA_step rfl (OA_r rfl (VR_load_blk (b := b30) (m := 0) (k := 5) Try.underlying5 rfl rfl rfl rfl) ?_)
          refine RA_step rfl (OA_v (v := .bool (decide (((rd l1 x8_16).f0) = 0))) rfl (V_eql rfl rfl) ?_)
          refine RA_nil ?_
          refine at_normal ?_
          obtain ⟨t47, H, Bt47⟩ := g_bind H
          refine SA_mid (fun e ds As => St [(1, .slice A1 l1.length c1), (5, .pointer (some ⟨b17, 0, none⟩)), (6, .pointer (some ⟨b21, 0, none⟩)), (7, .int .u64 x7_16), (8, .int .i64 x8_16), (10, .string t47)] [Ro k46 A1 c1 l1, Blk b17 131 [.slice A18 x5_16.f0.length c19, .string x5_16.f1.f0, .int .u64 x5_16.f2, .bool x5_16.f3, .int .u64 x5_16.f4], Buf k128 128 A18 c19 x5_16.f0, Blk b21 49 [.string x6_16.f0, .slice A22 x6_16.f1.length c23, .bool x6_16.f2, .int .u64 x6_16.f3, .int .u64 x6_16.f4], Buf k63 63 A22 c23 x6_16.f1] e ds As) ?_ ?_
          · by_cases h48 : ((rd l1 x8_16).f0) = 0
            · replace H := g_ift h48 H
              refine SA_condT rfl h48 ?_
              refine SA_drawHq [0, 1, 2, 3, 4, 5, 6, 7] #[[], [0], [0, 1], [0, 1, 2], [], [4], [0, 1, 2, 3, 4, 5], [0, 1, 2, 3, 4, 5, 6]] [0, 3, 5] [0, 1, 2, 4] mixed rfl rfl rfl (PanOk.thn (PanOk.thn (PanOk.inb (PanOk.thn (PanOk.thn (PanOk.inb (PanOk.thn (PanOk.thn (PanOk.inb (PanOk.thn (PanOk.thn PanOk.body))))))))))) fun I0 hS h0 hh0 w0 sH dd pk => ?_
              refine DH_take (v := .pointer (some ⟨b21, 0, none⟩)) 0 (by kernel_rfl) rfl rfl (.no rfl) pk sH rfl (VR.ofV (V_move rfl)) ?_
              refine DH_take (v := .pointer (some ⟨b21, 0, none⟩)) 1 (by kernel_rfl) rfl rfl (.no rfl) pk sH rfl (VR.ofV (V_nilCheck rfl)) ?_
              refine DH_take (v := .pointer (some ⟨b21, 0, none⟩)) 2 (by kernel_rfl) rfl rfl (.no rfl) pk sH rfl (VR.ofV (V_fieldAddrN (B := ⟨b21, 0, none⟩) (m := 0) (o := 0) Try.underlying49 rfl nz9 rfl rfl)) ?_
              refine DH_take 3 (by kernel_rfl) rfl rfl (.no rfl) pk sH rfl (VR_load_blk (b := b21) (m := 0) (k := 1) Try.underlying9 rfl rfl rfl rfl) ?_
              refine DH_take (v := .pointer (some ((⟨b30, 0, none⟩ : Addr).add 4))) 4 (by kernel_rfl) rfl rfl (.no rfl) pk sH rfl (VR.ofV (V_fieldAddrN (B := ⟨b30, 0, none⟩) (m := 0) (o := 4) Try.underlying46 rfl nz9 rfl rfl)) ?_
              refine DH_take 5 (by kernel_rfl) rfl rfl (.no rfl) pk sH rfl (VR_load_blk (b := b30) (m := 4) (k := 2) Try.underlying9 rfl rfl rfl rfl) ?_
              obtain ⟨g409, H⟩ := g_pos H
              refine DH_take (v := .string (x6_16.f0 ++ ((rd l1 x8_16).f4))) 6 (by kernel_rfl) rfl rfl (.no rfl) pk sH rfl (VR.ofV (V_addS rfl rfl g409)) ?_
              obtain ⟨n469, hn469, H⟩ := g_lt H
              refine DH_take (v := .string n469) 7 (by kernel_rfl) rfl rfl (.no rfl) pk sH rfl (VR.ofV (V_assign (v := .string n469) (congrArg (Value.string) hn469.symm))) ?_
              refine DH_open dd sH ?_
              refine DN_done (by kernel_rfl) ?_
              have hr_ := Option.some.inj H
              subst hr_
              exact at_normal (St.mk1 (aeq rfl (aeq rfl (aeq rfl (aeq rfl (aeq rfl (aeq rfl aeq0)))))) (Gh.sel [0, 4, 5, 1, 6] rfl rfl))
            replace H := g_iff h48 H
            refine SA_condF rfl h48 ?_
            refine SA_skip ?_
            have hr_ := Option.some.inj H
            subst hr_
            exact at_normal (St.mk1 (aeq rfl (aeq rfl (aeq rfl (aeq rfl (aeq rfl (aeq rfl aeq0)))))) (Gh.sel [0, 1, 2, 3, 4] rfl rfl))
          rintro e ds As hst530
          clear H
          have H := Bt47
          clear Bt47
          refine at_normal ?_
          refine SA.of_St hst530 fun junk => ?_
          refine SA_seq ?_
          refine SA_seq ?_
          refine SA.fact (cap_of (k := 2) rfl) fun hc531 => ?_
          refine SA.fact (cap_of (k := 4) rfl) fun hc532 => ?_
          refine SA_region ?_
          refine RA_step rfl (OA_v (v := .pointer (some ⟨b17, 0, none⟩)) rfl (V_move rfl) ?_)
          refine RA_step rfl (OA_v (v := .string t47) rfl (V_move rfl) ?_)
          refine RA_step rfl (OA_v (v := .agg #[.string t47]) rfl (V_build (cells := [.string t47]) zero41 Try.underlying41 plc41 (by kernel_rfl)) ?_)
          obtain ⟨r533, C538, H⟩ := g_bind H
          refine RA_step rfl (OA_callA [1, 2] [0, 3, 4] rfl (X_fn (vs := [.pointer (some ⟨b17, 0, none⟩), .agg #[.string t47]]) Try.func22 nm22 rfl rfl) rfl (F22b0.ok (b0_ := b17) (A0_0 := A18) (c0_0 := c19) (p0 := x5_16) (a1 := (S41.mk t47)) C538) rfl ?_)
          rintro _ _ ⟨A534, c535, rfl, rfl⟩
          refine RA_step rfl (OA_v (v := .bool (decide (r533.1 ≠ 0))) rfl (V_neq rfl rfl) ?_)
          refine RA_nil ?_
          refine at_normal ?_
          by_cases h537 : r533.1 ≠ 0
          · replace H := g_ift h537 H
            refine SA_condT rfl h537 ?_
            refine SA_seq ?_
            refine SA_region ?_
            refine RA_step rfl (OA_v (v := .bool false) rfl (V_assign rfl) ?_)
            refine RA_nil ?_
            refine at_normal ?_
            refine SA_ret ?_
            refine thn_ret ?_
            refine inb_ret ?_
            refine thn_ret ?_
            refine thn_ret ?_
            refine inb_ret ?_
            refine thn_ret ?_
            refine thn_ret ?_
            refine inb_ret ?_
            refine thn_ret ?_
            refine thn_ret ?_
            have hr_ := Option.some.inj H
            subst hr_
            have hb_ := el_ret Bt32
            have hr_ := Option.some.inj hb_
            clear hb_
            subst hr_
            have hb_ := el_ret Bt15
            have hr_ := Option.some.inj hb_
            clear hb_
            subst hr_
            exact BQ_R1 [] rfl rfl (Gh.sel [] rfl rfl) ⟨rfl, rfl⟩
          replace H := g_iff h537 H
          refine SA_condF rfl h537 ?_
          refine SA_skip ?_
          refine at_normal ?_
          refine SA_region ?_
          refine RA_step rfl (OA_v (v := .pointer (some ⟨b21, 0, none⟩)) rfl (V_move rfl) ?_)
          refine RA_step rfl (OA_v (v := .string t47) rfl (V_move rfl) ?_)
          refine RA_step rfl (OA_v (v := .pointer (some ⟨b21, 0, none⟩)) rfl (V_nilCheck rfl) ?_)
          refine RA_step rfl (OA_v (v := .pointer (some ⟨b21, 0, none⟩)) rfl (V_fieldAddrN (B := ⟨b21, 0, none⟩) (m := 0) (o := 0) Try.underlying49 rfl nz9 rfl rfl) ?_)
          refine RA_step rfl (OA_st (b := b21) (m := 0) (k := 3) (vs := [.string t47]) (cs' := [.string t47, .slice A22 x6_16.f1.length c23, .bool x6_16.f2, .int .u64 x6_16.f3, .int .u64 x6_16.f4]) rfl rfl rfl rfl rfl rfl sz9 rfl rfl ?_)
          refine RA_nil ?_
          refine inb_normal ?_
          have hr_ := Option.some.inj H
          subst hr_
          exact at_normal ⟨(r533.2, (S49.mk t47 x6_16.f1 x6_16.f2 x6_16.f3 x6_16.f4), x7_16), rfl, b17, A534, c535, b21, A22, c23, St.mk1 (aeq rfl (aeq rfl (aeq rfl (aeq rfl (aeq rfl aeq0))))) (Gh.sel [0, 1, 3, 4, 2] rfl rfl)⟩
        replace H := g_iff h45 H
        refine SA_condFb rfl h45 ?_
        refine SA_seq ?_
        refine SA_region ?_
        refine RA_step rfl (OA_v (v := .bool (decide (((rd l1 x8_16).f0) = 1))) rfl (V_eql rfl rfl) ?_)
        refine RA_step rfl (OA_v (v := .bool (decide (((rd l1 x8_16).f0) = 1))) rfl (V_assign rfl) ?_)
        refine RA_nil ?_
        refine at_normal ?_
        by_cases h539 : ((rd l1 x8_16).f0) = 1
        · replace H := g_ift h539 H
          refine SA_condT rfl h539 ?_
          refine SA_seq ?_
          refine SA.fact (cap_of (k := 2) rfl) fun hc540 => ?_
          refine SA.fact (cap_of (k := 4) rfl) fun hc541 => ?_
          refine SA_drawHq [0, 1, 2, 4, 5, 6, 8] #[[], [], [1], [0, 1, 2], [], [], [5], [0, 1, 2, 4, 5, 6], [0, 1, 2, 4, 5, 6]] [0, 5] [0, 1, 2, 3, 4] mixed rfl rfl rfl (PanOk.thn (PanOk.inb (PanOk.thn (PanOk.thn (PanOk.inb (PanOk.thn (PanOk.thn (PanOk.inb (PanOk.thn (PanOk.thn PanOk.body)))))))))) fun I0 hS h0 hh0 w0 sH dd pk => ?_
          refine DH_take (v := .pointer (some ⟨b17, 0, none⟩)) 0 (by kernel_rfl) rfl rfl (.no rfl) pk sH rfl (VR.ofV (V_move rfl)) ?_
          refine DH_take (v := .pointer (some ((⟨b30, 0, none⟩ : Addr).add 1))) 1 (by kernel_rfl) rfl rfl (.no rfl) pk sH rfl (VR.ofV (V_fieldAddrN (B := ⟨b30, 0, none⟩) (m := 0) (o := 1) Try.underlying46 rfl nz44 rfl rfl)) ?_
          refine DH_take 2 (by kernel_rfl) rfl rfl (.no rfl) pk sH rfl (VR_load_blk (b := b30) (m := 1) (k := 1) Try.underlying44 rfl rfl rfl rfl) ?_
          refine DH_take (v := .pointer (some ⟨b21, 0, none⟩)) 4 (by kernel_rfl) rfl rfl (.no rfl) pk sH rfl (VR.ofV (V_move rfl)) ?_
          refine DH_take (v := .pointer (some ((⟨b30, 0, none⟩ : Addr).add 1))) 5 (by kernel_rfl) rfl rfl (.no rfl) pk sH rfl (VR.ofV (V_fieldAddrN (B := ⟨b30, 0, none⟩) (m := 0) (o := 1) Try.underlying46 rfl nz44 rfl rfl)) ?_
          refine DH_take 6 (by kernel_rfl) rfl rfl (.no rfl) pk sH rfl (VR_load_blk (b := b30) (m := 1) (k := 1) Try.underlying44 rfl rfl rfl rfl) ?_
          obtain ⟨r722, C726, H⟩ := g_bind H
          refine DH_one 3 dd (by kernel_rfl) rfl (.no rfl) (OA_callA [1, 2] [0, 3, 4] rfl (X_fn (vs := [.pointer (some ⟨b17, 0, none⟩), .int .u64 ((rd l1 x8_16).f1)]) Try.func23 nm23 rfl rfl) rfl (F23b0.ok (b0_ := b17) (A0_0 := A18) (c0_0 := c19) (p0 := x5_16) (a1 := (rd l1 x8_16).f1) C726) rfl ?_)
          rintro _ _ ⟨A723, c724, rfl, rfl⟩
          obtain ⟨r962, C966, H⟩ := g_bind H
          refine DH_one 7 dd (by kernel_rfl) rfl (.no rfl) (OA_callA [3, 4] [0, 1, 2] rfl (X_fn (vs := [.pointer (some ⟨b21, 0, none⟩), .int .u64 ((rd l1 x8_16).f1)]) Try.func24 nm24 rfl rfl) rfl (F24b0.ok (b0_ := b21) (A0_0 := A22) (c0_0 := c23) (p0 := x6_16) (a1 := (rd l1 x8_16).f1) C966) rfl ?_)
          rintro _ _ ⟨A963, c964, rfl, rfl⟩
          refine DH_take (v := .bool (decide (r722.1 ≠ r962.1))) 8 (by kernel_rfl) rfl rfl (.no rfl) pk sH rfl (VR.ofV (V_neq rfl rfl)) ?_
          refine DH_open dd sH ?_
          refine DN_done (by kernel_rfl) ?_
          refine at_normal ?_
          by_cases h1083 : r722.1 ≠ r962.1
          · replace H := g_ift h1083 H
            refine SA_condT rfl h1083 ?_
            refine SA_seq ?_
            refine SA_region ?_
            refine RA_step rfl (OA_v (v := .bool false) rfl (V_assign rfl) ?_)
            refine RA_nil ?_
            refine at_normal ?_
            refine SA_ret ?_
            refine inb_ret ?_
            refine thn_ret ?_
            refine thn_ret ?_
            refine inb_ret ?_
            refine thn_ret ?_
            refine thn_ret ?_
            refine inb_ret ?_
            refine thn_ret ?_
            refine thn_ret ?_
            have hr_ := Option.some.inj H
            subst hr_
            have hb_ := el_ret Bt32
            have hr_ := Option.some.inj hb_
            clear hb_
            subst hr_
            have hb_ := el_ret Bt15
            have hr_ := Option.some.inj hb_
            clear hb_
            subst hr_
            exact BQ_R1 [] rfl rfl (Gh.sel [] rfl rfl) ⟨rfl, rfl⟩
          replace H := g_iff h1083 H
          refine SA_condF rfl h1083 ?_
          refine SA_skip ?_
          refine inb_normal ?_
          have hr_ := Option.some.inj H
          subst hr_
          exact at_normal ⟨(r722.2, r962.2, x7_16), rfl, b17, A723, c724, b21, A963, c964, St.mk1 (aeq rfl (aeq rfl (aeq rfl (aeq rfl (aeq rfl aeq0))))) (Gh.sel [4, 5, 2, 3, 0] rfl rfl)⟩
        replace H := g_iff h539 H
        refine SA_condF rfl h539 ?_
        refine SA_seq ?_
        refine SA_region ?_
        refine RA_step rfl (OA_v (v := .bool (decide (((rd l1 x8_16).f0) = 2))) rfl (V_eql rfl rfl) ?_)
        refine RA_step rfl (OA_v (v := .bool (decide (((rd l1 x8_16).f0) = 2))) rfl (V_assign rfl) ?_)
        refine RA_nil ?_
        refine at_normal ?_
        by_cases h1084 : ((rd l1 x8_16).f0) = 2
        · replace H := g_ift h1084 H
          refine SA_condT rfl h1084 ?_
          refine SA_seq ?_
          refine SA_seq ?_
          refine SA_region ?_
          refine RA_step rfl (OA_v (v := .int .u64 x7_16) rfl (V_move rfl) ?_)
          refine RA_step rfl (OA_v (v := .pointer (some ((⟨b30, 0, none⟩ : Addr).add 1))) rfl (V_fieldAddrN (B := ⟨b30, 0, none⟩) (m := 0) (o := 1) Try.underlying46 rfl nz44 rfl rfl) ?_)
          refine RA_step rfl (OA_r rfl (VR_load_blk (b := b30) (m := 1) (k := 5) Try.underlying44 rfl rfl rfl rfl) ?_)
          refine RA_step rfl (OA_v (v := .int .u64 (IntKind.u64.wrap (x7_16 + ((rd l1 x8_16).f1)))) rfl (V_add rfl rfl) ?_)
          refine RA_step rfl (OA_v (v := .int .u64 x7_16) rfl (V_move rfl) ?_)
          refine RA_step rfl (OA_v (v := .bool (decide ((IntKind.u64.wrap (x7_16 + ((rd l1 x8_16).f1))) ≥ x7_16))) rfl (V_geq rfl rfl) ?_)
          refine RA_nil ?_
          refine at_normal ?_
          obtain ⟨t1085, H, Bt1085⟩ := g_bind H
          refine SA_mid (fun e ds As => St [(1, .slice A1 l1.length c1), (5, .pointer (some ⟨b17, 0, none⟩)), (6, .pointer (some ⟨b21, 0, none⟩)), (7, .int .u64 t1085), (8, .int .i64 x8_16), (9, .pointer (some ⟨b30, 0, none⟩))] [Ro k46 A1 c1 l1, Blk b17 131 [.slice A18 x5_16.f0.length c19, .string x5_16.f1.f0, .int .u64 x5_16.f2, .bool x5_16.f3, .int .u64 x5_16.f4], Buf k128 128 A18 c19 x5_16.f0, Blk b21 49 [.string x6_16.f0, .slice A22 x6_16.f1.length c23, .bool x6_16.f2, .int .u64 x6_16.f3, .int .u64 x6_16.f4], Buf k63 63 A22 c23 x6_16.f1, Blk b30 46 [.int .u8 ((rd l1 x8_16).f0), .int .u64 ((rd l1 x8_16).f1), .int .i64 ((rd l1 x8_16).f2), .int .i64 ((rd l1 x8_16).f3), .string ((rd l1 x8_16).f4)]] e ds As) ?_ ?_
          · by_cases h1086 : (IntKind.u64.wrap (x7_16 + ((rd l1 x8_16).f1))) ≥ x7_16
            · replace H := g_ift h1086 H
              refine SA_condT rfl h1086 ?_
              refine SA_region ?_
              refine RA_step rfl (OA_v (v := .int .u64 x7_16) rfl (V_move rfl) ?_)
              refine RA_step rfl (OA_v (v := .pointer (some ((⟨b30, 0, none⟩ : Addr).add 1))) rfl (V_fieldAddrN (B := ⟨b30, 0, none⟩) (m := 0) (o := 1) Try.underlying46 rfl nz44 rfl rfl) ?_)
              refine RA_step rfl (OA_r rfl (VR_load_blk (b := b30) (m := 1) (k := 5) Try.underlying44 rfl rfl rfl rfl) ?_)
              refine RA_step rfl (OA_v (v := .int .u64 (IntKind.u64.wrap (x7_16 + ((rd l1 x8_16).f1)))) rfl (V_add rfl rfl) ?_)
              obtain ⟨n1087, hn1087, H⟩ := g_lt H
              refine RA_step rfl (OA_v (v := .int .u64 n1087) rfl (V_assign (v := .int .u64 n1087) (congrArg (Value.int .u64) hn1087.symm)) ?_)
              refine RA_nil ?_
              have hr_ := Option.some.inj H
              subst hr_
              exact at_normal (St.mk1 (aeq rfl (aeq rfl (aeq rfl (aeq rfl (aeq rfl (aeq rfl aeq0)))))) (Gh.sel [0, 1, 2, 3, 4, 5] rfl rfl))
            replace H := g_iff h1086 H
            refine SA_condF rfl h1086 ?_
            refine SA_skip ?_
            have hr_ := Option.some.inj H
            subst hr_
            exact at_normal (St.mk1 (aeq rfl (aeq rfl (aeq rfl (aeq rfl (aeq rfl (aeq rfl aeq0)))))) (Gh.sel [0, 1, 2, 3, 4, 5] rfl rfl))
          rintro e ds As hst1088
          clear H
          have H := Bt1085
          clear Bt1085
          refine at_normal ?_
          refine SA.of_St hst1088 fun junk => ?_
          refine SA_seq ?_
          refine SA_region ?_
          refine RA_step rfl (OA_v (v := .int .u64 t1085) rfl (V_move rfl) ?_)
          refine RA_step rfl (OA_v (v := .int .u64 t1085) rfl (V_assign rfl) ?_)
          refine RA_nil ?_
          refine at_normal ?_
          refine SA_seq ?_
          refine SA_seq ?_
          refine SA_region ?_
          refine RA_step rfl (OA_v (v := .pointer (some ((⟨b30, 0, none⟩ : Addr).add 2))) rfl (V_fieldAddrN (B := ⟨b30, 0, none⟩) (m := 0) (o := 2) Try.underlying46 rfl nz3 rfl rfl) ?_)
          refine RA_step rfl (OA_r rfl (VR_load_blk (b := b30) (m := 2) (k := 5) Try.underlying3 rfl rfl rfl rfl) ?_)
          refine RA_step rfl (OA_v (v := .bool (decide (((rd l1 x8_16).f2) = (-7)))) rfl (V_eql rfl rfl) ?_)
          refine RA_nil ?_
          refine at_normal ?_
          obtain ⟨t1089, H, Bt1089⟩ := g_bind H
          refine SA_mid (fun e ds As => St [(1, .slice A1 l1.length c1), (5, .pointer (some ⟨b17, 0, none⟩)), (6, .pointer (some ⟨b21, 0, none⟩)), (7, .int .u64 t1085), (8, .int .i64 x8_16), (9, .pointer (some ⟨b30, 0, none⟩)), (11, .int .u64 t1089)] [Ro k46 A1 c1 l1, Blk b17 131 [.slice A18 x5_16.f0.length c19, .string x5_16.f1.f0, .int .u64 x5_16.f2, .bool x5_16.f3, .int .u64 x5_16.f4], Buf k128 128 A18 c19 x5_16.f0, Blk b21 49 [.string x6_16.f0, .slice A22 x6_16.f1.length c23, .bool x6_16.f2, .int .u64 x6_16.f3, .int .u64 x6_16.f4], Buf k63 63 A22 c23 x6_16.f1, Blk b30 46 [.int .u8 ((rd l1 x8_16).f0), .int .u64 ((rd l1 x8_16).f1), .int .i64 ((rd l1 x8_16).f2), .int .i64 ((rd l1 x8_16).f3), .string ((rd l1 x8_16).f4)]] e ds As) ?_ ?_
          · by_cases h1090 : ((rd l1 x8_16).f2) = (-7)
            · replace H := g_ift h1090 H
              refine SA_condT rfl h1090 ?_
              refine SA_region ?_
              refine RA_step rfl (OA_v (v := .pointer (some ((⟨b30, 0, none⟩ : Addr).add 1))) rfl (V_fieldAddrN (B := ⟨b30, 0, none⟩) (m := 0) (o := 1) Try.underlying46 rfl nz44 rfl rfl) ?_)
              refine RA_step rfl (OA_r rfl (VR_load_blk (b := b30) (m := 1) (k := 5) Try.underlying44 rfl rfl rfl rfl) ?_)
              obtain ⟨n1091, hn1091, H⟩ := g_lt H
              refine RA_step rfl (OA_v (v := .int .u64 n1091) rfl (V_assign (v := .int .u64 n1091) (congrArg (Value.int .u64) hn1091.symm)) ?_)
              refine RA_nil ?_
              have hr_ := Option.some.inj H
              subst hr_
              exact at_normal (St.mk1 (aeq rfl (aeq rfl (aeq rfl (aeq rfl (aeq rfl (aeq rfl (aeq rfl aeq0))))))) (Gh.sel [0, 1, 2, 3, 4, 5] rfl rfl))
            replace H := g_iff h1090 H
            refine SA_condF rfl h1090 ?_
            refine SA_skip ?_
            have hr_ := Option.some.inj H
            subst hr_
            exact at_normal (St.mk1 (aeq rfl (aeq rfl (aeq rfl (aeq rfl (aeq rfl (aeq rfl (aeq rfl aeq0))))))) (Gh.sel [0, 1, 2, 3, 4, 5] rfl rfl))
          rintro e ds As hst1092
          clear H
          have H := Bt1089
          clear Bt1089
          refine at_normal ?_
          refine SA.of_St hst1092 fun junk => ?_
          refine SA_seq ?_
          refine SA.fact (cap_of (k := 2) rfl) fun hc1093 => ?_
          refine SA.fact (cap_of (k := 4) rfl) fun hc1094 => ?_
          refine SA_region ?_
          refine RA_step rfl (OA_v (v := .pointer (some ⟨b17, 0, none⟩)) rfl (V_move rfl) ?_)
          refine RA_step rfl (OA_v (v := .int .u64 t1089) rfl (V_move rfl) ?_)
          refine RA_step rfl (OA_v (v := .pointer (some ((⟨b30, 0, none⟩ : Addr).add 2))) rfl (V_fieldAddrN (B := ⟨b30, 0, none⟩) (m := 0) (o := 2) Try.underlying46 rfl nz3 rfl rfl) ?_)
          refine RA_step rfl (OA_r rfl (VR_load_blk (b := b30) (m := 2) (k := 5) Try.underlying3 rfl rfl rfl rfl) ?_)
          refine RA_step rfl (OA_v (v := .pointer (some ((⟨b30, 0, none⟩ : Addr).add 3))) rfl (V_fieldAddrN (B := ⟨b30, 0, none⟩) (m := 0) (o := 3) Try.underlying46 rfl nz3 rfl rfl) ?_)
          refine RA_step rfl (OA_r rfl (VR_load_blk (b := b30) (m := 3) (k := 5) Try.underlying3 rfl rfl rfl rfl) ?_)
          obtain ⟨r1095, C1127, H⟩ := g_bind H
          refine RA_step rfl (OA_callA [1, 2] [0, 3, 4, 5] rfl (X_fn (vs := [.pointer (some ⟨b17, 0, none⟩), .int .u64 t1089, .int .i64 ((rd l1 x8_16).f2), .int .i64 ((rd l1 x8_16).f3)]) Try.func25 nm25 rfl rfl) rfl (F25b0.ok (b0_ := b17) (A0_0 := A18) (c0_0 := c19) (p0 := x5_16) (a1 := t1089) (a2 := (rd l1 x8_16).f2) (a3 := (rd l1 x8_16).f3) C1127) rfl ?_)
          rintro _ _ ⟨A1096, c1097, A1099, c1100, rfl, rfl⟩
          refine RA_step rfl (OA_v (v := .tuple #[.agg #[.int .u64 r1095.1.f0, .int .u64 r1095.1.f1, .int .u64 r1095.1.f2, .int .u64 r1095.1.f3, .slice A1096 r1095.1.f4.length c1097], .bool r1095.2.1, .int .i64 r1095.2.2.1]) rfl (V_move rfl) ?_)
          refine RA_step rfl (OA_v (v := .agg #[.int .u64 r1095.1.f0, .int .u64 r1095.1.f1, .int .u64 r1095.1.f2, .int .u64 r1095.1.f3, .slice A1096 r1095.1.f4.length c1097]) rfl (V_extract rfl rfl) ?_)
          refine RA_step rfl (OA_v (v := .bool r1095.2.1) rfl (V_extract rfl rfl) ?_)
          refine RA_step rfl (OA_v (v := .int .i64 r1095.2.2.1) rfl (V_extract rfl rfl) ?_)
          refine RA_step rfl (OA_alloc rfl zero54 fun b1102 => ?_)
          refine RA_step rfl (OA_st (b := b1102) (m := 0) (k := 7) (vs := [.int .u64 r1095.1.f0, .int .u64 r1095.1.f1, .int .u64 r1095.1.f2, .int .u64 r1095.1.f3, .slice A1096 r1095.1.f4.length c1097]) (cs' := [.int .u64 r1095.1.f0, .int .u64 r1095.1.f1, .int .u64 r1095.1.f2, .int .u64 r1095.1.f3, .slice A1096 r1095.1.f4.length c1097]) rfl rfl rfl rfl rfl rfl sz54 rfl rfl ?_)
          refine RA_step rfl (OA_v (v := .bool r1095.2.1) rfl (V_assign rfl) ?_)
          refine RA_step rfl (OA_v (v := .int .i64 r1095.2.2.1) rfl (V_assign rfl) ?_)
          refine RA_nil ?_
          refine at_normal ?_
          refine SA_seq ?_
          refine SA.fact (cap_of (k := 0) rfl) fun hc1104 => ?_
          refine SA.fact (cap_of (k := 2) rfl) fun hc1105 => ?_
          refine SA_region ?_
          refine RA_step rfl (OA_v (v := .pointer (some ⟨b21, 0, none⟩)) rfl (V_move rfl) ?_)
          refine RA_step rfl (OA_v (v := .int .u64 t1089) rfl (V_move rfl) ?_)
          refine RA_step rfl (OA_v (v := .pointer (some ((⟨b30, 0, none⟩ : Addr).add 2))) rfl (V_fieldAddrN (B := ⟨b30, 0, none⟩) (m := 0) (o := 2) Try.underlying46 rfl nz3 rfl rfl) ?_)
          refine RA_step rfl (OA_r rfl (VR_load_blk (b := b30) (m := 2) (k := 6) Try.underlying3 rfl rfl rfl rfl) ?_)
          refine RA_step rfl (OA_v (v := .pointer (some ((⟨b30, 0, none⟩ : Addr).add 3))) rfl (V_fieldAddrN (B := ⟨b30, 0, none⟩) (m := 0) (o := 3) Try.underlying46 rfl nz3 rfl rfl) ?_)
          refine RA_step rfl (OA_r rfl (VR_load_blk (b := b30) (m := 3) (k := 6) Try.underlying3 rfl rfl rfl rfl) ?_)
          obtain ⟨r1106, C1126, H⟩ := g_bind H
          refine RA_step rfl (OA_callA [4, 5] [0, 1, 2, 3, 6, 7] rfl (X_fn (vs := [.pointer (some ⟨b21, 0, none⟩), .int .u64 t1089, .int .i64 ((rd l1 x8_16).f2), .int .i64 ((rd l1 x8_16).f3)]) Try.func26 nm26 rfl rfl) rfl (F26b0.ok (b0_ := b21) (A0_0 := A22) (c0_0 := c23) (p0 := x6_16) (a1 := t1089) (a2 := (rd l1 x8_16).f2) (a3 := (rd l1 x8_16).f3) C1126) rfl ?_)
          rintro _ _ ⟨A1107, c1108, A1110, c1111, rfl, rfl⟩
          refine RA_step rfl (OA_v (v := .tuple #[.agg #[.int .u64 r1106.1.f0, .int .u64 r1106.1.f1, .int .u64 r1106.1.f2, .int .u64 r1106.1.f3, .slice A1107 r1106.1.f4.length c1108], .bool r1106.2.1, .int .i64 r1106.2.2.1]) rfl (V_move rfl) ?_)
          refine RA_step rfl (OA_v (v := .agg #[.int .u64 r1106.1.f0, .int .u64 r1106.1.f1, .int .u64 r1106.1.f2, .int .u64 r1106.1.f3, .slice A1107 r1106.1.f4.length c1108]) rfl (V_extract rfl rfl) ?_)
          refine RA_step rfl (OA_v (v := .bool r1106.2.1) rfl (V_extract rfl rfl) ?_)
          refine RA_step rfl (OA_v (v := .int .i64 r1106.2.2.1) rfl (V_extract rfl rfl) ?_)
          refine RA_step rfl (OA_alloc rfl zero54 fun b1113 => ?_)
          refine RA_step rfl (OA_st (b := b1113) (m := 0) (k := 9) (vs := [.int .u64 r1106.1.f0, .int .u64 r1106.1.f1, .int .u64 r1106.1.f2, .int .u64 r1106.1.f3, .slice A1107 r1106.1.f4.length c1108]) (cs' := [.int .u64 r1106.1.f0, .int .u64 r1106.1.f1, .int .u64 r1106.1.f2, .int .u64 r1106.1.f3, .slice A1107 r1106.1.f4.length c1108]) rfl rfl rfl rfl rfl rfl sz54 rfl rfl ?_)
          refine RA_step rfl (OA_v (v := .bool r1106.2.1) rfl (V_assign rfl) ?_)
          refine RA_step rfl (OA_v (v := .int .i64 r1106.2.2.1) rfl (V_assign rfl) ?_)
          refine RA_nil ?_
          refine at_normal ?_
          refine SA.of_St (l := [(1, .slice A1 l1.length c1), (5, .pointer (some ⟨b17, 0, none⟩)), (6, .pointer (some ⟨b21, 0, none⟩)), (7, .int .u64 t1085), (8, .int .i64 x8_16), (12, .pointer (some ⟨b1102, 0, none⟩)), (13, .bool r1095.2.1), (14, .int .i64 r1095.2.2.1), (15, .pointer (some ⟨b1113, 0, none⟩)), (16, .bool r1106.2.1), (17, .int .i64 r1106.2.2.1)]) (B := [Ro k46 A1 c1 l1, Blk b17 131 [.slice A1099 r1095.2.2.2.f0.length c1100, .string r1095.2.2.2.f1.f0, .int .u64 r1095.2.2.2.f2, .bool r1095.2.2.2.f3, .int .u64 r1095.2.2.2.f4], Buf k128 128 A1099 c1100 r1095.2.2.2.f0, Blk b21 49 [.string r1106.2.2.2.f0, .slice A1110 r1106.2.2.2.f1.length c1111, .bool r1106.2.2.2.f2, .int .u64 r1106.2.2.2.f3, .int .u64 r1106.2.2.2.f4], Buf k63 63 A1110 c1111 r1106.2.2.2.f1, Blk b1102 54 [.int .u64 r1095.1.f0, .int .u64 r1095.1.f1, .int .u64 r1095.1.f2, .int .u64 r1095.1.f3, .slice A1096 r1095.1.f4.length c1097], Buf (Kd.int .u8) 5 A1096 c1097 r1095.1.f4, Blk b1113 54 [.int .u64 r1106.1.f0, .int .u64 r1106.1.f1, .int .u64 r1106.1.f2, .int .u64 r1106.1.f3, .slice A1107 r1106.1.f4.length c1108], Buf (Kd.int .u8) 5 A1107 c1108 r1106.1.f4]) (St.mk1 (aeq rfl (aeq rfl (aeq rfl (aeq rfl (aeq rfl (aeq rfl (aeq rfl (aeq rfl (aeq rfl (aeq rfl (aeq rfl aeq0))))))))))) (Gh.sel [6, 4, 5, 1, 2, 8, 3, 9, 0] (by kernel_rfl) (by kernel_rfl))) fun junk => ?_
          refine SA_seq ?_
          refine SA.fact (cap_of (k := 4) rfl) fun hc1115 => ?_
          refine SA.fact (cap_of (k := 8) rfl) fun hc1116 => ?_
          refine SA_region ?_
          refine RA_step rfl (OA_r rfl (VR_loadA_blk (b := b1102) (m := 0) (k := 5) (vs := [.int .u64 r1095.1.f0, .int .u64 r1095.1.f1, .int .u64 r1095.1.f2, .int .u64 r1095.1.f3, .slice A1096 r1095.1.f4.length c1097]) Try.underlying54 rfl sz54 rfl rfl rfl) ?_)
          refine RA_step rfl (OA_r rfl (VR_loadA_blk (b := b1113) (m := 0) (k := 7) (vs := [.int .u64 r1106.1.f0, .int .u64 r1106.1.f1, .int .u64 r1106.1.f2, .int .u64 r1106.1.f3, .slice A1107 r1106.1.f4.length c1108]) Try.underlying54 rfl sz54 rfl rfl rfl) ?_)
          obtain ⟨r1117, C1125, H⟩ := g_bind H
          refine RA_step rfl (OA_callA [6, 8] [0, 1, 2, 3, 4, 5, 7] rfl (X_fn (vs := [.agg #[.int .u64 r1095.1.f0, .int .u64 r1095.1.f1, .int .u64 r1095.1.f2, .int .u64 r1095.1.f3, .slice A1096 r1095.1.f4.length c1097], .agg #[.int .u64 r1106.1.f0, .int .u64 r1106.1.f1, .int .u64 r1106.1.f2, .int .u64 r1106.1.f3, .slice A1107 r1106.1.f4.length c1108]]) Try.func27 nm27 rfl rfl) rfl (F27b0b1.ok (a0 := r1095.1) (A0_0 := A1096) (c0_0 := c1097) (a1 := r1106.1) (A1_0 := A1107) (c1_0 := c1108) C1125) rfl ?_)
          rintro _ _ ⟨rfl, rfl⟩
          refine RA_step rfl (OA_v (v := .bool (!r1117)) rfl (V_not rfl) ?_)
          refine RA_step rfl (OA_v (v := .bool (!r1117)) rfl (V_move rfl) ?_)
          obtain ⟨q1118, hq1118, H⟩ := g_lt H
          refine RA_cut 4 (fun e ds As => St [(1, .slice A1 l1.length c1), (5, .pointer (some ⟨b17, 0, none⟩)), (6, .pointer (some ⟨b21, 0, none⟩)), (7, .int .u64 t1085), (8, .int .i64 x8_16), (14, .int .i64 r1095.2.2.1), (17, .int .i64 r1106.2.2.1), (123, .bool q1118)] [Ro k46 A1 c1 l1, Blk b17 131 [.slice A1099 r1095.2.2.2.f0.length c1100, .string r1095.2.2.2.f1.f0, .int .u64 r1095.2.2.2.f2, .bool r1095.2.2.2.f3, .int .u64 r1095.2.2.2.f4], Buf k128 128 A1099 c1100 r1095.2.2.2.f0, Blk b21 49 [.string r1106.2.2.2.f0, .slice A1110 r1106.2.2.2.f1.length c1111, .bool r1106.2.2.2.f2, .int .u64 r1106.2.2.2.f3, .int .u64 r1106.2.2.2.f4], Buf k63 63 A1110 c1111 r1106.2.2.2.f1] e ds As) ?_ ?_
          · by_cases h1119 : (!r1117) = true
            · refine RA_noB rfl rfl rfl rfl (h1119) rfl ?_
              refine RA_noB rfl rfl rfl rfl (h1119) rfl ?_
              refine RA_noB rfl rfl rfl rfl (h1119) rfl ?_
              refine RA_step rfl (OA_v rfl (V_pickT rfl (h1119) rfl) ?_)
              refine RA_nil ?_
              exact at_normal (St.mk1 (aeq rfl (aeq rfl (aeq rfl (aeq rfl (aeq rfl (aeq rfl (aeq rfl (aeq (congrArg Value.bool (or_t hq1118 (h1119))) aeq0)))))))) (Gh.sel [2, 3, 4, 5, 6] rfl rfl))
            refine RA_yesB rfl rfl rfl rfl (bno h1119) (OA_v (v := .bool r1095.2.1) rfl (V_move rfl) ?_)
            refine RA_yesB rfl rfl rfl rfl (bno h1119) (OA_v (v := .bool r1106.2.1) rfl (V_move rfl) ?_)
            refine RA_yesB rfl rfl rfl rfl (bno h1119) (OA_v (v := .bool (decide (r1095.2.1 ≠ r1106.2.1))) rfl (V_neqB Try.underlying4 rfl rfl) ?_)
            refine RA_step rfl (OA_v rfl (V_pickF rfl (bno h1119) rfl) ?_)
            refine RA_nil ?_
            exact at_normal (St.mk1 (aeq rfl (aeq rfl (aeq rfl (aeq rfl (aeq rfl (aeq rfl (aeq rfl (aeq (congrArg Value.bool (or_f hq1118 (bno h1119))) aeq0)))))))) (Gh.sel [2, 3, 4, 5, 6] rfl rfl))
          rintro e ds As hst1120
          refine RA.of_St rfl hst1120 fun junk => ?_
          refine RA_step rfl (OA_v (v := .bool q1118) rfl (V_move rfl) ?_)
          obtain ⟨q1121, hq1121, H⟩ := g_lt H
          refine RA_cut 4 (fun e ds As => St [(1, .slice A1 l1.length c1), (5, .pointer (some ⟨b17, 0, none⟩)), (6, .pointer (some ⟨b21, 0, none⟩)), (7, .int .u64 t1085), (8, .int .i64 x8_16), (128, .bool q1121)] [Ro k46 A1 c1 l1, Blk b17 131 [.slice A1099 r1095.2.2.2.f0.length c1100, .string r1095.2.2.2.f1.f0, .int .u64 r1095.2.2.2.f2, .bool r1095.2.2.2.f3, .int .u64 r1095.2.2.2.f4], Buf k128 128 A1099 c1100 r1095.2.2.2.f0, Blk b21 49 [.string r1106.2.2.2.f0, .slice A1110 r1106.2.2.2.f1.length c1111, .bool r1106.2.2.2.f2, .int .u64 r1106.2.2.2.f3, .int .u64 r1106.2.2.2.f4], Buf k63 63 A1110 c1111 r1106.2.2.2.f1] e ds As) ?_ ?_
          · by_cases h1122 : q1118 = true
            · refine RA_noB rfl rfl rfl rfl (h1122) rfl ?_
              refine RA_noB rfl rfl rfl rfl (h1122) rfl ?_
              refine RA_noB rfl rfl rfl rfl (h1122) rfl ?_
              refine RA_step rfl (OA_v rfl (V_pickT rfl (h1122) rfl) ?_)
              refine RA_nil ?_
              exact at_normal (St.mk1 (aeq rfl (aeq rfl (aeq rfl (aeq rfl (aeq rfl (aeq (congrArg Value.bool (or_t hq1121 (h1122))) aeq0)))))) (Gh.sel [0, 1, 2, 3, 4] rfl rfl))
            refine RA_yesB rfl rfl rfl rfl (bno h1122) (OA_v (v := .int .i64 r1095.2.2.1) rfl (V_move rfl) ?_)
            refine RA_yesB rfl rfl rfl rfl (bno h1122) (OA_v (v := .int .i64 r1106.2.2.1) rfl (V_move rfl) ?_)
            refine RA_yesB rfl rfl rfl rfl (bno h1122) (OA_v (v := .bool (decide (r1095.2.2.1 ≠ r1106.2.2.1))) rfl (V_neq rfl rfl) ?_)
            refine RA_step rfl (OA_v rfl (V_pickF rfl (bno h1122) rfl) ?_)
            refine RA_nil ?_
            exact at_normal (St.mk1 (aeq rfl (aeq rfl (aeq rfl (aeq rfl (aeq rfl (aeq (congrArg Value.bool (or_f hq1121 (bno h1122))) aeq0)))))) (Gh.sel [0, 1, 2, 3, 4] rfl rfl))
          rintro e ds As hst1123
          refine RA_nil ?_
          refine at_normal ?_
          refine SA.of_St hst1123 fun junk => ?_
          by_cases h1124 : q1121 = true
          · replace H := g_ift h1124 H
            refine SA_condTb rfl h1124 ?_
            refine SA_seq ?_
            refine SA_region ?_
            refine RA_step rfl (OA_v (v := .bool false) rfl (V_assign rfl) ?_)
            refine RA_nil ?_
            refine at_normal ?_
            refine SA_ret ?_
            refine inb_ret ?_
            refine thn_ret ?_
            refine thn_ret ?_
            refine inb_ret ?_
            refine thn_ret ?_
            refine thn_ret ?_
            refine inb_ret ?_
            refine thn_ret ?_
            refine thn_ret ?_
            have hr_ := Option.some.inj H
            subst hr_
            have hb_ := el_ret Bt32
            have hr_ := Option.some.inj hb_
            clear hb_
            subst hr_
            have hb_ := el_ret Bt15
            have hr_ := Option.some.inj hb_
            clear hb_
            subst hr_
            exact BQ_R1 [] rfl rfl (Gh.sel [] rfl rfl) ⟨rfl, rfl⟩
          replace H := g_iff h1124 H
          refine SA_condFb rfl h1124 ?_
          refine SA_skip ?_
          refine inb_normal ?_
          have hr_ := Option.some.inj H
          subst hr_
          exact at_normal ⟨(r1095.2.2.2, r1106.2.2.2, t1085), rfl, b17, A1099, c1100, b21, A1110, c1111, St.mk1 (aeq rfl (aeq rfl (aeq rfl (aeq rfl (aeq rfl aeq0))))) (Gh.sel [1, 2, 3, 4, 0] rfl rfl)⟩
        replace H := g_iff h1084 H
        refine SA_condF rfl h1084 ?_
        refine SA_skip ?_
        refine inb_normal ?_
        have hr_ := Option.some.inj H
        subst hr_
        exact at_normal ⟨(x5_16, x6_16, x7_16), rfl, b17, A18, c19, b21, A22, c23, St.mk1 (aeq rfl (aeq rfl (aeq rfl (aeq rfl (aeq rfl aeq0))))) (Gh.sel [1, 2, 3, 4, 0] rfl rfl)⟩
      rintro e ds As ⟨s33, ht, b34, A35, c36, b38, A39, c40, hst1128⟩
      clear H
      subst ht
      replace Bt32 := el_go Bt32
      have H := Bt32
      clear Bt32
      refine at_normal ?_
      refine SA.of_St hst1128 fun junk => ?_
      refine SA_seq ?_
      refine SA.fact (cap_of (k := 1) rfl) fun hc1129 => ?_
      refine SA.fact (cap_of (k := 3) rfl) fun hc1130 => ?_
      refine SA_region ?_
      refine RA_step rfl (OA_v (v := .pointer (some ⟨b34, 0, none⟩)) rfl (V_move rfl) ?_)
      obtain ⟨r1131, C3239, H⟩ := g_bind H
      refine RA_step rfl (OA_callA [0, 1] [2, 3, 4] rfl (X_fn (vs := [.pointer (some ⟨b34, 0, none⟩)]) Try.func28 nm28 rfl rfl) rfl (F28b0.ok (b0_ := b34) (A0_0 := A35) (c0_0 := c36) (p0 := s33.1) C3239) rfl ?_)
      rintro _ _ ⟨rfl, rfl⟩
      refine RA_step rfl (OA_v (v := .tuple #[.int .u64 r1131.1, .int .u64 r1131.2.1, .int .i64 r1131.2.2]) rfl (V_move rfl) ?_)
      refine RA_step rfl (OA_v (v := .int .u64 r1131.1) rfl (V_extract rfl rfl) ?_)
      refine RA_step rfl (OA_v (v := .int .u64 r1131.2.1) rfl (V_extract rfl rfl) ?_)
      refine RA_step rfl (OA_v (v := .int .i64 r1131.2.2) rfl (V_extract rfl rfl) ?_)
      refine RA_step rfl (OA_v (v := .int .u64 r1131.1) rfl (V_assign rfl) ?_)
      refine RA_step rfl (OA_v (v := .int .u64 r1131.2.1) rfl (V_assign rfl) ?_)
      refine RA_step rfl (OA_v (v := .int .i64 r1131.2.2) rfl (V_assign rfl) ?_)
      refine RA_nil ?_
      refine at_normal ?_
      refine SA_seq ?_
      obtain ⟨t1132, H, Bt1132⟩ := g_bind H
      refine SA_mid (fun e ds As => St [(1, .slice A1 l1.length c1), (5, .pointer (some ⟨b34, 0, none⟩)), (6, .pointer (some ⟨b38, 0, none⟩)), (7, .int .u64 s33.2.2), (8, .int .i64 x8_16), (169, .bool t1132)] [Ro k46 A1 c1 l1, Blk b34 131 [.slice A35 s33.1.f0.length c36, .string s33.1.f1.f0, .int .u64 s33.1.f2, .bool s33.1.f3, .int .u64 s33.1.f4], Buf k128 128 A35 c36 s33.1.f0, Blk b38 49 [.string s33.2.1.f0, .slice A39 s33.2.1.f1.length c40, .bool s33.2.1.f2, .int .u64 s33.2.1.f3, .int .u64 s33.2.1.f4], Buf k63 63 A39 c40 s33.2.1.f1] e ds As) ?_ ?_
      · refine SA_drawHq (0 :: 1 :: 2 :: 3 :: 4 :: 5 :: 6 :: 7 :: 8 :: 9 :: 10 :: 11 :: 12 :: 13 :: 14 :: 15 :: 16 :: 17 :: 18 :: 19 :: 20 :: 21 :: 22 :: 23 :: 24 :: 25 :: 26 :: 27 :: 28 :: 29 :: 30 :: 31 :: 32 :: 33 :: 34 :: []) (List.toArray ([] :: [] :: [1] :: [1, 2] :: [1, 2, 3] :: [1, 2, 3, 4] :: [1, 2, 3, 4, 5] :: [1, 2, 3, 4, 5, 6] :: [0, 1, 2, 3, 4, 5, 6, 7] :: [0, 1, 2, 3, 4, 5, 6, 7, 8] :: [0, 1, 2, 3, 4, 5, 6, 7, 8, 9] :: [0, 1, 2, 3, 4, 5, 6, 7, 8, 9] :: [0, 1, 2, 3, 4, 5, 6, 7, 8, 9, 11] :: [0, 1, 2, 3, 4, 5, 6, 7, 8, 9, 11, 12] :: (0 :: 1 :: 2 :: 3 :: 4 :: 5 :: 6 :: 7 :: 8 :: 9 :: 11 :: 12 :: 13 :: []) :: [0, 1, 2, 3, 4, 5, 6, 7, 8, 9] :: [0, 1, 2, 3, 4, 5, 6, 7, 8, 9, 15] :: [0, 1, 2, 3, 4, 5, 6, 7, 8, 9, 15, 16] :: (0 :: 1 :: 2 :: 3 :: 4 :: 5 :: 6 :: 7 :: 8 :: 9 :: 15 :: 16 :: 17 :: []) :: (0 :: 1 :: 2 :: 3 :: 4 :: 5 :: 6 :: 7 :: 8 :: 9 :: 15 :: 16 :: 17 :: 18 :: []) :: (0 :: 1 :: 2 :: 3 :: 4 :: 5 :: 6 :: 7 :: 8 :: 9 :: 15 :: 16 :: 17 :: 18 :: 19 :: []) :: (0 :: 1 :: 2 :: 3 :: 4 :: 5 :: 6 :: 7 :: 8 :: 9 :: 11 :: 12 :: 13 :: 14 :: 15 :: 16 :: 17 :: 18 :: 19 :: 20 :: []) :: (0 :: 1 :: 2 :: 3 :: 4 :: 5 :: 6 :: 7 :: 8 :: 9 :: 11 :: 12 :: 13 :: 14 :: 15 :: 16 :: 17 :: 18 :: 19 :: 20 :: 21 :: []) :: (0 :: 1 :: 2 :: 3 :: 4 :: 5 :: 6 :: 7 :: 8 :: 9 :: 11 :: 12 :: 13 :: 14 :: 15 :: 16 :: 17 :: 18 :: 19 :: 20 :: 21 :: 22 :: []) :: (0 :: 1 :: 2 :: 3 :: 4 :: 5 :: 6 :: 7 :: 8 :: 9 :: 10 :: 11 :: 12 :: 13 :: 14 :: 15 :: 16 :: 17 :: 18 :: 19 :: 20 :: 21 :: 22 :: 23 :: []) :: (0 :: 1 :: 2 :: 3 :: 4 :: 5 :: 6 :: 7 :: 8 :: 9 :: 10 :: 11 :: 12 :: 13 :: 14 :: 15 :: 16 :: 17 :: 18 :: 19 :: 20 :: 21 :: 22 :: 23 :: 24 :: []) :: (0 :: 1 :: 2 :: 3 :: 4 :: 5 :: 6 :: 7 :: 8 :: 9 :: 10 :: 11 :: 12 :: 13 :: 14 :: 15 :: 16 :: 17 :: 18 :: 19 :: 20 :: 21 :: 22 :: 23 :: 24 :: 25 :: []) :: (0 :: 1 :: 2 :: 3 :: 4 :: 5 :: 6 :: 7 :: 8 :: 9 :: 10 :: 11 :: 12 :: 13 :: 14 :: 15 :: 16 :: 17 :: 18 :: 19 :: 20 :: 21 :: 22 :: 23 :: 24 :: 25 :: 26 :: []) :: (0 :: 1 :: 2 :: 3 :: 4 :: 5 :: 6 :: 7 :: 8 :: 9 :: 10 :: 11 :: 12 :: 13 :: 14 :: 15 :: 16 :: 17 :: 18 :: 19 :: 20 :: 21 :: 22 :: 23 :: 24 :: 25 :: 26 :: []) :: (0 :: 1 :: 2 :: 3 :: 4 :: 5 :: 6 :: 7 :: 8 :: 9 :: 10 :: 11 :: 12 :: 13 :: 14 :: 15 :: 16 :: 17 :: 18 :: 19 :: 20 :: 21 :: 22 :: 23 :: 24 :: 25 :: 26 :: 28 :: []) :: (0 :: 1 :: 2 :: 3 :: 4 :: 5 :: 6 :: 7 :: 8 :: 9 :: 10 :: 11 :: 12 :: 13 :: 14 :: 15 :: 16 :: 17 :: 18 :: 19 :: 20 :: 21 :: 22 :: 23 :: 24 :: 25 :: 26 :: 28 :: 29 :: []) :: (0 :: 1 :: 2 :: 3 :: 4 :: 5 :: 6 :: 7 :: 8 :: 9 :: 10 :: 11 :: 12 :: 13 :: 14 :: 15 :: 16 :: 17 :: 18 :: 19 :: 20 :: 21 :: 22 :: 23 :: 24 :: 25 :: 26 :: 28 :: 29 :: 30 :: []) :: (0 :: 1 :: 2 :: 3 :: 4 :: 5 :: 6 :: 7 :: 8 :: 9 :: 10 :: 11 :: 12 :: 13 :: 14 :: 15 :: 16 :: 17 :: 18 :: 19 :: 20 :: 21 :: 22 :: 23 :: 24 :: 25 :: 26 :: 28 :: 29 :: 30 :: 31 :: []) :: (0 :: 1 :: 2 :: 3 :: 4 :: 5 :: 6 :: 7 :: 8 :: 9 :: 10 :: 11 :: 12 :: 13 :: 14 :: 15 :: 16 :: 17 :: 18 :: 19 :: 20 :: 21 :: 22 :: 23 :: 24 :: 25 :: 26 :: 27 :: 28 :: 29 :: 30 :: 31 :: 32 :: []) :: (0 :: 1 :: 2 :: 3 :: 4 :: 5 :: 6 :: 7 :: 8 :: 9 :: 10 :: 11 :: 12 :: 13 :: 14 :: 15 :: 16 :: 17 :: 18 :: 19 :: 20 :: 21 :: 22 :: 23 :: 24 :: 25 :: 26 :: 27 :: 28 :: 29 :: 30 :: 31 :: 32 :: 33 :: []) :: [])) [2, 3, 4] [0, 1, 4] mixed rfl rfl rfl (PanOk.thn (PanOk.thn (PanOk.inb (PanOk.thn (PanOk.thn (PanOk.inb (PanOk.thn (PanOk.thn PanOk.body)))))))) fun I0 hS h0 hh0 w0 sH dd pk => ?_
        refine DH_take (v := .int .u64 r1131.1) 0 (by kernel_rfl) rfl rfl (.no rfl) pk sH rfl (VR.ofV (V_move rfl)) ?_
        refine DH_take (v := .pointer (some ⟨b38, 0, none⟩)) 1 (by kernel_rfl) rfl rfl (.no rfl) pk sH rfl (VR.ofV (V_move rfl)) ?_
        refine DH_take (v := .pointer (some ⟨b38, 0, none⟩)) 2 (by kernel_rfl) rfl rfl (.no rfl) pk sH rfl (VR.ofV (V_nilCheck rfl)) ?_
        refine DH_take (v := .pointer (some ((⟨b38, 0, none⟩ : Addr).add 1))) 3 (by kernel_rfl) rfl rfl (.no rfl) pk sH rfl (VR.ofV (V_fieldAddrN (B := ⟨b38, 0, none⟩) (m := 0) (o := 1) Try.underlying49 rfl nz47 rfl rfl)) ?_
        refine DH_take 4 (by kernel_rfl) rfl rfl (.no rfl) pk sH rfl (VR_load_blk (b := b38) (m := 1) (k := 0) Try.underlying47 rfl rfl rfl rfl) ?_
        obtain ⟨⟨g1433, g1434⟩, H⟩ := g_pos H
        refine DH_take 5 (by kernel_rfl) rfl rfl (.no rfl) pk sH rfl (VR_index (i := (0 : Int)) Try.underlying47 sz63 rfl rfl (Src.buf (k := 1) rfl) g1433 g1434) ?_
        refine DH_take (v := .pointer (some ((el A39 ((0 : Int).toNat * 3)).add 0))) 6 (by kernel_rfl) rfl rfl (.no rfl) pk sH rfl (VR.ofV (V_fieldAddrN (B := el A39 ((0 : Int).toNat * 3)) (m := 0) (o := 0) Try.underlying63 rfl nz44 rfl rfl)) ?_
        refine DH_take 7 (by kernel_rfl) rfl rfl (.no rfl) pk sH rfl (VR_load_el (enc := enc63) (i := (0 : Int)) (j := (0 : Int).toNat * 3) (m := 0) (sz := 3) Try.underlying44 rfl rfl rfl rfl (Src.buf (k := 1) rfl) g1433 g1434 (fun _ _ h => h) rfl) ?_
        refine DH_take (v := .bool (decide (r1131.1 ≠ ((rd s33.2.1.f1 (0 : Int)).f0)))) 8 (by kernel_rfl) rfl rfl (.no rfl) pk sH rfl (VR.ofV (V_neq rfl rfl)) ?_
        refine DH_take (v := .bool (decide (r1131.1 ≠ ((rd s33.2.1.f1 (0 : Int)).f0)))) 9 (by kernel_rfl) rfl rfl (.no rfl) pk sH rfl (VR.ofV (V_move rfl)) ?_
        by_cases h3234 : r1131.1 ≠ ((rd s33.2.1.f1 (0 : Int)).f0)
        · replace H := g_ift h3234 H
          refine DH_skip 10 (by kernel_rfl) rfl rfl (.no rfl rfl rfl rfl (dec_t h3234)) pk rfl ?_
          refine DH_skip 11 (by kernel_rfl) rfl rfl (.no rfl rfl rfl rfl (dec_t h3234)) pk rfl ?_
          refine DH_skip 12 (by kernel_rfl) rfl rfl (.no rfl rfl rfl rfl (dec_t h3234)) pk rfl ?_
          refine DH_skip 13 (by kernel_rfl) rfl rfl (.no rfl rfl rfl rfl (dec_t h3234)) pk rfl ?_
          refine DH_skip 14 (by kernel_rfl) rfl rfl (.no rfl rfl rfl rfl (dec_t h3234)) pk rfl ?_
          refine DH_skip 15 (by kernel_rfl) rfl rfl (.no rfl rfl rfl rfl (dec_t h3234)) pk rfl ?_
          refine DH_skip 16 (by kernel_rfl) rfl rfl (.no rfl rfl rfl rfl (dec_t h3234)) pk rfl ?_
          refine DH_skip 17 (by kernel_rfl) rfl rfl (.no rfl rfl rfl rfl (dec_t h3234)) pk rfl ?_
          refine DH_skip 18 (by kernel_rfl) rfl rfl (.no rfl rfl rfl rfl (dec_t h3234)) pk rfl ?_
          refine DH_skip 19 (by kernel_rfl) rfl rfl (.no rfl rfl rfl rfl (dec_t h3234)) pk rfl ?_
          refine DH_skip 20 (by kernel_rfl) rfl rfl (.no rfl rfl rfl rfl (dec_t h3234)) pk rfl ?_
          refine DH_skip 21 (by kernel_rfl) rfl rfl (.no rfl rfl rfl rfl (dec_t h3234)) pk rfl ?_
          refine DH_skip 22 (by kernel_rfl) rfl rfl (.no rfl rfl rfl rfl (dec_t h3234)) pk rfl ?_
          refine DH_skip 23 (by kernel_rfl) rfl rfl (.no rfl rfl rfl rfl (dec_t h3234)) pk rfl ?_
          refine DH_skip 24 (by kernel_rfl) rfl rfl (.no rfl rfl rfl rfl (dec_t h3234)) pk rfl ?_
          refine DH_take 25 (by kernel_rfl) rfl rfl (.no rfl) pk sH rfl (VR.ofV (V_pickT rfl (dec_t h3234) rfl)) ?_
          refine DH_take (v := .bool true) 26 (by kernel_rfl) rfl rfl (.no rfl) pk sH rfl (VR.ofV (V_move rfl)) ?_
          refine DH_skip 27 (by kernel_rfl) rfl rfl (.no rfl rfl rfl rfl (rfl)) pk rfl ?_
          refine DH_skip 28 (by kernel_rfl) rfl rfl (.no rfl rfl rfl rfl (rfl)) pk rfl ?_
          refine DH_skip 29 (by kernel_rfl) rfl rfl (.no rfl rfl rfl rfl (rfl)) pk rfl ?_
          refine DH_skip 30 (by kernel_rfl) rfl rfl (.no rfl rfl rfl rfl (rfl)) pk rfl ?_
          refine DH_skip 31 (by kernel_rfl) rfl rfl (.no rfl rfl rfl rfl (rfl)) pk rfl ?_
          refine DH_skip 32 (by kernel_rfl) rfl rfl (.no rfl rfl rfl rfl (rfl)) pk rfl ?_
          refine DH_skip 33 (by kernel_rfl) rfl rfl (.no rfl rfl rfl rfl (rfl)) pk rfl ?_
          refine DH_take 34 (by kernel_rfl) rfl rfl (.no rfl) pk sH rfl (VR.ofV (V_pickT rfl (rfl) rfl)) ?_
          refine DH_open dd sH ?_
          refine DN_done (by kernel_rfl) ?_
          have hr_ := Option.some.inj H
          subst hr_
          exact at_normal (St.mk1 (aeq rfl (aeq rfl (aeq rfl (aeq rfl (aeq rfl (aeq rfl aeq0)))))) (Gh.sel [2, 3, 4, 0, 1] rfl rfl))
        replace H := g_iff h3234 H
        refine DH_take (v := .int .u64 r1131.2.1) 10 (by kernel_rfl) rfl rfl (.yes rfl rfl rfl rfl (dec_f h3234)) pk sH rfl (VR.ofV (V_move rfl)) ?_
        refine DH_take (v := .pointer (some ⟨b38, 0, none⟩)) 11 (by kernel_rfl) rfl rfl (.yes rfl rfl rfl rfl (dec_f h3234)) pk sH rfl (VR.ofV (V_move rfl)) ?_
        refine DH_take (v := .pointer (some ⟨b38, 0, none⟩)) 12 (by kernel_rfl) rfl rfl (.yes rfl rfl rfl rfl (dec_f h3234)) pk sH rfl (VR.ofV (V_nilCheck rfl)) ?_
        refine DH_take (v := .pointer (some ((⟨b38, 0, none⟩ : Addr).add 1))) 13 (by kernel_rfl) rfl rfl (.yes rfl rfl rfl rfl (dec_f h3234)) pk sH rfl (VR.ofV (V_fieldAddrN (B := ⟨b38, 0, none⟩) (m := 0) (o := 1) Try.underlying49 rfl nz47 rfl rfl)) ?_
        refine DH_take 14 (by kernel_rfl) rfl rfl (.yes rfl rfl rfl rfl (dec_f h3234)) pk sH rfl (VR_load_blk (b := b38) (m := 1) (k := 0) Try.underlying47 rfl rfl rfl rfl) ?_
        refine DH_take (v := .pointer (some ⟨b38, 0, none⟩)) 15 (by kernel_rfl) rfl rfl (.yes rfl rfl rfl rfl (dec_f h3234)) pk sH rfl (VR.ofV (V_move rfl)) ?_
        refine DH_take (v := .pointer (some ⟨b38, 0, none⟩)) 16 (by kernel_rfl) rfl rfl (.yes rfl rfl rfl rfl (dec_f h3234)) pk sH rfl (VR.ofV (V_nilCheck rfl)) ?_
        refine DH_take (v := .pointer (some ((⟨b38, 0, none⟩ : Addr).add 1))) 17 (by kernel_rfl) rfl rfl (.yes rfl rfl rfl rfl (dec_f h3234)) pk sH rfl (VR.ofV (V_fieldAddrN (B := ⟨b38, 0, none⟩) (m := 0) (o := 1) Try.underlying49 rfl nz47 rfl rfl)) ?_
        refine DH_take 18 (by kernel_rfl) rfl rfl (.yes rfl rfl rfl rfl (dec_f h3234)) pk sH rfl (VR_load_blk (b := b38) (m := 1) (k := 0) Try.underlying47 rfl rfl rfl rfl) ?_
        refine DH_take (v := .int .i64 (s33.2.1.f1.length : Int)) 19 (by kernel_rfl) rfl rfl (.yes rfl rfl rfl rfl (dec_f h3234)) pk sH rfl (VR.ofV (V_len Try.underlying47 rfl)) ?_
        refine DH_take (v := .int .i64 (IntKind.i64.wrap ((s33.2.1.f1.length : Int) - 1))) 20 (by kernel_rfl) rfl rfl (.yes rfl rfl rfl rfl (dec_f h3234)) pk sH rfl (VR.ofV (V_sub rfl rfl)) ?_
        obtain ⟨⟨g2393, g2394⟩, H⟩ := g_pos H
        refine DH_take 21 (by kernel_rfl) rfl rfl (.yes rfl rfl rfl rfl (dec_f h3234)) pk sH rfl (VR_index (i := IntKind.i64.wrap ((s33.2.1.f1.length : Int) - 1)) Try.underlying47 sz63 rfl rfl (Src.buf (k := 1) rfl) g2393 g2394) ?_
        refine DH_take (v := .pointer (some ((el A39 ((IntKind.i64.wrap ((s33.2.1.f1.length : Int) - 1)).toNat * 3)).add 0))) 22 (by kernel_rfl) rfl rfl (.yes rfl rfl rfl rfl (dec_f h3234)) pk sH rfl (VR.ofV (V_fieldAddrN (B := el A39 ((IntKind.i64.wrap ((s33.2.1.f1.length : Int) - 1)).toNat * 3)) (m := 0) (o := 0) Try.underlying63 rfl nz44 rfl rfl)) ?_
        refine DH_take 23 (by kernel_rfl) rfl rfl (.yes rfl rfl rfl rfl (dec_f h3234)) pk sH rfl (VR_load_el (enc := enc63) (i := IntKind.i64.wrap ((s33.2.1.f1.length : Int) - 1)) (j := (IntKind.i64.wrap ((s33.2.1.f1.length : Int) - 1)).toNat * 3) (m := 0) (sz := 3) Try.underlying44 rfl rfl rfl rfl (Src.buf (k := 1) rfl) g2393 g2394 (fun _ _ h => h) rfl) ?_
        refine DH_take (v := .bool (decide (r1131.2.1 ≠ ((rd s33.2.1.f1 (IntKind.i64.wrap ((s33.2.1.f1.length : Int) - 1))).f0)))) 24 (by kernel_rfl) rfl rfl (.yes rfl rfl rfl rfl (dec_f h3234)) pk sH rfl (VR.ofV (V_neq rfl rfl)) ?_
        refine DH_take 25 (by kernel_rfl) rfl rfl (.no rfl) pk sH rfl (VR.ofV (V_pickF rfl (dec_f h3234) rfl)) ?_
        refine DH_take (v := .bool (decide (r1131.2.1 ≠ ((rd s33.2.1.f1 (IntKind.i64.wrap ((s33.2.1.f1.length : Int) - 1))).f0)))) 26 (by kernel_rfl) rfl rfl (.no rfl) pk sH rfl (VR.ofV (V_move rfl)) ?_
        by_cases h3235 : r1131.2.1 ≠ ((rd s33.2.1.f1 (IntKind.i64.wrap ((s33.2.1.f1.length : Int) - 1))).f0)
        · replace H := g_ift h3235 H
          refine DH_skip 27 (by kernel_rfl) rfl rfl (.no rfl rfl rfl rfl (dec_t h3235)) pk rfl ?_
          refine DH_skip 28 (by kernel_rfl) rfl rfl (.no rfl rfl rfl rfl (dec_t h3235)) pk rfl ?_
          refine DH_skip 29 (by kernel_rfl) rfl rfl (.no rfl rfl rfl rfl (dec_t h3235)) pk rfl ?_
          refine DH_skip 30 (by kernel_rfl) rfl rfl (.no rfl rfl rfl rfl (dec_t h3235)) pk rfl ?_
          refine DH_skip 31 (by kernel_rfl) rfl rfl (.no rfl rfl rfl rfl (dec_t h3235)) pk rfl ?_
          refine DH_skip 32 (by kernel_rfl) rfl rfl (.no rfl rfl rfl rfl (dec_t h3235)) pk rfl ?_
          refine DH_skip 33 (by kernel_rfl) rfl rfl (.no rfl rfl rfl rfl (dec_t h3235)) pk rfl ?_
          refine DH_take 34 (by kernel_rfl) rfl rfl (.no rfl) pk sH rfl (VR.ofV (V_pickT rfl (dec_t h3235) rfl)) ?_
          refine DH_open dd sH ?_
          refine DN_done (by kernel_rfl) ?_
          have hr_ := Option.some.inj H
          subst hr_
          exact at_normal (St.mk1 (aeq rfl (aeq rfl (aeq rfl (aeq rfl (aeq rfl (aeq rfl aeq0)))))) (Gh.sel [2, 3, 4, 0, 1] rfl rfl))
        replace H := g_iff h3235 H
        refine DH_take (v := .int .i64 r1131.2.2) 27 (by kernel_rfl) rfl rfl (.yes rfl rfl rfl rfl (dec_f h3235)) pk sH rfl (VR.ofV (V_move rfl)) ?_
        refine DH_take (v := .pointer (some ⟨b38, 0, none⟩)) 28 (by kernel_rfl) rfl rfl (.yes rfl rfl rfl rfl (dec_f h3235)) pk sH rfl (VR.ofV (V_move rfl)) ?_
        refine DH_take (v := .pointer (some ⟨b38, 0, none⟩)) 29 (by kernel_rfl) rfl rfl (.yes rfl rfl rfl rfl (dec_f h3235)) pk sH rfl (VR.ofV (V_nilCheck rfl)) ?_
        refine DH_take (v := .pointer (some ((⟨b38, 0, none⟩ : Addr).add 1))) 30 (by kernel_rfl) rfl rfl (.yes rfl rfl rfl rfl (dec_f h3235)) pk sH rfl (VR.ofV (V_fieldAddrN (B := ⟨b38, 0, none⟩) (m := 0) (o := 1) Try.underlying49 rfl nz47 rfl rfl)) ?_
        refine DH_take 31 (by kernel_rfl) rfl rfl (.yes rfl rfl rfl rfl (dec_f h3235)) pk sH rfl (VR_load_blk (b := b38) (m := 1) (k := 0) Try.underlying47 rfl rfl rfl rfl) ?_
        refine DH_take (v := .int .i64 (s33.2.1.f1.length : Int)) 32 (by kernel_rfl) rfl rfl (.yes rfl rfl rfl rfl (dec_f h3235)) pk sH rfl (VR.ofV (V_len Try.underlying47 rfl)) ?_
        refine DH_take (v := .bool (decide (r1131.2.2 ≠ (s33.2.1.f1.length : Int)))) 33 (by kernel_rfl) rfl rfl (.yes rfl rfl rfl rfl (dec_f h3235)) pk sH rfl (VR.ofV (V_neq rfl rfl)) ?_
        refine DH_take 34 (by kernel_rfl) rfl rfl (.no rfl) pk sH rfl (VR.ofV (V_pickF rfl (dec_f h3235) rfl)) ?_
        refine DH_open dd sH ?_
        refine DN_done (by kernel_rfl) ?_
        have hr_ := Option.some.inj H
        subst hr_
        exact at_normal (St.mk1 (aeq rfl (aeq rfl (aeq rfl (aeq rfl (aeq rfl (aeq rfl aeq0)))))) (Gh.sel [2, 3, 4, 0, 1] rfl rfl))
      rintro e ds As hst3236
      clear H
      have H := Bt1132
      clear Bt1132
      refine at_normal ?_
      refine SA.of_St hst3236 fun junk => ?_
      by_cases h3237 : t1132 = true
      · replace H := g_ift h3237 H
        refine SA_condTb rfl h3237 ?_
        refine SA_seq ?_
        refine SA_region ?_
        refine RA_step rfl (OA_v (v := .bool false) rfl (V_assign rfl) ?_)
        refine RA_nil ?_
        refine at_normal ?_
        refine SA_ret ?_
        refine inb_ret ?_
        refine thn_ret ?_
        refine thn_ret ?_
        refine inb_ret ?_
        refine thn_ret ?_
        refine thn_ret ?_
        have hr_ := Option.some.inj H
        subst hr_
        have hb_ := el_ret Bt15
        have hr_ := Option.some.inj hb_
        clear hb_
        subst hr_
        exact BQ_R1 [] rfl rfl (Gh.sel [] rfl rfl) ⟨rfl, rfl⟩
      replace H := g_iff h3237 H
      refine SA_condFb rfl h3237 ?_
      refine SA_skip ?_
      refine inb_normal ?_
      refine at_normal ?_
      refine SA_region ?_
      refine RA_step rfl (OA_v (v := .int .i64 x8_16) rfl (V_move rfl) ?_)
      refine RA_step rfl (OA_v (v := .int .i64 (IntKind.i64.wrap (x8_16 + 1))) rfl (V_add rfl rfl) ?_)
      obtain ⟨n3238, hn3238, H⟩ := g_lt H
      refine RA_step rfl (OA_v (v := .int .i64 n3238) rfl (V_assign (v := .int .i64 n3238) (congrArg (Value.int .i64) hn3238.symm)) ?_)
      refine RA_nil ?_
      exact at_normal ⟨k25, Nat.lt_succ_self _, _, _, _, _, b34, A35, c36, b38, A39, c40, H, St.mk1 (aeq rfl (aeq rfl (aeq rfl (aeq rfl (aeq rfl aeq0))))) (Gh.sel [0, 1, 2, 3, 4] rfl rfl)⟩
    replace H := g_iff h27 H
    refine SA_condF rfl h27 ?_
    refine SA_exit ?_
    refine thn_exit ?_
    refine thn_exit ?_
    refine inb_hit ?_
    have hr_ := Option.some.inj H
    subst hr_
    exact at_normal ⟨(), rfl, St.mk1 aeq0 (Gh.sel [] rfl rfl)⟩
  rintro e ds As ⟨s16, ht, hst3240⟩
  clear H
  subst ht
  replace Bt15 := el_go Bt15
  have H := Bt15
  clear Bt15
  refine at_normal ?_
  refine SA.of_St hst3240 fun junk => ?_
  refine SA_seq ?_
  refine SA_region ?_
  obtain ⟨r3241, C3242, H⟩ := g_bind H
  refine RA_step rfl (OA_callA [] [] rfl (X_fn (vs := []) Try.func29 nm29 rfl rfl) rfl (F29.ok C3242) rfl ?_)
  rintro _ _ ⟨rfl, rfl⟩
  refine RA_step rfl (OA_v (v := .bool r3241) rfl (V_assign rfl) ?_)
  refine RA_nil ?_
  refine at_normal ?_
  refine SA_ret ?_
  have hr_ := Option.some.inj H
  subst hr_
  exact BQ_R1 [] rfl rfl (Gh.sel [] rfl rfl) ⟨rfl, rfl⟩
end Go.Proofs.Ytodkeoibebimgaa.Sq
